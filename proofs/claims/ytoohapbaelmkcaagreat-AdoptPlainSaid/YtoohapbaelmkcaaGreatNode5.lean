/- The walks of what is told of a node, and of copies; no condition. -/
import Derived.Test.YtoohapbaelmkcaaGreatNode4
set_option linter.unusedVariables false
set_option linter.unusedSimpArgs false
set_option maxRecDepth 100000
namespace Go.Proofs.YtoohapbaelmkcaaGreat
open Go Go.Hb Go.RowKit
/-- what Node tells, with attributes of its own -/
def ownN (n : Api_node) (q : Option Addr) (d : Nat) : Api_node := { n with AttrsP := q, AttrsC := d }
theorem Node_spec {k : Ctx} {w : World} {a : Nat} {A : List Node_one} {id : Int} (hn : 0 < A.length) (ha : AttrsOk A) (hO : Own k w [arenaL a A]) :
    Tri Tryz.prog 14 #[.pointer (some ⟨a, 0, none⟩), .int .i64 id] k w fun v m =>
      (hasB A id = false ∧ v = .tuple #[.agg (Api_node.cells default).toArray, .int .i64 6] ∧ m = [arenaL a A]) ∨
      (hasB A id = true ∧ ∃ q d, v = .tuple #[.agg (Api_node.cells (ownN (at_ A id.toNat).Node q d)).toArray, .int .i64 0] ∧ m = [arenaL a A, sls q d 115 4 Api_attr.cells (at_ A id.toNat).Node.Attrs]) := by
  refine enter (args := [.pointer (some ⟨a, 0, none⟩), .int .i64 id]) Tryz.func14 rfl rfl ?_
  obtain ⟨p, c, hg, hO⟩ := arenaL_open hO
  refine K0 (K1 ?_)
  refine s_alloc (vs := [.int .i64 0, .int .i64 0, .string ⟨#[]⟩, .slice none 0 0, .string ⟨#[]⟩, .string ⟨#[]⟩, .int .i64 0, .int .i64 0, .int .i64 0, .int .i64 0, .int .i64 0, .int .i64 0]) hO rfl rfl rfl fun b4 w hO => ?_
  refine l_y rfl rfl (y_assign rfl) ?_
  refine K2 (K3 (K0 (K4 (K0 (K1 ?_)))))
  refine l_y rfl rfl (y_move rfl) ?_
  refine CK [.b a, .p p] hO rfl (fun k' hx hr hO' => none_spec (hO := hO')) ?_
  rintro _ _ w ⟨rfl, rfl⟩ hO
  simp only [List.cons_append, List.nil_append] at hO
  refine l_y rfl rfl (y_assign rfl) ?_
  refine K2 (K3 (L9 (K0 (K1 ?_))))
  refine l_y rfl rfl (y_move rfl) ?_
  refine l_y rfl rfl (y_move rfl) ?_
  refine CK [.b a, .p p] hO rfl (fun k' hx hr hO' => has_spec (hO := hO')) ?_
  rintro _ _ w ⟨rfl, rfl⟩ hO
  simp only [List.cons_append, List.nil_append] at hO
  refine l_y rfl rfl (y_not rfl rfl) ?_
  refine l_y rfl rfl (y_assign rfl) ?_
  refine K2 (K3 ?_)
  refine c_split rfl (fun hc11 => ?_) (fun hc11 => ?_)
  · simp only [Bool.not_eq_true', Bool.not_eq_false'] at hc11
    refine K0 (K1 ?_)
    refine s_build (parts := []) (cs := [.int .i64 0, .int .i64 0, .string ⟨#[]⟩, .slice none 0 0, .string ⟨#[]⟩, .string ⟨#[]⟩, .int .i64 0, .int .i64 0, .int .i64 0, .int .i64 0, .int .i64 0, .int .i64 0]) rfl rfl (fun a ha => partsOf_sound ha _ _ rfl) (by kernel_rfl) ?_
    refine Y3 hO rfl rfl (fun w hO => ?_)
    refine l_y rfl rfl (y_assign rfl) ?_
    refine K2 (K3 (K6 (L0 (K9 ?_))))
    exact finC1 hO rfl rfl rfl ⟨_, .inl ⟨hc11, rfl, rfl⟩, (arenaL_shut (hO.ks [.s, .b a, .p p])).one⟩
  · simp only [Bool.not_eq_true', Bool.not_eq_false'] at hc11
    refine K5 (K8 (K3 (K0 ?_)))
    have hid := hasB_true hc11
    have hli := ha id.toNat (by omega)
    refine K1 ?_
    refine l_y rfl rfl (y_move rfl) ?_
    refine l_y rfl rfl (y_nilCheck rfl rfl) ?_
    refine l_y rfl rfl (y_fldb (o' := 0) rfl) ?_
    refine l_y rfl rfl (D5 hO rfl) ?_
    refine l_y rfl rfl (y_move rfl) ?_
    refine l_y rfl rfl (y_idx rfl rfl) ?_
    refine l_y rfl rfl (y_fld (j' := 0) rfl) ?_
    refine l_y rfl rfl (y_eA (x0 := 0) (cs := [.int .i64 (at_ A (id : Int).toNat).Node.Kind, .int .i64 (at_ A (id : Int).toNat).Node.Space, .string (at_ A (id : Int).toNat).Node.Name, .slice (at_ A (id : Int).toNat).Node.AttrsP (at_ A (id : Int).toNat).Node.Attrs.length (at_ A (id : Int).toNat).Node.AttrsC, .string (at_ A (id : Int).toNat).Node.Data, .string (at_ A (id : Int).toNat).Node.System, .int .i64 (at_ A (id : Int).toNat).Node.Parent, .int .i64 (at_ A (id : Int).toNat).Node.First, .int .i64 (at_ A (id : Int).toNat).Node.Last, .int .i64 (at_ A (id : Int).toNat).Node.Prev, .int .i64 (at_ A (id : Int).toNat).Node.Next, .int .i64 (at_ A (id : Int).toNat).Node.Inner]) hO rfl) ?_
    refine s_alloc (vs := [.int .i64 0, .int .i64 0, .string ⟨#[]⟩, .slice none 0 0, .string ⟨#[]⟩, .string ⟨#[]⟩, .int .i64 0, .int .i64 0, .int .i64 0, .int .i64 0, .int .i64 0, .int .i64 0]) hO rfl rfl rfl fun b6 w hO => ?_
    refine Y3 hO rfl rfl (fun w hO => ?_)
    refine K2 (K3 (K0 ?_))
    have hO := arena_pick (i := id.toNat) (by omega) (hO.ks [.s, .b a, .p p])
    refine K1 ?_
    refine l_y rfl rfl (y_fldb (o' := 3) rfl) ?_
    refine l_y rfl rfl (D5 hO rfl) ?_
    refine CK [] hO rfl (fun k' hx hr hO' => own_spec (sls_roK hr (sls_fct (p := (at_ A id.toNat).Node.AttrsP) hO)) (by omega) (hO := hO')) ?_
    rintro _ _ w ⟨q, rfl, rfl⟩ hO
    refine l_y rfl rfl (y_fldb (o' := 3) rfl) ?_
    refine Y1 hO rfl rfl (fun w hO => ?_)
    simp only [List.set_cons_zero, List.set_cons_succ] at hO
    refine K2 (K3 (K0 (K1 ?_)))
    refine l_y rfl rfl (D8 (cs := [.int .i64 (at_ A (id : Int).toNat).Node.Kind, .int .i64 (at_ A (id : Int).toNat).Node.Space, .string (at_ A (id : Int).toNat).Node.Name, .slice (some ⟨q, 0, none⟩) (at_ A id.toNat).Node.Attrs.length (at_ A id.toNat).Node.Attrs.length, .string (at_ A (id : Int).toNat).Node.Data, .string (at_ A (id : Int).toNat).Node.System, .int .i64 (at_ A (id : Int).toNat).Node.Parent, .int .i64 (at_ A (id : Int).toNat).Node.First, .int .i64 (at_ A (id : Int).toNat).Node.Last, .int .i64 (at_ A (id : Int).toNat).Node.Prev, .int .i64 (at_ A (id : Int).toNat).Node.Next, .int .i64 (at_ A (id : Int).toNat).Node.Inner]) hO rfl) ?_
    refine Y3 hO rfl rfl (fun w hO => ?_)
    refine l_y rfl rfl (y_assign rfl) ?_
    refine K2 (K3 (K6 ?_))
    have hO2 := arena_put (y := at_ A id.toNat) (by omega) (hO.ks [.p (at_ A id.toNat).Node.AttrsP, .s])
    rw [set_at (by omega)] at hO2
    exact finC1 hO rfl rfl rfl ⟨_, .inr ⟨hc11, some ⟨q, 0, none⟩, _, rfl, rfl⟩, ((arenaL_shut (hO2.ks [.s, .b a, .p p])).ks [.o a, .p (some ⟨q, 0, none⟩)]).two⟩
/-- the children from one on -/
def Chain (A : List Node_one) : Int → List Int → Prop
  | c, [] => c = -1
  | c, x :: xs => c = x ∧ x ≠ -1 ∧ hasB A x = true ∧ Chain A (at_ A x.toNat).Node.Next xs
abbrev itF (a : Nat) (p : Option Addr) (c : Nat) (A : List Node_one) (b2 b3 : Nat) (id : Int) : List HP := [arB a p A.length c, arS p c A, blk b2 22 [.pointer (some ⟨a, 0, none⟩)], blk b3 3 [.int .i64 id]]
theorem children_spec {k : Ctx} {w : World} {a : Nat} {id : Int} (hO : Own k w []) :
    Tri Tryz.prog 132 #[.pointer (some ⟨a, 0, none⟩), .int .i64 id] k w fun v m => ∃ b2 b3, v = .func (.func 141) #[] #[.pointer (some ⟨b2, 0, none⟩), .pointer (some ⟨b3, 0, none⟩)] ∧ m = [blk b2 22 [.pointer (some ⟨a, 0, none⟩)], blk b3 3 [.int .i64 id]] := by
  refine enter (args := [.pointer (some ⟨a, 0, none⟩), .int .i64 id]) Tryz.func132 rfl rfl ?_
  refine K0 (K1 ?_)
  refine s_box (vs := [.pointer (some ⟨a, 0, none⟩)]) hO rfl rfl rfl (by rfl) fun b2 w hO => ?_
  refine s_box (vs := [.int .i64 id]) hO rfl rfl rfl (by rfl) fun b3 w hO => ?_
  refine l_y rfl rfl (y_assign rfl) ?_
  refine K2 (K3 (K0 (K1 ?_)))
  refine l_y rfl rfl (y_makeFunc rfl rfl) ?_
  refine l_y rfl rfl (y_assign rfl) ?_
  refine K2 (K3 (K6 ?_))
  exact fin1 rfl rfl ⟨_, ⟨b2, b3, rfl, rfl⟩, hO.only [.b b2, .b b3]⟩
end Go.Proofs.YtoohapbaelmkcaaGreat
