/- Whether two trees are alike; plain. And what Node and Kids tell of any number. -/
import Derived.Test.YthkmnohghpdjhaaCnt
import Derived.Test.YthkmnohghpdjhaaNode8
import Derived.Test.YthkmnohghpdjhaaOrder2
set_option linter.unusedVariables false
set_option linter.unusedSimpArgs false
namespace Go.Proofs.Ythkmnohghpdjhaa
open Go Go.Hb Go.RowKit
structure Loc (A : List Node_one) (K : Int → List Int) (B : List Node_one) (L : Int → List Int) (x y : Int) : Prop where
  ha : hasB A x = true
  hb : hasB B y = true
  kind : (nodeA A x).Kind = (nodeA B y).Kind
  space : (nodeA A x).Space = (nodeA B y).Space
  name : (nodeA A x).Name = (nodeA B y).Name
  data : (nodeA A x).Data = (nodeA B y).Data
  system : (nodeA A x).System = (nodeA B y).System
  attrs : (nodeA A x).Attrs = (nodeA B y).Attrs
  kids : (K x).length = (L y).length
  inner : (nodeA A x).Inner = -1 ↔ (nodeA B y).Inner = -1
noncomputable def locB (A : List Node_one) (K : Int → List Int) (B : List Node_one) (L : Int → List Int) (x y : Int) : Bool := @decide (Loc A K B L x y) (Classical.propDecidable _)
theorem locB_iff {A : List Node_one} {K : Int → List Int} {B : List Node_one} {L : Int → List Int} {x y : Int} : locB A K B L x y = true ↔ Loc A K B L x y := by simp [locB]
theorem locB_not {A : List Node_one} {K : Int → List Int} {B : List Node_one} {L : Int → List Int} {x y : Int} (h : ¬ Loc A K B L x y) : locB A K B L x y = false := by
  cases e : locB A K B L x y with
  | false => rfl
  | true => exact absurd (locB_iff.1 e) h
/-- the pairs right below a pair -/
def belowP (A : List Node_one) (K : Int → List Int) (B : List Node_one) (L : Int → List Int) (x y : Int) : List (Int × Int) := (if (nodeA A x).Inner = -1 then [] else [((nodeA A x).Inner, (nodeA B y).Inner)]) ++ (K x).zip (L y)
noncomputable def sameF (A : List Node_one) (K : Int → List Int) (B : List Node_one) (L : Int → List Int) : Nat → Int → Int → Bool
  | 0, _, _ => false
  | f + 1, x, y => locB A K B L x y && (belowP A K B L x y).all fun p => sameF A K B L f p.1 p.2
theorem below_cnt {A : List Node_one} {K : Int → List Int} (t : Tree A K) (g : InnOk A) {B : List Node_one} {L : Int → List Int} {x y : Int} (hx : InA A x) : ((belowP A K B L x y).map fun p => cnt A p.1).sum + 1 ≤ cnt A x := by
  have hz : (((K x).zip (L y)).map fun p => cnt A p.1).sum ≤ ((K x).map (cnt A)).sum := by
    generalize L y = m
    generalize K x = l
    induction l generalizing m with
    | nil => simp
    | cons a l ih =>
      cases m with
      | nil => simp
      | cons b m => have := ih m; simp only [List.zip_cons_cons, List.map_cons, List.sum_cons]; omega
  unfold belowP
  by_cases h : (nodeA A x).Inner = -1
  · rw [if_pos h, List.nil_append]
    have := kids_cnt t hx
    omega
  · rw [if_neg h]
    have := inner_cnt t g hx h
    simp only [List.cons_append, List.nil_append, List.map_cons, List.sum_cons]
    omega
theorem sum_memP {l : List (Int × Int)} {f : Int × Int → Nat} {c : Int × Int} (h : c ∈ l) : f c ≤ (l.map f).sum := by
  induction l with
  | nil => simp at h
  | cons y l ih =>
    simp only [List.map_cons, List.sum_cons]
    rcases List.mem_cons.1 h with rfl | h
    · omega
    · have := ih h; omega
theorem all_congr {α : Type} {l : List α} {f g : α → Bool} (h : ∀ x ∈ l, f x = g x) : l.all f = l.all g := by
  induction l with
  | nil => rfl
  | cons y l ih => simp only [List.all_cons, h y (by simp), ih fun x hx => h x (by simp [hx])]
theorem loc_out {A : List Node_one} {K : Int → List Int} {B : List Node_one} {L : Int → List Int} {x y : Int} (h : cnt A x = 0) : locB A K B L x y = false := locB_not fun g => by
  have := cnt_pos (inA_iff.1 g.ha); omega
theorem sameF_fuel {A : List Node_one} {K : Int → List Int} (t : Tree A K) (g : InnOk A) {B : List Node_one} {L : Int → List Int} : ∀ (f f' : Nat) (x y : Int), cnt A x ≤ f → cnt A x ≤ f' → sameF A K B L f x y = sameF A K B L f' x y
  | 0, 0, _, _, _, _ => rfl
  | 0, f' + 1, x, y, h, _ => by
    show false = (_ && _)
    rw [loc_out (by omega)]; rfl
  | f + 1, 0, x, y, _, h => by
    show (_ && _) = false
    rw [loc_out (by omega)]; rfl
  | f + 1, f' + 1, x, y, h, h' => by
    show (_ && _) = (_ && _)
    by_cases hx : hasB A x = true
    · have hb := below_cnt t g (B := B) (L := L) (y := y) (inA_iff.1 hx)
      congr 1
      refine all_congr fun p hp => ?_
      have := sum_memP (f := fun p => cnt A p.1) hp
      exact sameF_fuel t g f f' p.1 p.2 (by omega) (by omega)
    · rw [locB_not fun h => hx h.ha]; rfl
noncomputable def sameN (A : List Node_one) (K : Int → List Int) (B : List Node_one) (L : Int → List Int) (x y : Int) : Bool := sameF A K B L A.length x y
theorem sameN_step {A : List Node_one} {K : Int → List Int} (t : Tree A K) (g : InnOk A) {B : List Node_one} {L : Int → List Int} {x y : Int} : sameN A K B L x y = (locB A K B L x y && (belowP A K B L x y).all fun p => sameN A K B L p.1 p.2) := by
  have e : sameN A K B L x y = sameF A K B L (A.length + 1) x y := sameF_fuel t g _ _ _ _ cnt_le (Nat.le_succ_of_le cnt_le)
  rw [e]; rfl
theorem sameN_no {A : List Node_one} {K : Int → List Int} (t : Tree A K) (g : InnOk A) {B : List Node_one} {L : Int → List Int} {x y : Int} (h : ¬ Loc A K B L x y) : sameN A K B L x y = false := by
  rw [sameN_step t g, locB_not h]; rfl
theorem sameN_yes {A : List Node_one} {K : Int → List Int} (t : Tree A K) (g : InnOk A) {B : List Node_one} {L : Int → List Int} {x y : Int} (h : Loc A K B L x y) : sameN A K B L x y = (belowP A K B L x y).all fun p => sameN A K B L p.1 p.2 := by
  rw [sameN_step t g, locB_iff.2 h, Bool.true_and]
/-! what Node and Kids tell of any number -/
def errN (A : List Node_one) (id : Int) : Int := if hasB A id = true then 0 else 6
/-- what Node tells -/
def NX (A : List Node_one) (id : Int) (n : Api_node) : Prop := hasB A id = true → ∃ q d, n = ownN (nodeA A id) q d
theorem NX.kind {A : List Node_one} {id : Int} {n : Api_node} (h : NX A id n) (hb : hasB A id = true) : n.Kind = (nodeA A id).Kind := by obtain ⟨q, d, rfl⟩ := h hb; rfl
theorem NX.space {A : List Node_one} {id : Int} {n : Api_node} (h : NX A id n) (hb : hasB A id = true) : n.Space = (nodeA A id).Space := by obtain ⟨q, d, rfl⟩ := h hb; rfl
theorem NX.name {A : List Node_one} {id : Int} {n : Api_node} (h : NX A id n) (hb : hasB A id = true) : n.Name = (nodeA A id).Name := by obtain ⟨q, d, rfl⟩ := h hb; rfl
theorem NX.data {A : List Node_one} {id : Int} {n : Api_node} (h : NX A id n) (hb : hasB A id = true) : n.Data = (nodeA A id).Data := by obtain ⟨q, d, rfl⟩ := h hb; rfl
theorem NX.system {A : List Node_one} {id : Int} {n : Api_node} (h : NX A id n) (hb : hasB A id = true) : n.System = (nodeA A id).System := by obtain ⟨q, d, rfl⟩ := h hb; rfl
theorem NX.inner {A : List Node_one} {id : Int} {n : Api_node} (h : NX A id n) (hb : hasB A id = true) : n.Inner = (nodeA A id).Inner := by obtain ⟨q, d, rfl⟩ := h hb; rfl
theorem NX.attrs {A : List Node_one} {id : Int} {n : Api_node} (h : NX A id n) (hb : hasB A id = true) : n.Attrs = (nodeA A id).Attrs := by obtain ⟨q, d, rfl⟩ := h hb; rfl
theorem NX.parent {A : List Node_one} {id : Int} {n : Api_node} (h : NX A id n) (hb : hasB A id = true) : n.Parent = (nodeA A id).Parent := by obtain ⟨q, d, rfl⟩ := h hb; rfl
theorem NX.first {A : List Node_one} {id : Int} {n : Api_node} (h : NX A id n) (hb : hasB A id = true) : n.First = (nodeA A id).First := by obtain ⟨q, d, rfl⟩ := h hb; rfl
theorem NX.last {A : List Node_one} {id : Int} {n : Api_node} (h : NX A id n) (hb : hasB A id = true) : n.Last = (nodeA A id).Last := by obtain ⟨q, d, rfl⟩ := h hb; rfl
theorem NX.prev {A : List Node_one} {id : Int} {n : Api_node} (h : NX A id n) (hb : hasB A id = true) : n.Prev = (nodeA A id).Prev := by obtain ⟨q, d, rfl⟩ := h hb; rfl
theorem NX.next {A : List Node_one} {id : Int} {n : Api_node} (h : NX A id n) (hb : hasB A id = true) : n.Next = (nodeA A id).Next := by obtain ⟨q, d, rfl⟩ := h hb; rfl
section
variable {k : Ctx} {w : World}
theorem NodeX_spec {a : Nat} {A : List Node_one} {id : Int} (hn : 0 < A.length) (ha : AttrsOk A) (hO : Own k w [arenaL a A]) :
    Tri Try.prog 34 #[.pointer (some ⟨a, 0, none⟩), .int .i64 id] k w fun v m => ∃ n, NX A id n ∧ v = .tuple #[.agg (Api_node.cells n).toArray, .int .i64 (errN A id)] ∧ m = [arenaL a A, sls n.AttrsP n.AttrsC 63 4 Api_attr.cells n.Attrs] := by
  refine Ret.mono (Node_spec hn ha hO) ?_
  rintro v w' ⟨m, (⟨h, rfl, rfl⟩ | ⟨h, q, d, rfl, rfl⟩), hO⟩
  · refine ⟨_, ⟨default, (fun e => by rw [h] at e; cases e), by rw [errN, h]; rfl, rfl⟩, ?_⟩
    exact (sl_nil 63 4 hO).swap
  · exact ⟨_, ⟨_, fun _ => ⟨q, d, rfl⟩, by rw [errN, h]; rfl, rfl⟩, hO⟩
def kidsX (A : List Node_one) (K : Int → List Int) (id : Int) : List Int := if hasB A id = true then K id else []
theorem KidsX_spec {a : Nat} {A : List Node_one} {K : Int → List Int} {id : Int} (h : Tree A K) (h0 : 0 < A.length) (hl : A.length ≤ 32768) (hO : Own k w [arenaL a A]) :
    Tri Try.prog 54 #[.pointer (some ⟨a, 0, none⟩), .int .i64 id] k w fun v m => ∃ q d, v = .slice q (kidsX A K id).length d ∧ m = [arenaL a A, sls q d 3 1 (eI .i64) (kidsX A K id)] := by
  refine Ret.mono (Kids_spec (xs := kidsX A K id) h0 (by
    unfold kidsX
    split
    · next e => have := h.len (inA_iff.1 e); omega
    · exact Nat.zero_le _) (fun e => by rw [kidsX, if_pos e]; exact (h.lnk id (inA_iff.1 e)).chain) hO) ?_
  rintro v w' ⟨m, (⟨e, rfl, rfl⟩ | ⟨e, q, d, rfl, rfl⟩), hO⟩
  · have e2 : kidsX A K id = [] := by rw [kidsX, e, if_neg (by simp)]
    rw [e2]
    exact ⟨_, ⟨none, 0, rfl, rfl⟩, (sl_nil 3 1 hO).swap⟩
  · exact ⟨_, ⟨q, d, rfl, rfl⟩, hO⟩
/-- slices.Equal -/
theorem Equal_spec {xs ys : List Api_attr} {p q : Option Addr} {c d : Nat} (h1 : Sli (Ro k) (.slice p xs.length c) (xs.map Api_attr.cells)) (h2 : Sli (Ro k) (.slice q ys.length d) (ys.map Api_attr.cells)) (hl : xs.length ≤ 1000000) (hO : Own k w []) :
    Tri Try.prog 66 #[.slice p xs.length c, .slice q ys.length d] k w fun v m => v = .bool (decide (xs = ys)) ∧ m = [] := by
  refine enter (args := [.slice p xs.length c, .slice q ys.length d]) Try.func66 rfl rfl ?_
  have hgp := sli_gs h1
  have hgq := sli_gs h2
  refine K0 (K1 ?_)
  refine l_y rfl rfl (y_assign rfl) ?_
  refine K2 (K3 (K0 (K0 (K1 ?_))))
  refine l_y rfl rfl (y_move rfl) ?_
  refine l_y rfl rfl (y_lenL rfl) ?_
  refine l_y rfl rfl (y_move rfl) ?_
  refine l_y rfl rfl (y_lenL rfl) ?_
  refine Z1 (fun h1_4 => ?_) (fun h1_4 => ?_)
  · refine K2 (K3 (L8 (K0 (K1 ?_))))
    refine l_y rfl rfl (y_assign rfl) ?_
    refine K2 (K3 (K6 (K9 ?_)))
    exact fin1 rfl rfl ⟨_, ⟨by rw [decide_eq_false fun e => h1_4 (by rw [e])], rfl⟩, hO⟩
  · refine K2 (K3 (L9 (K5 (K3 (K0 (K0 (K1 ?_)))))))
    refine l_y rfl rfl (y_move rfl) ?_
    refine l_y rfl rfl (y_lenL rfl) ?_
    refine l_y rfl rfl (y_move rfl) ?_
    refine K2 (K3 (K4 ?_))
    refine c_rounds (X := Nat) (fun i => [(0, .slice p xs.length c), (1, .slice q ys.length d), (4, .bool false), (12, .int .i64 ((xs.length : Nat) : Int)), (13, .int .i64 (i : Int))]) (fun i w => Own k w [] ∧ (i ≤ xs.length ∧ ∀ j, j < i → at_ xs j = at_ ys j)) (fun i => xs.length - i) (0) ⟨rfl, rfl, rfl, rfl, rfl, trivial⟩ ⟨hO.only [], ⟨Nat.zero_le _, fun j h => absurd h (Nat.not_lt_zero _)⟩⟩ ?_
    rintro i w m hm ⟨hO, hi⟩
    refine K0 (K1 ?_)
    refine Z0 (fun h4_0 => ?_) (fun h4_0 => ?_)
    · refine K2 (K3 (K0 (L8 (K5 (K3 (K0 (K4 (K0 (K1 ?_)))))))))
      refine l_y rfl rfl (y_move rfl) ?_
      refine l_y rfl rfl (y_assign rfl) ?_
      refine K2 (K3 (K0 ?_))
      refine da_region (by intro c a d v w h; cases d <;> exact h) ?_
      have hO := hO.drew
      refine da_phase _ [] (SO.ks [] hO) ?_
      refine dx_u 0 (by kernel_rfl) rfl rfl rfl (fun w => y_move rfl) ?_
      refine dx_u 1 (by kernel_rfl) rfl rfl rfl (fun w => y_move rfl) ?_
      refine dx_u 2 (by kernel_rfl) rfl rfl rfl (fun w => y_idx rfl rfl) ?_
      refine dx_y 3 (by kernel_rfl) rfl rfl rfl (fun w ⟨m, hw⟩ => y_rA (x0 := 0) (enc := Api_attr.cells) (xs := xs) (cs := [.int .i64 (at_ xs ((i : Int) : Int).toNat).Space, .string (at_ xs ((i : Int) : Int).toNat).Prefix, .string (at_ xs ((i : Int) : Int).toNat).Name, .string (at_ xs ((i : Int) : Int).toNat).Value]) hw rfl) ?_
      refine dx_u 4 (by kernel_rfl) rfl rfl rfl (fun w => y_move rfl) ?_
      refine dx_u 5 (by kernel_rfl) rfl rfl rfl (fun w => y_move rfl) ?_
      refine dx_u 6 (by kernel_rfl) rfl rfl rfl (fun w => y_idx rfl rfl) ?_
      refine dx_y 7 (by kernel_rfl) rfl rfl rfl (fun w ⟨m, hw⟩ => y_rA (x0 := 0) (enc := Api_attr.cells) (xs := ys) (cs := [.int .i64 (at_ ys ((i : Int) : Int).toNat).Space, .string (at_ ys ((i : Int) : Int).toNat).Prefix, .string (at_ ys ((i : Int) : Int).toNat).Name, .string (at_ ys ((i : Int) : Int).toNat).Value]) hw rfl) ?_
      refine dx_y 8 (by kernel_rfl) rfl rfl rfl (fun w ⟨m, hw⟩ => y_neA (enc := Api_attr.cells) (a := at_ xs i) (b := at_ ys i) rfl rfl rfl) ?_
      refine dx_end (by kernel_rfl) ?_
      refine K3 ?_
      refine c_split rfl (fun hc24 => ?_) (fun hc24 => ?_)
      · simp only [Bool.not_eq_true', Bool.not_eq_false'] at hc24
        refine K0 ?_
        have hne : ¬ at_ xs i = at_ ys i := by simpa using hc24
        refine K1 ?_
        refine l_y rfl rfl (y_assign rfl) ?_
        refine K2 (K3 (K6 (L0 (K9 (K9 (L0 (K9 ?_)))))))
        exact fin1 rfl rfl ⟨_, ⟨by rw [decide_eq_false fun e => hne (by rw [e])], rfl⟩, hO⟩
      · simp only [Bool.not_eq_true', Bool.not_eq_false'] at hc24
        refine K5 (K8 (K3 ?_))
        have heq : at_ xs i = at_ ys i := by simpa using hc24
        refine K1 ?_
        refine l_y rfl rfl (D4) ?_
        refine l_y rfl rfl (y_move rfl) ?_
        refine K2 ?_
        exact q_next (i + 1) ⟨rfl, rfl, rfl, rfl, rfl, trivial⟩ ⟨hO.only [], ⟨by omega, fun j hj => if e : j = i then (by rw [e]; exact heq) else hi.2 j (by omega)⟩⟩ (by omega)
    · refine K2 (K3 (K0 (L9 (K7 (L1 (L1 (L2 (K3 (K0 (K1 ?_))))))))))
      refine l_y rfl rfl (y_assign rfl) ?_
      refine K2 (K3 (K6 ?_))
      have e : xs = ys := at_ext (by omega) fun j hj => hi.2 j (by omega)
      exact fin1 rfl rfl ⟨_, ⟨by rw [decide_eq_true e], rfl⟩, hO⟩
end
end Go.Proofs.Ythkmnohghpdjhaa
