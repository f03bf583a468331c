/- The walks of AddElement and AddText where nothing is refused. -/
import Derived.Test.YtgglpocdelnfcaaRRRREdp1
set_option linter.unusedVariables false
set_option linter.unusedSimpArgs false
set_option maxRecDepth 100000
namespace Go.Proofs.YtgglpocdelnfcaaRRRR
open Go Go.Hb Go.RowKit
theorem anc_old {A : List Node_one} (hr : Ranked A) {o : Node_one} {y z : Int} (h : Anc (A ++ [o]) y z) (hy : InA A y) : InA A z ∨ z = -1 := by
  obtain ⟨rk, hrk⟩ := hr
  induction h with
  | refl => exact .inl hy
  | step h hs ih =>
    rename_i x y
    have e : nextUp (A ++ [o]) x = nextUp A x := by rw [nextUp, nextUp, at_old hy]
    rw [e] at hs ih
    rcases hrk _ hy.b with e1 | ⟨e1, _⟩
    · rw [e1] at hs; exact .inr (anc_none hs)
    · exact ih (inA_iff.1 e1)
/-- one more node, behind a node's children -/
structure Behind (A B : List Node_one) (K K' : Int → List Int) (n : Api_node) (up : Int) : Prop where
  tree : Tree B K'
  len : B.length = A.length + 1
  kid : K' up = K up ++ [(A.length : Int)]
  old : ∀ x, x ≠ up → x ≠ (A.length : Int) → K' x = K x
  same : ∀ y, InA A y → coreN (at_ B y.toNat) = coreN (at_ A y.toNat)
  node : coreN (at_ B ((A.length : Int)).toNat) = coreN (blankN n)
theorem behind_go {A : List Node_one} {K : Int → List Int} (t : Tree A K) {n : Api_node} (hk : n.Kind ≠ 0 ∧ n.Kind ≠ 5) (ha : n.Attrs.length ≤ 1024) {up : Int} (hu : InA A up) (kup : parentB (nodeA A up).Kind = true) :
    (linkL (A ++ [blankN n]) up A.length (-1)).1 = 0 ∧ Behind A (linkL (A ++ [blankN n]) up A.length (-1)).2 K (linkK (addK A K) up A.length (-1)) n up := by
  have t1 := t.add n ha
  have hid : InA (A ++ [blankN n]) (A.length : Int) := inA_new.2 (.inr rfl)
  have hup : InA (A ++ [blankN n]) up := inA_new.2 (.inl hu)
  have eid : at_ (A ++ [blankN n]) ((A.length : Int)).toNat = blankN n := at_new
  have eup : at_ (A ++ [blankN n]) up.toNat = at_ A up.toNat := at_old hu
  have hl := hu.2
  have hl0 := hu.1
  have h0 := link_go (A := A ++ [blankN n]) (up := up) (id := A.length) (before := -1) hup hid (.inl rfl) (by rw [nodeA, eup]; exact kup) (by rw [nodeA, eid]; exact hk) (by rw [nodeA, eid]; rfl) (fun h => by
    rcases anc_old t.rank h hu with h | h
    · have := h.2; omega
    · omega)
  refine ⟨h0, ?_⟩
  have tl := t1.link h0
  have hc := link_core t1 up A.length (-1)
  have hlen : (linkL (A ++ [blankN n]) up A.length (-1)).2.length = (A ++ [blankN n]).length := linkL_len
  have e1 : addK A K up = K up := by rw [addK, if_neg (by omega)]
  refine ⟨tl, by rw [hlen]; simp, ?_, ?_, ?_, ?_⟩
  · rw [linkK, if_pos rfl, e1]
    exact insB_end fun y hy => by have := ((t.lnk up hu).mem hy).1.1; omega
  · intro x h1 h2; rw [linkK, if_neg h1, addK, if_neg h2]
  · intro y hy; rw [hc y hy.1, at_old hy]
  · rw [hc _ (by omega), eid]
structure TagOk (s : ByteArray) : Prop where
  name : nameB s = true
  first : ∃ c, (tl (smallT s))[0]? = some c ∧ 97 ≤ c.toNat ∧ c.toNat ≤ 122
  size : s.size ≤ 100
  plain : ¬ tmpl 0 (smallT s)
theorem smallT_size (s : ByteArray) : (smallT s).size = s.size := by
  show ((tl s).map lowC).toArray.size = s.size
  simp
section
variable {k : Ctx} {w : World} {s : ByteArray}
theorem tag_spec (h : TagOk s) (hO : Own k w []) : Tri Try.prog 18 #[.string s] k w fun v m => v = .bool true ∧ m = [] := by
  refine enter (args := [.string s]) Try.func18 rfl rfl ?_
  have hsz := h.size
  obtain ⟨c, hc, hc1, hc2⟩ := h.first
  refine K0 (K1 ?_)
  refine l_y rfl rfl (y_assign rfl) ?_
  refine K2 (K3 (K0 (K1 ?_)))
  refine l_y rfl rfl (y_move rfl) ?_
  refine CK [] hO rfl (fun k' hx hr hO' => Name_spec (hO := hO')) ?_
  rintro _ _ w ⟨rfl, rfl⟩ hO
  rw [h.name]
  refine l_y rfl rfl (y_move rfl) ?_
  refine l_y rfl rfl (y_move rfl) ?_
  refine CK [] hO rfl (fun k' hx hr hO' => small_spec (by omega) (hO := hO')) ?_
  rintro _ _ w ⟨rfl, rfl⟩ hO
  simp only [List.cons_append, List.nil_append] at hO
  refine l_y rfl rfl (y_indexS (c := c) rfl rfl (by omega) hc) ?_
  refine N2 (hp := (by omega)) ?_
  refine l_y rfl rfl (y_pick_t rfl rfl) ?_
  refine l_y rfl rfl (y_move rfl) ?_
  refine l_y rfl rfl (y_move rfl) ?_
  refine CK [] hO rfl (fun k' hx hr hO' => small_spec (by omega) (hO := hO')) ?_
  rintro _ _ w ⟨rfl, rfl⟩ hO
  simp only [List.cons_append, List.nil_append] at hO
  refine l_y rfl rfl (y_indexS (c := c) rfl rfl (by omega) hc) ?_
  refine N2 (hp := (by omega)) ?_
  refine l_y rfl rfl (y_pick_t rfl rfl) ?_
  refine l_y rfl rfl (y_assign rfl) ?_
  refine K2 (K3 (K6 ?_))
  exact fin1 rfl rfl ⟨_, ⟨rfl, rfl⟩, hO.none⟩
theorem opened_spec {a : Nat} {A : List Node_one} {K : Int → List Int} (t : Tree A K) (h0 : InA A 0) (hl : A.length ≤ 1000) (hK : K 0 = []) (hO : Own k w [arenaL a A]) :
    Tri Try.prog 20 #[.pointer (some ⟨a, 0, none⟩), .int .i64 (-1)] k w fun v m => v = .agg [.int .i64 0, .int .i64 0, .int .i64 0, .int .i64 0].toArray ∧ m = [arenaL a A] := by
  refine enter (args := [.pointer (some ⟨a, 0, none⟩), .int .i64 (-1)]) Try.func20 rfl rfl ?_
  refine K0 (K1 ?_)
  refine s_alloc (vs := [.int .i64 0, .int .i64 0, .int .i64 0, .int .i64 0]) hO rfl rfl rfl fun b4 w hO => ?_
  refine K2 (K3 (K0 (K1 ?_)))
  refine s_alloc (vs := [.int .i64 0, .int .i64 0, .int .i64 0, .int .i64 0]) hO rfl rfl rfl fun b5 w hO => ?_
  refine K2 (K3 (K0 (K1 ?_)))
  refine l_y rfl rfl (y_assign rfl) ?_
  refine K2 (K3 (K0 (K0 (K1 ?_))))
  refine l_y rfl rfl (y_move rfl) ?_
  refine CK [.o a] hO rfl (fun k' hx hr hO' => KidsT_spec t h0 (by omega) (hO := hO')) ?_
  rintro _ _ w ⟨q, d, rfl, rfl⟩ hO
  simp only [List.cons_append, List.nil_append] at hO
  rw [hK] at hO ⊢
  refine l_y rfl rfl (y_lenL rfl) ?_
  refine l_y rfl rfl (y_move rfl) ?_
  refine K2 (K3 (K4 ?_))
  refine c_rounds (X := Unit) (fun _u => [(0, .pointer (some ⟨a, 0, none⟩)), (1, .int .i64 (-1)), (4, .pointer (some ⟨b4, 0, none⟩)), (5, .pointer (some ⟨b5, 0, none⟩)), (10, .slice q 0 d), (11, .int .i64 0), (12, .int .i64 0)]) (fun _u w => Own k w [arenaL a A, blk b4 51 [.int .i64 0, .int .i64 0, .int .i64 0, .int .i64 0], blk b5 51 [.int .i64 0, .int .i64 0, .int .i64 0, .int .i64 0]] ∧ (True)) (fun _u => 0) (()) ⟨rfl, rfl, rfl, rfl, rfl, rfl, rfl, trivial⟩ ⟨hO.only [.o a, .b b4, .b b5], trivial⟩ ?_
  rintro _u w m hm ⟨hO, hT0⟩
  refine K0 (K1 ?_)
  refine N3 (hp := (by decide)) ?_
  refine K2 (K3 (K0 (L9 (K7 (L1 (L1 (L2 (K3 (K0 (K1 ?_))))))))))
  refine l_y rfl rfl (D8 (cs := [.int .i64 0, .int .i64 0, .int .i64 0, .int .i64 0]) hO rfl) ?_
  refine Y3 hO rfl rfl (fun w hO => ?_)
  refine K2 (K3 (K6 ?_))
  exact finC hO rfl rfl ⟨_, ⟨rfl, rfl⟩, hO.only [.o a]⟩
end
end Go.Proofs.YtgglpocdelnfcaaRRRR
