/- One more node behind a node's children; plain. -/
import Derived.Test.YtoohapbaelmkcaaGreatOrder1
import Derived.Test.YtoohapbaelmkcaaGreatCnt
set_option linter.unusedVariables false
set_option linter.unusedSimpArgs false
set_option maxRecDepth 100000
namespace Go.Proofs.YtoohapbaelmkcaaGreat
open Go Go.Hb Go.RowKit
theorem anc_old {A : List Node_one} (hr : Ranked A) {o : Node_one} {y z : Int} (h : Anc (A ++ [o]) y z) (hy : InA A y) : InA A z ∨ z = -1 := by
  obtain ⟨rk, hrk⟩ := hr
  induction h with
  | refl => exact .inl hy
  | step h hs ih =>
    rename_i x y
    have e : nextUp (A ++ [o]) x = nextUp A x := by rw [nextUp, nextUp, at_old hy]
    rw [e] at hs ih
    rcases hrk _ hy.b with e1 | ⟨e1, _⟩
    · rw [e1] at hs; exact .inr (anc_none hs)
    · exact ih (inA_iff.1 e1)
/-- one more node, behind a node's children -/
structure Behind (A B : List Node_one) (K K' : Int → List Int) (n : Api_node) (up : Int) : Prop where
  tree : Tree B K'
  len : B.length = A.length + 1
  kid : K' up = K up ++ [(A.length : Int)]
  old : ∀ x, x ≠ up → x ≠ (A.length : Int) → K' x = K x
  same : ∀ y, InA A y → coreN (at_ B y.toNat) = coreN (at_ A y.toNat)
  node : coreN (at_ B ((A.length : Int)).toNat) = coreN (blankN n)
theorem behind_go {A : List Node_one} {K : Int → List Int} (t : Tree A K) {n : Api_node} (hk : n.Kind ≠ 0 ∧ n.Kind ≠ 5) (ha : n.Attrs.length ≤ 1024) {up : Int} (hu : InA A up) (kup : parentB (nodeA A up).Kind = true) :
    (linkL (A ++ [blankN n]) up A.length (-1)).1 = 0 ∧ Behind A (linkL (A ++ [blankN n]) up A.length (-1)).2 K (linkK (addK A K) up A.length (-1)) n up := by
  have t1 := t.add n ha
  have hid : InA (A ++ [blankN n]) (A.length : Int) := inA_new.2 (.inr rfl)
  have hup : InA (A ++ [blankN n]) up := inA_new.2 (.inl hu)
  have eid : at_ (A ++ [blankN n]) ((A.length : Int)).toNat = blankN n := at_new
  have eup : at_ (A ++ [blankN n]) up.toNat = at_ A up.toNat := at_old hu
  have hl := hu.2
  have hl0 := hu.1
  have h0 := link_go (A := A ++ [blankN n]) (up := up) (id := A.length) (before := -1) hup hid (.inl rfl) (by rw [nodeA, eup]; exact kup) (by rw [nodeA, eid]; exact hk) (by rw [nodeA, eid]; rfl) (fun h => by
    rcases anc_old t.rank h hu with h | h
    · have := h.2; omega
    · omega)
  refine ⟨h0, ?_⟩
  have tl := t1.link h0
  have hc := link_core t1 up A.length (-1)
  have hlen : (linkL (A ++ [blankN n]) up A.length (-1)).2.length = (A ++ [blankN n]).length := linkL_len
  have e1 : addK A K up = K up := by rw [addK, if_neg (by omega)]
  refine ⟨tl, by rw [hlen]; simp, ?_, ?_, ?_, ?_⟩
  · rw [linkK, if_pos rfl, e1]
    exact insB_end fun y hy => by have := ((t.lnk up hu).mem hy).1.1; omega
  · intro x h1 h2; rw [linkK, if_neg h1, addK, if_neg h2]
  · intro y hy; rw [hc y hy.1, at_old hy]
  · rw [hc _ (by omega), eid]
theorem el_new {A : List Node_one} {nm : ByteArray} (h : ¬ tmpl 0 nm) (hs : nm.size ≤ 100) (hl : A.length ≤ 1000) (q : Option Addr) (d : Nat) : elementL A 0 nm [] q d = ((A.length : Int), 0, A ++ [blankN (elementN q d 0 nm [])]) := by
  have h2 : longB (nm :: attrTexts []) = false := by simp [longB, attrTexts]; omega
  rw [elementL, if_neg (by omega), if_neg (by simp), if_neg (fun h1 => h h1.1), if_neg (by rw [h2]; simp), if_neg (by omega), if_neg h]
end Go.Proofs.YtoohapbaelmkcaaGreat
