/- The elements of a stack: what each call leaves of them; no condition. -/
import Derived.Test.YtbhicbpfdbnpfaaStk9
set_option linter.unusedVariables false
set_option linter.unusedSimpArgs false
set_option maxRecDepth 100000
namespace Go.Proofs.Ytbhicbpfdbnpfaa
open Go Go.Hb Go.RowKit
/-! the namespaces of nodes -/
theorem SpOk.new : SpOk [docD] := fun i hi => by
  have : i = 0 := by simp at hi; omega
  subst this; exact ⟨by decide, by decide⟩
theorem SpOk.app {A : List Node_one} (h : SpOk A) {n : Node_one} (hn : 0 ≤ n.Node.Space ∧ n.Node.Space ≤ 2) : SpOk (A ++ [n]) := fun i hi => by
  by_cases h1 : i < A.length
  · rw [at_app_l h1]; exact h i h1
  · have : i = A.length := by simp at hi; omega
    subst this; rw [at_app_new]; exact hn
theorem SpOk.set {A : List Node_one} (h : SpOk A) {i : Nat} {n : Node_one} (hn : i < A.length → n.Node.Space = (at_ A i).Node.Space) : SpOk (A.set i n) := fun j hj => by
  have hj' : j < A.length := by simpa using hj
  by_cases h1 : i < A.length
  · rw [at_set h1]
    split
    · rw [hn h1]; exact h i h1
    · exact h j hj'
  · rw [List.set_eq_of_length_le (by omega)]; exact h j hj'
theorem SpOk.add {A : List Node_one} (h : SpOk A) {n : Api_node} {ts : List ByteArray} (hn : 0 ≤ n.Space ∧ n.Space ≤ 2) : SpOk (addL A n ts).2.2 := by
  unfold addL
  split
  · exact h
  · split
    · exact h
    · exact h.app hn
theorem SpOk.element {A : List Node_one} (h : SpOk A) {sp : Int} {nm : ByteArray} {xs : List Api_attr} {q : Option Addr} {d : Nat} : SpOk (elementL A sp nm xs q d).2.2 := by
  unfold elementL
  by_cases h1 : sp < 0 ∨ 2 < sp
  · rw [if_pos h1]; exact h
  rw [if_neg h1]
  have h2 : SpOk (A ++ [blankN (elementN q d sp nm xs)]) := h.app (show 0 ≤ sp ∧ sp ≤ 2 by omega)
  repeat' split
  all_goals first | exact h | exact h2 | skip
  dsimp only
  unfold setHost setInner
  refine SpOk.set (SpOk.set (h2.app (n := blankN fragmentN) ⟨by decide, by decide⟩) ?_) ?_
  · intro _; rfl
  · intro _; rfl
/-! the stack's elements -/
structure StkI (A : List Node_one) (l : List Int) : Prop where
  el : AllEl A l
  nodup : l.Nodup
theorem StkI.len {A : List Node_one} {l : List Int} (h : StkI A l) : l.length ≤ A.length := nodup_le _ _ h.nodup fun x hx => by
  have := hasB_true (elB_has (h.el x hx)); omega
theorem StkI.nil {A : List Node_one} : StkI A [] := ⟨fun x hx => by simp at hx, List.nodup_nil⟩
theorem findI_mem {l : List Int} {x : Int} (h : findI l x < 0) : x ∉ l := fun hx => by
  rcases idx_cases (fun y => decide (y = x)) l with ⟨_, h2⟩ | ⟨i, h2, _⟩
  · obtain ⟨j, hj, e⟩ := mem_at hx
    exact absurd (h2 j hj) (by simp [e])
  · unfold findI at h; omega
theorem StkI.cons {A : List Node_one} {l : List Int} {x : Int} (h : StkI A l) (hx : elB A x = true) (hn : x ∉ l) : StkI A (x :: l) := ⟨fun y hy => by
  rcases List.mem_cons.1 hy with rfl | hy
  · exact hx
  · exact h.el y hy, List.nodup_cons.2 ⟨hn, h.nodup⟩⟩
theorem StkI.perm {A : List Node_one} {l m : List Int} (h : StkI A l) (p : l.Perm m) : StkI A m := ⟨fun y hy => h.el y (p.mem_iff.2 hy), p.nodup_iff.1 h.nodup⟩
theorem StkI.sub {A : List Node_one} {l m : List Int} (h : StkI A l) (p : m.Sublist l) : StkI A m := ⟨fun y hy => h.el y (p.subset hy), h.nodup.sublist p⟩
theorem fresh0 {A : List Node_one} {l : List Int} {id : Int} (h : freshE A l id = 0) : elB A id = true ∧ id ∉ l := by
  rcases freshE_cases A l id with ⟨h1, _⟩ | ⟨h1, _⟩ | ⟨_, h2, h3⟩
  · omega
  · omega
  · exact ⟨h2, findI_mem h3⟩
theorem StkI.push {A : List Node_one} {l : List Int} {id : Int} (h : StkI A l) : StkI A (if freshE A l id = 0 then l ++ [id] else l) := by
  split
  · next h0 => exact (h.cons (fresh0 h0).1 (fresh0 h0).2).perm (List.perm_append_comm (l₁ := [id]))
  · exact h
theorem StkI.remove {A : List Node_one} {l : List Int} {id : Int} (h : StkI A l) : StkI A (removeL l id).2 := by
  unfold removeL
  split
  · exact h
  · dsimp only; rw [← List.eraseIdx_eq_take_drop_succ]; exact h.sub (List.eraseIdx_sublist ..)
theorem StkI.put {A : List Node_one} {l : List Int} {i id : Int} (h : StkI A l) : StkI A (putL A l i id).2 := by
  unfold putL
  split
  · exact h
  · next h0 =>
    split
    · exact h
    · have h1 := fresh0 (show freshE A l id = 0 by omega)
      refine (h.cons h1.1 h1.2).perm ?_
      dsimp only
      rw [List.append_assoc, List.singleton_append]
      conv => lhs; rw [← List.take_append_drop i.toNat l]
      exact List.perm_middle.symm
theorem StkI.swap {A : List Node_one} {l : List Int} {old id : Int} (h : StkI A l) : StkI A (swapL A l old id).2 := by
  unfold swapL
  split
  · exact h
  · split
    · next h0 =>
      have h1 := fresh0 h0
      have hs := List.eraseIdx_sublist l (findI l old).toNat
      rw [List.eraseIdx_eq_take_drop_succ] at hs
      refine ((h.sub hs).cons h1.1 fun hm => h1.2 (hs.subset hm)).perm ?_
      dsimp only
      rw [List.append_assoc, List.singleton_append]
      exact List.perm_middle.symm
    · exact h
theorem popR_suffix (p : Int → Bool) : ∀ (l r : List Int), popR p l = some r → r.Sublist l := by
  intro l
  induction l with
  | nil => intro r h; cases h
  | cons x l ih =>
    intro r h
    unfold popR at h
    split at h
    · cases h; exact List.sublist_cons_self x l
    · exact (ih r h).trans (List.sublist_cons_self x l)
theorem StkI.popTo {A : List Node_one} {l : List Int} {p : Int → Bool} (h : StkI A l) : StkI A (popTo p l).2 := by
  unfold Proofs.Ytbhicbpfdbnpfaa.popTo
  split
  · next r hr => exact h.sub (by have := (popR_suffix p _ _ hr).reverse; rwa [List.reverse_reverse] at this)
  · exact h
theorem StkI.drop {A : List Node_one} {l : List Int} {p : Int → Bool} (h : StkI A l) : StkI A (dropL p l) := by
  refine h.sub ?_
  have := ((List.dropWhile_suffix p (l := l.reverse)).sublist).reverse
  rwa [List.reverse_reverse] at this
theorem StkI.take {A : List Node_one} {l : List Int} (h : StkI A l) (i : Nat) : StkI A (l.take i) := h.sub (List.take_sublist i l)
end Go.Proofs.Ytbhicbpfdbnpfaa
