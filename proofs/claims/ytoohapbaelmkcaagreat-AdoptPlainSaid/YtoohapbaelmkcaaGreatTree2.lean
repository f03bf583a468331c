/- Trees: what linking, unlinking and making do to the rows of children; plain. -/
import Derived.Test.YtoohapbaelmkcaaGreatTree1
set_option linter.unusedVariables false
set_option linter.unusedSimpArgs false
namespace Go.Proofs.YtoohapbaelmkcaaGreat
open Go Go.Hb Go.RowKit
abbrev headL (l : List Int) : Int := l.headD (-1)
abbrev lastL (l : List Int) : Int := l.getLastD (-1)
theorem lastL_app {l : List Int} {x : Int} : lastL (l ++ [x]) = x := by simp [lastL, List.getLastD_eq_getLast?]
theorem lastL_app2 {l m : List Int} (h : m ≠ []) : lastL (l ++ m) = lastL m := by
  simp only [lastL, List.getLastD_eq_getLast?, List.getLast?_append]
  cases e : m.getLast? with
  | none => exact absurd (List.getLast?_eq_none_iff.1 e) h
  | some v => rfl
theorem lastL_mem {l : List Int} (h : l ≠ []) : lastL l ∈ l := by
  simp only [lastL, List.getLastD_eq_getLast?]
  cases e : l.getLast? with
  | none => exact absurd (List.getLast?_eq_none_iff.1 e) h
  | some v => exact List.mem_of_getLast? e
theorem headL_app {l m : List Int} (h : l ≠ []) : headL (l ++ m) = headL l := by cases l with | nil => exact absurd rfl h | cons => rfl
theorem headL_mem {l : List Int} (h : l ≠ []) : headL l ∈ l := by cases l with | nil => exact absurd rfl h | cons => simp
/-- the links of x's children l -/
structure Lnk (A : List Node_one) (x : Int) (l : List Int) : Prop where
  first : (nodeA A x).First = headL l
  last : (nodeA A x).Last = lastL l
  kid : ∀ pre y suf, l = pre ++ y :: suf → InA A y ∧ (nodeA A y).Parent = x ∧ (nodeA A y).Prev = lastL pre ∧ (nodeA A y).Next = headL suf
theorem Lnk.mem {A : List Node_one} {x y : Int} {l : List Int} (h : Lnk A x l) (hy : y ∈ l) : InA A y ∧ (nodeA A y).Parent = x := by
  obtain ⟨pre, suf, rfl⟩ := List.append_of_mem hy
  have := h.kid pre y suf rfl
  exact ⟨this.1, this.2.1⟩
theorem Lnk.chain {A : List Node_one} {x : Int} {l : List Int} (h : Lnk A x l) : Chain A (nodeA A x).First l := by
  have key : ∀ suf pre : List Int, l = pre ++ suf → Chain A (headL suf) suf := by
    intro suf
    induction suf with
    | nil => intro pre _; rfl
    | cons y suf ih =>
      intro pre e
      obtain ⟨h1, _, _, h4⟩ := h.kid pre y suf e
      refine ⟨rfl, by have := h1.1; omega, h1.b, ?_⟩
      show Chain A (nodeA A y).Next suf
      rw [h4]
      exact ih (pre ++ [y]) (by simp [e])
  rw [h.first]
  exact key l [] rfl
theorem Lnk.firstIn {A : List Node_one} {x : Int} {l : List Int} (h : Lnk A x l) : (nodeA A x).First = -1 ∨ InA A (nodeA A x).First := by
  rw [h.first]
  cases l with
  | nil => exact .inl rfl
  | cons y l => exact .inr (h.mem (by simp)).1
theorem Lnk.lastIn {A : List Node_one} {x : Int} {l : List Int} (h : Lnk A x l) : (nodeA A x).Last = -1 ∨ InA A (nodeA A x).Last := by
  rw [h.last]
  by_cases e : l = []
  · subst e; exact .inl rfl
  · exact .inr (h.mem (lastL_mem e)).1
/-- the rows of children of all nodes -/
structure Tree (A : List Node_one) (K : Int → List Int) : Prop where
  lnk : ∀ x, InA A x → Lnk A x (K x)
  nodup : ∀ x, InA A x → (K x).Nodup
  up : ∀ y, InA A y → (nodeA A y).Parent ≠ -1 → InA A (nodeA A y).Parent ∧ y ∈ K (nodeA A y).Parent
  free : ∀ y, InA A y → (nodeA A y).Parent = -1 → (nodeA A y).Prev = -1 ∧ (nodeA A y).Next = -1
  host : ∀ y, InA A y → (at_ A y.toNat).host = -1 ∨ InA A (at_ A y.toNat).host
  hostK : ∀ y, InA A y → (nodeA A y).Kind ≠ 5 → (at_ A y.toNat).host = -1
  upK : ∀ y, InA A y → (nodeA A y).Parent ≠ -1 → (nodeA A y).Kind ≠ 5
  inner : ∀ y, InA A y → (nodeA A y).Inner = -1 ∨ InA A (nodeA A y).Inner
  rank : Ranked A
  attrs : AttrsOk A
theorem Tree.nbr {A : List Node_one} {K : Int → List Int} (h : Tree A K) {y : Int} (hy : InA A y) (hp : (nodeA A y).Parent ≠ -1) : ∃ pre suf, K (nodeA A y).Parent = pre ++ y :: suf ∧ (nodeA A y).Prev = lastL pre ∧ (nodeA A y).Next = headL suf := by
  obtain ⟨hu, hm⟩ := h.up y hy hp
  obtain ⟨pre, suf, e⟩ := List.append_of_mem hm
  obtain ⟨_, _, h3, h4⟩ := (h.lnk _ hu).kid pre y suf e
  exact ⟨pre, suf, e, h3, h4⟩
theorem Tree.prevIn {A : List Node_one} {K : Int → List Int} (h : Tree A K) {y : Int} (hy : InA A y) : (nodeA A y).Prev = -1 ∨ InA A (nodeA A y).Prev := by
  by_cases hp : (nodeA A y).Parent = -1
  · exact .inl (h.free y hy hp).1
  · obtain ⟨pre, suf, e, h3, h4⟩ := h.nbr hy hp
    rw [h3]
    by_cases e2 : pre = []
    · subst e2; exact .inl rfl
    · exact .inr ((h.lnk _ (h.up y hy hp).1).mem (by rw [e]; exact List.mem_append_left _ (lastL_mem e2))).1
theorem Tree.nextIn {A : List Node_one} {K : Int → List Int} (h : Tree A K) {y : Int} (hy : InA A y) : (nodeA A y).Next = -1 ∨ InA A (nodeA A y).Next := by
  by_cases hp : (nodeA A y).Parent = -1
  · exact .inl (h.free y hy hp).2
  · obtain ⟨pre, suf, e, h3, h4⟩ := h.nbr hy hp
    rw [h4]
    by_cases e2 : suf = []
    · subst e2; exact .inl rfl
    · exact .inr ((h.lnk _ (h.up y hy hp).1).mem (by rw [e]; exact List.mem_append_right _ (List.mem_cons_of_mem _ (headL_mem e2)))).1
theorem Tree.links {A : List Node_one} {K : Int → List Int} (h : Tree A K) : LinksOk A where
  first x hx := (h.lnk x (inA_iff.1 hx)).firstIn
  last x hx := (h.lnk x (inA_iff.1 hx)).lastIn
  prev x hx := h.prevIn (inA_iff.1 hx)
  next x hx := h.nextIn (inA_iff.1 hx)
  parent x hx := by
    by_cases e : (nodeA A x).Parent = -1
    · exact .inl e
    · exact .inr (h.up x (inA_iff.1 hx) e).1
/-- a row without repeats of numbers below n is no longer than n -/
theorem nodup_le : ∀ (n : Nat) (l : List Int), l.Nodup → (∀ x ∈ l, 0 ≤ x ∧ x < n) → l.length ≤ n := by
  intro n
  induction n with
  | zero =>
    intro l _ h
    cases l with
    | nil => exact Nat.le_refl _
    | cons x l => have := h x (by simp); omega
  | succ n ih =>
    intro l hn h
    by_cases hm : (n : Int) ∈ l
    · have h1 := ih (l.erase n) (hn.erase _) (fun x hx => by
        have := h x (List.mem_of_mem_erase hx)
        have hne : x ≠ n := fun e => by subst e; exact hn.not_mem_erase hx
        omega)
      rw [List.length_erase_of_mem hm] at h1
      omega
    · have := ih l hn (fun x hx => by
        have := h x hx
        have hne : x ≠ n := fun e => by subst e; exact hm hx
        omega)
      omega
theorem Tree.len {A : List Node_one} {K : Int → List Int} (h : Tree A K) {x : Int} (hx : InA A x) : (K x).length ≤ A.length := nodup_le _ _ (h.nodup x hx) fun y hy => ((h.lnk x hx).mem hy).1
/-! linking -/
/-- the row with id ahead of before, or at the end -/
def insB (id before : Int) : List Int → List Int
  | [] => if before = -1 then [id] else []
  | y :: l => if y = before then id :: y :: insB id before l else y :: insB id before l
theorem insB_end {id : Int} : ∀ {l : List Int}, (∀ y ∈ l, y ≠ -1) → insB id (-1) l = l ++ [id]
  | [], _ => rfl
  | y :: l, h => by rw [insB, if_neg (h y (by simp)), insB_end fun z hz => h z (by simp [hz])]; rfl
theorem insB_not {id before : Int} (hb : before ≠ -1) : ∀ {l : List Int}, before ∉ l → insB id before l = l
  | [], _ => by rw [insB, if_neg hb]
  | y :: l, h => by rw [insB, if_neg (fun e => h (by simp [e])), insB_not hb fun hm => h (by simp [hm])]
theorem insB_at {id before : Int} (hb : before ≠ -1) : ∀ {pre suf : List Int}, (pre ++ before :: suf).Nodup → insB id before (pre ++ before :: suf) = pre ++ id :: before :: suf
  | [], suf, h => by
    show insB id before (before :: suf) = _
    rw [insB, if_pos rfl, insB_not hb (by simpa using (List.nodup_cons.1 h).1)]; rfl
  | y :: pre, suf, h => by
    have h2 := List.nodup_cons.1 h
    show insB id before (y :: (pre ++ before :: suf)) = _
    rw [insB, if_neg (fun e => h2.1 (by simp [e])), insB_at hb h2.2]; rfl
end Go.Proofs.YtoohapbaelmkcaaGreat
