/- Trees: linking and unlinking; plain. -/
import Derived.Test.YtoohapbaelmkcaaGreatTree2
set_option linter.unusedVariables false
set_option linter.unusedSimpArgs false
namespace Go.Proofs.YtoohapbaelmkcaaGreat
open Go Go.Hb Go.RowKit
theorem app_cut {l1 l2 pre suf : List Int} {id y : Int} (h : l1 ++ id :: l2 = pre ++ y :: suf) : (y = id ∧ pre = l1 ∧ suf = l2) ∨ (∃ m, l2 = m ++ y :: suf ∧ pre = l1 ++ id :: m) ∨ (∃ m, l1 = pre ++ y :: m ∧ suf = m ++ id :: l2) := by
  rcases List.append_eq_append_iff.1 h with ⟨a, e1, e2⟩ | ⟨c, e1, e2⟩
  · cases a with
    | nil => injection e2 with e3 e4; exact .inl ⟨e3.symm, by simpa using e1, e4.symm⟩
    | cons b a => injection e2 with e3 e4; subst e3; exact .inr (.inl ⟨a, e4, e1⟩)
  · cases c with
    | nil => injection e2 with e3 e4; exact .inl ⟨e3, by simpa using e1.symm, e4⟩
    | cons b c => injection e2 with e3 e4; subst e3; exact .inr (.inr ⟨c, e1, e4⟩)
theorem app_cut2 {l1 l2 pre suf : List Int} {y : Int} (h : l1 ++ l2 = pre ++ y :: suf) : (∃ m, l2 = m ++ y :: suf ∧ pre = l1 ++ m) ∨ (∃ m, l1 = pre ++ y :: m ∧ suf = m ++ l2) := by
  rcases List.append_eq_append_iff.1 h with ⟨a, e1, e2⟩ | ⟨c, e1, e2⟩
  · exact .inl ⟨a, e2, e1⟩
  · cases c with
    | nil => exact .inl ⟨[], by simpa using e2.symm, by simpa using e1.symm⟩
    | cons b c => injection e2 with e3 e4; subst e3; exact .inr ⟨c, e1, e4⟩
theorem nodup_ne {l1 l2 : List Int} {x y : Int} (h : (l1 ++ l2).Nodup) (hx : x ∈ l1) (hy : y ∈ l2) : x ≠ y := (List.nodup_append.1 h).2.2 x hx y hy
theorem Lnk.put {A B : List Node_one} {up id : Int} {l1 l2 : List Int} (h : Lnk A up (l1 ++ l2)) (hn : (l1 ++ l2).Nodup) (hlen : B.length = A.length) (hu : InA A up) (hi : InA A id) (hni : id ∉ l1 ++ l2)
    (hp : ∀ y, 0 ≤ y → Put A B up id (lastL l1) (headL l2) y) : Lnk B up (l1 ++ id :: l2) := by
  have hi0 := hi.1
  have hu0 := hu.1
  have m1 : ∀ {m}, l1 ≠ [] → m = lastL l1 → m ∈ l1 := fun h e => e ▸ lastL_mem h
  have pu := hp up hu0
  constructor
  · rw [pu.first]
    by_cases e : l1 = []
    · subst e; rw [if_pos ⟨rfl, rfl⟩]; rfl
    · have := (h.mem (List.mem_append_left l2 (lastL_mem e))).1.1
      rw [if_neg (by omega), h.first, headL_app e, headL_app e]
  · rw [pu.last]
    by_cases e : l2 = []
    · subst e; rw [if_pos ⟨rfl, rfl⟩, lastL_app2 (by simp)]; rfl
    · have := (h.mem (List.mem_append_right l1 (headL_mem e))).1.1
      rw [if_neg (by omega), h.last, lastL_app2 e, lastL_app2 (by simp), show id :: l2 = [id] ++ l2 from rfl, lastL_app2 e]
  · intro pre y suf e
    rcases app_cut e with ⟨rfl, rfl, rfl⟩ | ⟨m, rfl, rfl⟩ | ⟨m, rfl, rfl⟩
    · have py := hp y hi0
      exact ⟨hi.len hlen, by rw [py.parent, if_pos rfl], by rw [py.prev, if_pos rfl], by rw [py.next, if_pos rfl]⟩
    · have hy := h.kid (l1 ++ m) y suf (by simp)
      obtain ⟨g1, g2, g3, g4⟩ := hy
      have py := hp y g1.1
      have hne : y ≠ id := fun e => hni (by simp [e])
      refine ⟨g1.len hlen, by rw [py.parent, if_neg hne, g2], ?_, ?_⟩
      · rw [py.prev, if_neg hne]
        by_cases em : m = []
        · subst em
          have := g1.1
          rw [if_pos ⟨by show y ≠ -1; omega, rfl⟩, lastL_app]
        · have hyr : y ≠ headL (m ++ y :: suf) := by
            rw [headL_app em]
            have h2 := (List.nodup_append.1 hn).2.1
            exact (nodup_ne h2 (headL_mem em) (by simp)).symm
          rw [if_neg (fun h => hyr h.2), g3, lastL_app2 em, lastL_app2 (by simp), show id :: m = [id] ++ m from rfl, lastL_app2 em]
      · rw [py.next, if_neg hne, if_neg, g4]
        rintro ⟨k1, k2⟩
        by_cases e1 : l1 = []
        · subst e1; exact k1 rfl
        · exact nodup_ne hn (lastL_mem e1) (y := y) (by simp) k2.symm
    · have hy := h.kid pre y (m ++ l2) (by simp)
      obtain ⟨g1, g2, g3, g4⟩ := hy
      have py := hp y g1.1
      have hne : y ≠ id := fun e => hni (by simp [e])
      refine ⟨g1.len hlen, by rw [py.parent, if_neg hne, g2], ?_, ?_⟩
      · rw [py.prev, if_neg hne, if_neg, g3]
        rintro ⟨k1, k2⟩
        by_cases e1 : l2 = []
        · subst e1; exact k1 rfl
        · exact nodup_ne hn (x := y) (by simp) (headL_mem e1) k2
      · rw [py.next, if_neg hne]
        by_cases em : m = []
        · subst em
          have := g1.1
          rw [if_pos ⟨by rw [lastL_app]; omega, by rw [lastL_app]⟩]
          rfl
        · have hyr : y ≠ lastL (pre ++ y :: m) := by
            rw [show pre ++ y :: m = (pre ++ [y]) ++ m by simp, lastL_app2 em]
            have h2 := (List.nodup_append.1 (List.nodup_append.1 hn).1).2.1
            exact fun e => (List.nodup_cons.1 h2).1 (e ▸ lastL_mem em)
          rw [if_neg (fun h => hyr h.2), g4, headL_app em, headL_app em]
theorem Lnk.gone {A B : List Node_one} {up id : Int} {l1 l2 : List Int} (h : Lnk A up (l1 ++ id :: l2)) (hn : (l1 ++ id :: l2).Nodup) (hlen : B.length = A.length) (hu : InA A up)
    (hp : ∀ y, 0 ≤ y → Gone A B up id (lastL l1) (headL l2) y) : Lnk B up (l1 ++ l2) := by
  have hu0 := hu.1
  have pu := hp up hu0
  have hn1 := (List.nodup_append.1 hn).1
  have hn2 := List.nodup_cons.1 (List.nodup_append.1 hn).2.1
  constructor
  · rw [pu.first]
    by_cases e : l1 = []
    · subst e; rw [if_pos ⟨rfl, rfl⟩]; rfl
    · have := (h.mem (List.mem_append_left _ (lastL_mem e))).1.1
      rw [if_neg (by omega), h.first, headL_app e, headL_app e]
  · rw [pu.last]
    by_cases e : l2 = []
    · subst e; rw [if_pos ⟨rfl, rfl⟩, List.append_nil]
    · have := (h.mem (List.mem_append_right l1 (List.mem_cons_of_mem id (headL_mem e)))).1.1
      rw [if_neg (by omega), h.last, lastL_app2 e, lastL_app2 (by simp), show id :: l2 = [id] ++ l2 from rfl, lastL_app2 e]
  · intro pre y suf e
    rcases app_cut2 e with ⟨m, rfl, rfl⟩ | ⟨m, rfl, rfl⟩
    · obtain ⟨g1, g2, g3, g4⟩ := h.kid (l1 ++ id :: m) y suf (by simp)
      have py := hp y g1.1
      have hne : y ≠ id := fun e => hn2.1 (by simp [e])
      refine ⟨g1.len hlen, by rw [py.parent, if_neg hne, g2], ?_, ?_⟩
      · rw [py.prev, if_neg hne]
        by_cases em : m = []
        · subst em
          have := g1.1
          rw [if_pos ⟨by show y ≠ -1; omega, rfl⟩, List.append_nil]
        · have hyr : y ≠ headL (m ++ y :: suf) := by
            rw [headL_app em]
            exact (nodup_ne hn2.2 (headL_mem em) (by simp)).symm
          rw [if_neg (fun h => hyr h.2), g3, lastL_app2 em, lastL_app2 (by simp), show id :: m = [id] ++ m from rfl, lastL_app2 em]
      · rw [py.next, if_neg hne, if_neg, g4]
        rintro ⟨k1, k2⟩
        by_cases e1 : l1 = []
        · subst e1; exact k1 rfl
        · exact nodup_ne hn (lastL_mem e1) (y := y) (by simp) k2.symm
    · obtain ⟨g1, g2, g3, g4⟩ := h.kid pre y (m ++ id :: l2) (by simp)
      have py := hp y g1.1
      have hne : y ≠ id := nodup_ne hn (by simp) (by simp)
      refine ⟨g1.len hlen, by rw [py.parent, if_neg hne, g2], ?_, ?_⟩
      · rw [py.prev, if_neg hne, if_neg, g3]
        rintro ⟨k1, k2⟩
        by_cases e1 : l2 = []
        · subst e1; exact k1 rfl
        · exact nodup_ne hn (x := y) (by simp) (List.mem_cons_of_mem id (headL_mem e1)) k2
      · rw [py.next, if_neg hne]
        by_cases em : m = []
        · subst em
          have := g1.1
          rw [if_pos ⟨by rw [lastL_app]; omega, by rw [lastL_app]⟩]
          rfl
        · have hyr : y ≠ lastL (pre ++ y :: m) := by
            rw [show pre ++ y :: m = (pre ++ [y]) ++ m by simp, lastL_app2 em]
            have h2 := (List.nodup_append.1 hn1).2.1
            exact fun e => (List.nodup_cons.1 h2).1 (e ▸ lastL_mem em)
          rw [if_neg (fun h => hyr h.2), g4, headL_app em, headL_app em]
end Go.Proofs.YtoohapbaelmkcaaGreat
