/- Nodes in order: what linking one after the other leaves; plain. -/
import Derived.Test.YtoohapbaelmkcaaGreatTree5
set_option linter.unusedVariables false
set_option linter.unusedSimpArgs false
namespace Go.Proofs.YtoohapbaelmkcaaGreat
open Go Go.Hb Go.RowKit
theorem link_go {A : List Node_one} {up id before : Int} (hup : InA A up) (hid : InA A id) (hbe : before = -1 ∨ InA A before ∧ (nodeA A before).Parent = up) (kup : parentB (nodeA A up).Kind = true) (kid : (nodeA A id).Kind ≠ 0 ∧ (nodeA A id).Kind ≠ 5) (free : (nodeA A id).Parent = -1) (above : ¬ Anc A up id) : (linkL A up id before).1 = 0 := by
  unfold linkL
  rw [if_neg, if_neg, if_neg, if_neg]
  · rintro ⟨h1, h2⟩
    rcases hbe with h | h
    · exact h1 h
    · exact h2 h.2
  · rintro (h | h)
    · exact h free
    · simp only [aboveB, Bool.and_eq_true] at h
      exact above (ancB_iff.1 h.2)
  · rintro (h | h | h)
    · have := kup.symm.trans h; simp at this
    · exact kid.1 h
    · exact kid.2 h
  · rintro (h | h | ⟨h1, h⟩)
    · rw [hup.b] at h; simp at h
    · rw [hid.b] at h; simp at h
    · rcases hbe with h2 | h2
      · exact h1 h2
      · rw [h2.1.b] at h; simp at h
def rowN (n : Nat) : List Int := (List.range n).map fun j : Nat => (j : Int) + 1
theorem rowN_len {n : Nat} : (rowN n).length = n := by simp [rowN]
theorem rowN_at {n i : Nat} (h : i < n) : at_ (rowN n) i = (i : Int) + 1 := at_eq (by simp [rowN, h])
theorem rowN_succ {n : Nat} : rowN (n + 1) = rowN n ++ [(n : Int) + 1] := by simp [rowN, List.range_succ]
theorem rowN_mem {n : Nat} {x : Int} : x ∈ rowN n ↔ 1 ≤ x ∧ x ≤ n := by
  simp only [rowN, List.mem_map, List.mem_range]
  constructor
  · rintro ⟨j, hj, rfl⟩; omega
  · rintro ⟨h1, h2⟩; exact ⟨x.toNat - 1, by omega, by omega⟩
structure OrdS (A : List Node_one) (K : Int → List Int) (n : Nat) : Prop where
  tree : Tree A K
  len : A.length = n + 1
  row : K 0 = rowN n
  par : (nodeA A 0).Parent = -1
  host : (at_ A 0).host = -1
  kind : (nodeA A 0).Kind = 0
theorem OrdS.new : OrdS [docD] (fun _ => []) 0 := ⟨Tree.new, rfl, rfl, rfl, rfl, rfl⟩
theorem anc0 {A : List Node_one} {id : Int} (hp : (nodeA A 0).Parent = -1) (hh : (at_ A 0).host = -1) (h1 : id ≠ 0) (h2 : id ≠ -1) : ¬ Anc A 0 id := fun h => by
  have h := (anc_ne (fun e => h1 e.symm) (by decide)).1 h
  have e : nextUp A 0 = -1 := by
    have hp' : (at_ A (0 : Int).toNat).Node.Parent = -1 := hp
    rw [nextUp, if_pos hp']; exact hh
  rw [e] at h
  exact h2 (anc_none h)
theorem OrdS.more {A : List Node_one} {K : Int → List Int} {n : Nat} (s : OrdS A K n) {o : Api_node} (hk : o.Kind ≠ 0 ∧ o.Kind ≠ 5) (ha : o.Attrs.length ≤ 1024) {before : Int} (hb : before = -1 ∨ 1 ≤ before ∧ before ≤ n) :
    (linkL (A ++ [blankN o]) 0 ((n : Int) + 1) before).1 = 0 ∧ Tree (A ++ [blankN o]) (addK A K) ∧ addK A K 0 = rowN n := by
  have hl := s.len
  have ht := s.tree.add o ha
  have hid : ((n : Int) + 1) = (A.length : Int) := by rw [hl]; rfl
  have h0 : InA A 0 := ⟨by decide, by omega⟩
  have hK : addK A K 0 = rowN n := by rw [addK, if_neg (by omega)]; exact s.row
  refine ⟨?_, ht, hK⟩
  have hnew : nodeA (A ++ [blankN o]) ((n : Int) + 1) = (blankN o).Node := by rw [hid, nodeA, at_new]
  have hold : at_ (A ++ [blankN o]) (0 : Int).toNat = at_ A (0 : Int).toNat := at_old h0
  refine link_go (inA_new.2 (.inl h0)) (inA_new.2 (.inr hid)) ?_ ?_ ?_ ?_ ?_
  · rcases hb with hb | hb
    · exact .inl hb
    · have hm : before ∈ addK A K 0 := by rw [hK]; exact rowN_mem.2 hb
      exact .inr ((ht.lnk 0 (inA_new.2 (.inl h0))).mem hm)
  · rw [nodeA, hold]; show parentB (nodeA A 0).Kind = true
    rw [s.kind]; rfl
  · rw [hnew]; exact hk
  · rw [hnew]; rfl
  · refine anc0 ?_ ?_ (by omega) (by omega)
    · rw [nodeA, hold]; exact s.par
    · rw [show (0 : Nat) = (0 : Int).toNat from rfl, hold]; exact s.host
theorem OrdS.step {A : List Node_one} {K : Int → List Int} {n : Nat} (s : OrdS A K n) {o : Api_node} (hk : o.Kind ≠ 0 ∧ o.Kind ≠ 5) (ha : o.Attrs.length ≤ 1024) :
    (linkL (A ++ [blankN o]) 0 ((n : Int) + 1) (-1)).1 = 0 ∧ ∃ K', OrdS (linkL (A ++ [blankN o]) 0 ((n : Int) + 1) (-1)).2 K' (n + 1) := by
  obtain ⟨h0, ht, hK⟩ := s.more hk ha (before := -1) (.inl rfl)
  refine ⟨h0, _, ht.link h0, by rw [linkL_len, List.length_append, s.len]; rfl, ?_, ?_, ?_, ?_⟩
  · rw [linkK, if_pos rfl, hK, insB_end fun y hy => by have := rowN_mem.1 hy; omega, rowN_succ]
  all_goals
    obtain ⟨l1, l2, g⟩ := link_ok ht h0
    have hp := (g.put ht).2 0 (by decide)
    have h0A : InA A 0 := ⟨by decide, by have := s.len; omega⟩
    have hold : at_ (A ++ [blankN o]) (0 : Int).toNat = at_ A (0 : Int).toNat := at_old h0A
  · rw [hp.parent, if_neg (by omega), nodeA, hold]; exact s.par
  · have := core_host hp.core
    rw [hold] at this
    exact this.trans s.host
  · have := core_kind hp.core
    rw [hold] at this
    exact this.trans s.kind
/-- one more that is put somewhere, and taken away again -/
theorem OrdS.once {A : List Node_one} {K : Int → List Int} {n : Nat} (s : OrdS A K n) {o : Api_node} (hk : o.Kind ≠ 0 ∧ o.Kind ≠ 5) (ha : o.Attrs.length ≤ 1024) {before place : Int} (hb : before = -1 ∧ place = n ∨ 0 ≤ place ∧ place < n ∧ before = place + 1) :
    (linkL (A ++ [blankN o]) 0 ((n : Int) + 1) before).1 = 0 ∧ ∃ K3 K4, Tree (linkL (A ++ [blankN o]) 0 ((n : Int) + 1) before).2 K3 ∧ (K3 0).length = n + 1 ∧ at_ (K3 0) place.toNat = (n : Int) + 1 ∧
      (unlinkL (linkL (A ++ [blankN o]) 0 ((n : Int) + 1) before).2 ((n : Int) + 1)).1 = 0 ∧ Tree (unlinkL (linkL (A ++ [blankN o]) 0 ((n : Int) + 1) before).2 ((n : Int) + 1)).2 K4 ∧ K4 0 = rowN n ∧
      unlinkL (unlinkL (linkL (A ++ [blankN o]) 0 ((n : Int) + 1) before).2 ((n : Int) + 1)).2 ((n : Int) + 1) = (5, (unlinkL (linkL (A ++ [blankN o]) 0 ((n : Int) + 1) before).2 ((n : Int) + 1)).2) := by
  obtain ⟨h0, ht, hK⟩ := s.more hk ha (before := before) (by omega)
  have h3 := ht.link h0
  obtain ⟨l1, l2, g⟩ := link_ok ht h0
  have hp := (g.put ht).2
  have hni := (g.put ht).1
  have hr : rowN n = l1 ++ l2 := by rw [← hK]; exact g.row
  have hnew : linkK (addK A K) 0 ((n : Int) + 1) before 0 = l1 ++ ((n : Int) + 1) :: l2 := by rw [linkK, if_pos rfl]; exact g.new
  have hll : l1.length + l2.length = n := by have := congrArg List.length hr; simpa [rowN_len] using this.symm
  have h3l : (linkL (A ++ [blankN o]) 0 ((n : Int) + 1) before).2.length = n + 2 := by rw [linkL_len, List.length_append, s.len]; rfl
  have hid3 : InA (linkL (A ++ [blankN o]) 0 ((n : Int) + 1) before).2 ((n : Int) + 1) := ⟨by omega, by rw [h3l]; omega⟩
  have hpar3 : (nodeA (linkL (A ++ [blankN o]) 0 ((n : Int) + 1) before).2 ((n : Int) + 1)).Parent = 0 := by rw [(hp _ hid3.1).parent, if_pos rfl]
  have u0 : (unlinkL (linkL (A ++ [blankN o]) 0 ((n : Int) + 1) before).2 ((n : Int) + 1)).1 = 0 := by
    simp only [nodeA] at hpar3
    rw [unlinkL, if_neg (by rw [hid3.b]; simp), if_neg (by rw [hpar3]; decide)]
  have h4 := h3.unlink u0
  obtain ⟨m1, m2, gu⟩ := unlink_ok h3 u0
  have h4l : (unlinkL (linkL (A ++ [blankN o]) 0 ((n : Int) + 1) before).2 ((n : Int) + 1)).2.length = n + 2 := by rw [unlinkL_len, h3l]
  have hid4 : InA (unlinkL (linkL (A ++ [blankN o]) 0 ((n : Int) + 1) before).2 ((n : Int) + 1)).2 ((n : Int) + 1) := ⟨by omega, by rw [h4l]; omega⟩
  refine ⟨h0, _, _, h3, by rw [hnew]; simp; omega, ?_, u0, h4, ?_, ?_⟩
  · rw [hnew]
    have hpl : place.toNat = l1.length := by
      rcases hb with ⟨hb1, hb2⟩ | ⟨hb1, hb2, hb3⟩
      · have e := g.bef
        rw [hb1] at e
        cases l2 with
        | nil => simp at hll; omega
        | cons y l2 =>
          have : y ∈ rowN n := by rw [hr]; simp
          have := rowN_mem.1 this
          have e : (-1 : Int) = y := e
          omega
      · have e := g.bef
        cases l2 with
        | nil => have e : before = -1 := e; omega
        | cons y l2 =>
          have e : before = y := e
          have hlt : l1.length < n := by simp at hll; omega
          have e1 := rowN_at hlt
          rw [hr, at_app_r (Nat.le_refl _), Nat.sub_self, at_cons_zero] at e1
          omega
    rw [hpl, at_app_r (Nat.le_refl _), Nat.sub_self, at_cons_zero]
  · rw [hpar3, unlinkK, if_pos rfl, hnew, filter_gone (by rw [← hnew]; exact h3.nodup 0 ⟨by decide, by rw [h3l]; omega⟩), hr]
  · have hgone := gone_at (A := (linkL (A ++ [blankN o]) 0 ((n : Int) + 1) before).2) (up := (nodeA (linkL (A ++ [blankN o]) 0 ((n : Int) + 1) before).2 ((n : Int) + 1)).Parent) (id := (n : Int) + 1) (l := lastL m1) (r := headL m2) gu.hid gu.hup (by rw [← gu.prev]; exact h3.prevIn gu.hid) (by rw [← gu.next]; exact h3.nextIn gu.hid) hid3.1
    have hres : (unlinkL (linkL (A ++ [blankN o]) 0 ((n : Int) + 1) before).2 ((n : Int) + 1)).2 = _ := congrArg Prod.snd gu.res
    have hpar4 : (nodeA (unlinkL (linkL (A ++ [blankN o]) 0 ((n : Int) + 1) before).2 ((n : Int) + 1)).2 ((n : Int) + 1)).Parent = -1 := by
      rw [hres, hgone.parent, if_pos rfl]
    simp only [nodeA] at hpar4
    rw [unlinkL, if_neg (by rw [hid4.b]; simp), if_pos hpar4]
end Go.Proofs.YtoohapbaelmkcaaGreat
