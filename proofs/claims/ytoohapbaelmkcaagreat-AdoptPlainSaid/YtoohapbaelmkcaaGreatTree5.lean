/- Trees: what Unlink and the makers leave; plain. -/
import Derived.Test.YtoohapbaelmkcaaGreatTree4
set_option linter.unusedVariables false
set_option linter.unusedSimpArgs false
namespace Go.Proofs.YtoohapbaelmkcaaGreat
open Go Go.Hb Go.RowKit
def unlinkK (K : Int → List Int) (up id : Int) : Int → List Int := fun x => if x = up then (K x).filter (fun y => y ≠ id) else K x
theorem filter_gone {id : Int} {l1 l2 : List Int} (hn : (l1 ++ id :: l2).Nodup) : (l1 ++ id :: l2).filter (fun y => y ≠ id) = l1 ++ l2 := by
  have h1 : ∀ {l : List Int}, id ∉ l → l.filter (fun y => y ≠ id) = l := fun h => List.filter_eq_self.2 fun y hy => by simp; exact fun e => h (e ▸ hy)
  have h2 := List.nodup_append.1 hn
  rw [List.filter_append, List.filter_cons, if_neg (by simp), h1 (fun h => h2.2.2 id h id (by simp) rfl), h1 (List.nodup_cons.1 h2.2.1).1]
structure UnlinkAt (A : List Node_one) (K : Int → List Int) (id : Int) (l1 l2 : List Int) : Prop where
  hid : InA A id
  par : (nodeA A id).Parent ≠ -1
  hup : InA A (nodeA A id).Parent
  row : K (nodeA A id).Parent = l1 ++ id :: l2
  prev : (nodeA A id).Prev = lastL l1
  next : (nodeA A id).Next = headL l2
  res : unlinkL A id = (0, setLinks (joinL A (nodeA A id).Parent (lastL l1) (headL l2)) id (-1) (-1) (-1))
theorem unlink_ok {A : List Node_one} {K : Int → List Int} (h : Tree A K) {id : Int} (h0 : (unlinkL A id).1 = 0) : ∃ l1 l2, UnlinkAt A K id l1 l2 := by
  unfold unlinkL at h0
  split at h0; · simp at h0
  next c1 =>
  split at h0; · simp at h0
  next c2 =>
  have hid : InA A id := by
    rw [← inA_iff]; cases hb : hasB A id with
    | true => rfl
    | false => exact absurd hb c1
  obtain ⟨l1, l2, e, e1, e2⟩ := h.nbr hid c2
  refine ⟨l1, l2, hid, c2, (h.up id hid c2).1, e, e1, e2, ?_⟩
  simp only [nodeA] at e1 e2
  rw [unlinkL, if_neg c1, if_neg c2, e1, e2]
theorem Tree.unlink {A : List Node_one} {K : Int → List Int} (h : Tree A K) {id : Int} (h0 : (unlinkL A id).1 = 0) : Tree (unlinkL A id).2 (unlinkK K (nodeA A id).Parent id) := by
  obtain ⟨l1, l2, g⟩ := unlink_ok h h0
  obtain ⟨up, hupe⟩ : ∃ up, up = (nodeA A id).Parent := ⟨_, rfl⟩
  have hL := h.lnk _ g.hup
  have hN := h.nodup _ g.hup
  rw [g.row] at hL hN
  have hp : ∀ y, 0 ≤ y → Gone A (unlinkL A id).2 (nodeA A id).Parent id (lastL l1) (headL l2) y := fun y hy => by
    rw [g.res]
    refine gone_at g.hid g.hup ?_ ?_ hy
    · by_cases e : l1 = []
      · subst e; exact .inl rfl
      · exact .inr (hL.mem (List.mem_append_left _ (lastL_mem e))).1
    · by_cases e : l2 = []
      · subst e; exact .inl rfl
      · exact .inr (hL.mem (List.mem_append_right _ (List.mem_cons_of_mem _ (headL_mem e)))).1
  have hl : (unlinkL A id).2.length = A.length := unlinkL_len
  obtain ⟨B, hB⟩ : ∃ B, B = (unlinkL A id).2 := ⟨_, rfl⟩
  have grow := g.row
  have ghup := g.hup
  have gpar := g.par
  rw [← hB] at hp hl ⊢
  rw [← hupe] at hp hL grow ghup gpar ⊢
  have hiA : ∀ {y}, InA B y → InA A y := fun h => h.len hl.symm
  have hu0 := ghup.1
  have hpar : ∀ y, InA A y → (nodeA B y).Parent = if y = id then -1 else (nodeA A y).Parent := fun y hy => (hp y hy.1).parent
  have m1 : ∀ {z}, z ∈ l1 ++ l2 → z ∈ l1 ++ id :: l2 := fun hz => by
    rcases List.mem_append.1 hz with hz | hz
    · exact List.mem_append_left _ hz
    · exact List.mem_append_right _ (List.mem_cons_of_mem _ hz)
  constructor
  · intro x hx
    have hxA := hiA hx
    by_cases e : x = up
    · subst e
      rw [unlinkK, if_pos rfl, grow, filter_gone hN]
      exact hL.gone hN hl ghup hp
    · rw [unlinkK, if_neg e]
      have hX := h.lnk x hxA
      have px := hp x hxA.1
      refine ⟨by rw [px.first, if_neg (fun h => e h.2), hX.first], by rw [px.last, if_neg (fun h => e h.2), hX.last], fun pre y suf ey => ?_⟩
      obtain ⟨g1, g2, g3, g4⟩ := hX.kid pre y suf ey
      have py := hp y g1.1
      have hne : y ≠ id := fun e2 => by rw [e2, ← hupe] at g2; exact e g2.symm
      have hnu : ∀ z, z ∈ l1 ++ l2 → y ≠ z := fun z hz e2 => by rw [e2, (hL.mem (m1 hz)).2] at g2; exact e g2.symm
      refine ⟨g1.len hl, by rw [py.parent, if_neg hne, g2], ?_, ?_⟩
      · rw [py.prev, if_neg hne, if_neg, g3]
        rintro ⟨k1, k2⟩
        by_cases e1 : l2 = []
        · subst e1; exact k1 rfl
        · exact hnu _ (List.mem_append_right _ (headL_mem e1)) k2
      · rw [py.next, if_neg hne, if_neg, g4]
        rintro ⟨k1, k2⟩
        by_cases e1 : l1 = []
        · subst e1; exact k1 rfl
        · exact hnu _ (List.mem_append_left _ (lastL_mem e1)) k2
  · intro x hx
    by_cases e : x = up
    · subst e
      rw [unlinkK, if_pos rfl]
      exact (h.nodup x ghup).filter _
    · rw [unlinkK, if_neg e]; exact h.nodup x (hiA hx)
  · intro y hy hpy
    have hyA := hiA hy
    rw [hpar y hyA] at hpy ⊢
    by_cases e : y = id
    · subst e; rw [if_pos rfl] at hpy; exact absurd rfl hpy
    · rw [if_neg e] at hpy ⊢
      obtain ⟨h1, h2⟩ := h.up y hyA hpy
      refine ⟨h1.len hl, ?_⟩
      by_cases e2 : (nodeA A y).Parent = up
      · rw [unlinkK, if_pos e2]
        exact List.mem_filter.2 ⟨h2, by simpa using e⟩
      · rw [unlinkK, if_neg e2]; exact h2
  · intro y hy hpy
    have hyA := hiA hy
    rw [hpar y hyA] at hpy
    have py := hp y hyA.1
    by_cases e : y = id
    · subst e; exact ⟨by rw [py.prev, if_pos rfl], by rw [py.next, if_pos rfl]⟩
    · rw [if_neg e] at hpy
      obtain ⟨h1, h2⟩ := h.free y hyA hpy
      have hnu : ∀ z, z ∈ l1 ++ l2 → y ≠ z := fun z hz e2 => by have := (hL.mem (m1 hz)).2; rw [← e2, hpy] at this; omega
      constructor
      · rw [py.prev, if_neg e, if_neg, h1]
        rintro ⟨k1, k2⟩
        by_cases e1 : l2 = []
        · subst e1; exact k1 rfl
        · exact hnu _ (List.mem_append_right _ (headL_mem e1)) k2
      · rw [py.next, if_neg e, if_neg, h2]
        rintro ⟨k1, k2⟩
        by_cases e1 : l1 = []
        · subst e1; exact k1 rfl
        · exact hnu _ (List.mem_append_left _ (lastL_mem e1)) k2
  · intro y hy
    rw [core_host (hp y hy.1).core]
    exact (h.host y (hiA hy)).imp (fun h => h) fun h => h.len hl
  · intro y hy hk
    rw [nodeA, core_kind (hp y hy.1).core] at hk
    rw [core_host (hp y hy.1).core]
    exact h.hostK y (hiA hy) hk
  · intro y hy hpy
    rw [nodeA, core_kind (hp y hy.1).core]
    rw [hpar y (hiA hy)] at hpy
    by_cases e : y = id
    · subst e; rw [if_pos rfl] at hpy; exact absurd rfl hpy
    · rw [if_neg e] at hpy; exact h.upK y (hiA hy) hpy
  · intro y hy
    rw [nodeA, core_inner (hp y hy.1).core]
    exact (h.inner y (hiA hy)).imp (fun h => h) fun h => h.len hl
  · obtain ⟨rk, hrk⟩ := h.rank
    refine ⟨rk, fun x hx => ?_⟩
    have hxA := hiA (inA_iff.1 hx)
    have e := hpar x hxA
    simp only [nodeA] at e
    simp only [nextUp, e, core_host (hp x hxA.1).core]
    by_cases e2 : x = id
    · left
      rw [if_pos e2, if_pos rfl, e2]
      exact h.hostK id g.hid (h.upK id g.hid g.par)
    · rw [if_neg e2]
      exact (hrk x hxA.b).imp (fun h => h) fun h => ⟨((inA_iff.1 h.1).len hl).b, h.2⟩
  · exact attrs_core hl (fun y hy => (hp y hy).core) h.attrs
/-! making -/
def addK (A : List Node_one) (K : Int → List Int) : Int → List Int := fun x => if x = A.length then [] else K x
theorem at_new {A : List Node_one} {o : Node_one} : at_ (A ++ [o]) ((A.length : Int)).toNat = o := at_app_new
theorem at_old {A : List Node_one} {o : Node_one} {y : Int} (h : InA A y) : at_ (A ++ [o]) y.toNat = at_ A y.toNat := at_app_l (by have := h.1; have := h.2; omega)
theorem inA_new {A : List Node_one} {o : Node_one} {y : Int} : InA (A ++ [o]) y ↔ InA A y ∨ y = A.length := by
  simp only [InA, List.length_append, List.length_cons, List.length_nil]; omega
theorem Tree.add {A : List Node_one} {K : Int → List Int} (h : Tree A K) (n : Api_node) (ha : n.Attrs.length ≤ 1024) : Tree (A ++ [blankN n]) (addK A K) := by
  have hin : ∀ {y}, InA A y → InA (A ++ [blankN n]) y := fun h => inA_new.2 (.inl h)
  have hne : ∀ {y}, InA A y → y ≠ A.length := fun h => by have := h.2; omega
  constructor
  · intro x hx
    rcases inA_new.1 hx with hx | rfl
    · rw [addK, if_neg (hne hx)]
      have hX := h.lnk x hx
      refine ⟨by rw [nodeA, at_old hx]; exact hX.first, by rw [nodeA, at_old hx]; exact hX.last, fun pre y suf e => ?_⟩
      obtain ⟨g1, g2, g3, g4⟩ := hX.kid pre y suf e
      rw [nodeA, at_old g1]
      exact ⟨hin g1, g2, g3, g4⟩
    · rw [addK, if_pos rfl]
      exact ⟨by rw [nodeA, at_new]; rfl, by rw [nodeA, at_new]; rfl, fun pre y suf e => by simp at e⟩
  · intro x hx
    rcases inA_new.1 hx with hx | rfl
    · rw [addK, if_neg (hne hx)]; exact h.nodup x hx
    · rw [addK, if_pos rfl]; exact List.nodup_nil
  · intro y hy hp
    rcases inA_new.1 hy with hy | rfl
    · rw [nodeA, at_old hy] at hp ⊢
      obtain ⟨h1, h2⟩ := h.up y hy hp
      exact ⟨hin h1, by rw [addK, if_neg (hne h1)]; exact h2⟩
    · rw [nodeA, at_new] at hp; exact absurd rfl hp
  · intro y hy hp
    rcases inA_new.1 hy with hy | rfl
    · rw [nodeA, at_old hy] at hp ⊢; exact h.free y hy hp
    · rw [nodeA, at_new]; exact ⟨rfl, rfl⟩
  · intro y hy
    rcases inA_new.1 hy with hy | rfl
    · rw [at_old hy]; exact (h.host y hy).imp (fun h => h) hin
    · rw [at_new]; exact .inl rfl
  · intro y hy hk
    rcases inA_new.1 hy with hy | rfl
    · rw [nodeA, at_old hy] at hk; rw [at_old hy]; exact h.hostK y hy hk
    · rw [at_new]; rfl
  · intro y hy hp
    rcases inA_new.1 hy with hy | rfl
    · rw [nodeA, at_old hy] at hp ⊢; exact h.upK y hy hp
    · rw [nodeA, at_new] at hp; exact absurd rfl hp
  · intro y hy
    rcases inA_new.1 hy with hy | rfl
    · rw [nodeA, at_old hy]; exact (h.inner y hy).imp (fun h => h) hin
    · rw [nodeA, at_new]; exact .inl rfl
  · obtain ⟨rk, hrk⟩ := h.rank
    refine ⟨rk, fun x hx => ?_⟩
    rcases inA_new.1 (inA_iff.1 hx) with hx | rfl
    · rw [nextUp, at_old hx]
      exact (hrk x hx.b).imp (fun h => h) fun h => ⟨(hin (inA_iff.1 h.1)).b, h.2⟩
    · rw [nextUp, at_new]; exact .inl rfl
  · intro i hi
    by_cases e : i < A.length
    · rw [at_app_l e]; exact h.attrs i e
    · have : i = A.length := by simp at hi; omega
      subst this; rw [at_app_new]; exact ha
theorem Tree.hosted {A : List Node_one} {K : Int → List Int} (h : Tree A K) {id fr : Int} (hi : InA A id) (hf : InA A fr) (hk : (nodeA A fr).Kind = 5) (hh : (at_ A fr.toNat).host = -1) (hna : ¬ Anc A id fr) : Tree (setHost (setInner A id fr) fr id) K := by
  have hl : (setHost (setInner A id fr) fr id).length = A.length := by simp [setHost, setInner]
  have hl1 : (setInner A id fr).length = A.length := by simp [setInner]
  obtain ⟨B, hB⟩ : ∃ B, B = setHost (setInner A id fr) fr id := ⟨_, rfl⟩
  have hn : ∀ y : Int, 0 ≤ y → (nodeA B y) = if y = id then { nodeA A y with Inner := fr } else nodeA A y := fun y hy => by
    rw [hB, nodeA, setHost, at_setI (hf.len hl1) hy]
    by_cases e : y = fr
    · subst e; rw [if_pos rfl]; show nodeA (setInner A id y) y = _
      rw [nodeA, setInner, at_setI hi hy]; split
      · next e => rw [e]
      · rfl
    · rw [if_neg e, setInner, at_setI hi hy]; split
      · next e => rw [e]
      · rfl
  have hho : ∀ y : Int, 0 ≤ y → (at_ B y.toNat).host = if y = fr then id else (at_ A y.toNat).host := fun y hy => by
    rw [hB, setHost, at_setI (hf.len hl1) hy]
    by_cases e : y = fr
    · rw [if_pos e, if_pos e]
    · rw [if_neg e, if_neg e, setInner, at_setI hi hy]; split
      · next e => rw [e]
      · rfl
  rw [← hB] at hl ⊢
  have hiA : ∀ {y}, InA B y → InA A y := fun h => h.len hl.symm
  have f1 : ∀ y : Int, 0 ≤ y → (nodeA B y).Parent = (nodeA A y).Parent ∧ (nodeA B y).First = (nodeA A y).First ∧ (nodeA B y).Last = (nodeA A y).Last ∧ (nodeA B y).Prev = (nodeA A y).Prev ∧ (nodeA B y).Next = (nodeA A y).Next ∧ (nodeA B y).Kind = (nodeA A y).Kind ∧ (nodeA B y).Attrs = (nodeA A y).Attrs := fun y hy => by
    rw [hn y hy]; split <;> exact ⟨rfl, rfl, rfl, rfl, rfl, rfl, rfl⟩
  constructor
  · intro x hx
    have hX := h.lnk x (hiA hx)
    have gx := f1 x hx.1
    refine ⟨by rw [gx.2.1]; exact hX.first, by rw [gx.2.2.1]; exact hX.last, fun pre y suf e => ?_⟩
    obtain ⟨g1, g2, g3, g4⟩ := hX.kid pre y suf e
    have gy := f1 y g1.1
    exact ⟨g1.len hl, by rw [gy.1, g2], by rw [gy.2.2.2.1, g3], by rw [gy.2.2.2.2.1, g4]⟩
  · exact fun x hx => h.nodup x (hiA hx)
  · intro y hy hp
    rw [(f1 y hy.1).1] at hp ⊢
    exact (h.up y (hiA hy) hp).imp (fun h => h.len hl) fun h => h
  · intro y hy hp
    have gy := f1 y hy.1
    rw [gy.1] at hp
    rw [gy.2.2.2.1, gy.2.2.2.2.1]
    exact h.free y (hiA hy) hp
  · intro y hy
    rw [hho y hy.1]; split
    · exact .inr (hi.len hl)
    · exact (h.host y (hiA hy)).imp (fun h => h) fun h => h.len hl
  · intro y hy hky
    rw [(f1 y hy.1).2.2.2.2.2.1] at hky
    rw [hho y hy.1, if_neg (fun e : y = fr => hky (by rw [e]; exact hk))]
    exact h.hostK y (hiA hy) hky
  · intro y hy hp
    rw [(f1 y hy.1).1] at hp
    rw [(f1 y hy.1).2.2.2.2.2.1]
    exact h.upK y (hiA hy) hp
  · intro y hy
    rw [hn y hy.1]; split
    · exact .inr (hf.len hl)
    · exact (h.inner y (hiA hy)).imp (fun h => h) fun h => h.len hl
  · have hroot : nextUp A fr = -1 := by
      have hp : (nodeA A fr).Parent = -1 := by
        by_cases hp : (nodeA A fr).Parent = -1
        · exact hp
        · exact absurd hk (h.upK fr hf hp)
      simp only [nodeA] at hp
      rw [nextUp, if_pos hp, hh]
    refine rank_link hl h.rank hi hf hroot hna fun y hy => ?_
    have e1 := (f1 y hy.1).1
    simp only [nodeA] at e1
    simp only [nextUp, e1, hho y hy.1]
    by_cases e : y = fr
    · have hp : (at_ A y.toNat).Node.Parent = -1 := by
        by_cases hp : (nodeA A y).Parent = -1
        · exact hp
        · exact absurd (by rw [e]; exact hk) (h.upK y hy hp)
      rw [if_pos hp, if_pos e, if_pos e]
    · rw [if_neg e, if_neg e]
  · intro i hi2
    have := (f1 (i : Int) (by omega)).2.2.2.2.2.2
    simp only [nodeA, toNat_nat] at this
    rw [this]; exact h.attrs i (by omega)
theorem Tree.new : Tree [docD] (fun _ => []) := by
  have hx0 : ∀ {x : Int}, InA [docD] x → x = 0 := fun h => by have h1 := h.1; have h2 : _ < ((1 : Nat) : Int) := h.2; omega
  constructor
  · intro x hx; have := hx0 hx; subst this; exact ⟨rfl, rfl, fun pre y suf e => by simp at e⟩
  · intro x hx; exact List.nodup_nil
  · intro x hx hp; have := hx0 hx; subst this; exact absurd rfl hp
  · intro x hx hp; have := hx0 hx; subst this; exact ⟨rfl, rfl⟩
  · intro x hx; have := hx0 hx; subst this; exact .inl rfl
  · intro x hx hp; have := hx0 hx; subst this; rfl
  · intro x hx hp; have := hx0 hx; subst this; exact absurd rfl hp
  · intro x hx; have := hx0 hx; subst this; exact .inl rfl
  · exact ⟨fun _ => 0, fun x hx => by have := hx0 (inA_iff.1 hx); subst this; exact .inl rfl⟩
  · intro i hi; have : i = 0 := by simp at hi; omega
    subst this; exact Nat.zero_le _
end Go.Proofs.YtoohapbaelmkcaaGreat
