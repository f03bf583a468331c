/- Trees: what Link, Unlink and the makers leave; plain. -/
import Derived.Test.YtoohapbaelmkcaaGreatTree3
set_option linter.unusedVariables false
set_option linter.unusedSimpArgs false
namespace Go.Proofs.YtoohapbaelmkcaaGreat
open Go Go.Hb Go.RowKit
theorem core_kind {o p : Node_one} (h : coreN o = coreN p) : o.Node.Kind = p.Node.Kind := by
  have := congrArg (fun z : Node_one => z.Node.Kind) h
  exact this
theorem core_host {o p : Node_one} (h : coreN o = coreN p) : o.host = p.host := by
  have := congrArg (fun z : Node_one => z.host) h
  exact this
theorem core_inner {o p : Node_one} (h : coreN o = coreN p) : o.Node.Inner = p.Node.Inner := by
  have := congrArg (fun z : Node_one => z.Node.Inner) h
  exact this
theorem core_attrs {o p : Node_one} (h : coreN o = coreN p) : o.Node.Attrs = p.Node.Attrs := by
  have := congrArg (fun z : Node_one => z.Node.Attrs) h
  exact this
theorem toNat_nat {i : Nat} : ((i : Int)).toNat = i := rfl
theorem attrs_core {A B : List Node_one} (hl : B.length = A.length) (hc : ∀ y : Int, 0 ≤ y → coreN (at_ B y.toNat) = coreN (at_ A y.toNat)) (h : AttrsOk A) : AttrsOk B := fun i hi => by
  have := hc i (by omega)
  rw [toNat_nat] at this
  rw [core_attrs this]; exact h i (by omega)
/-- where a link goes -/
structure LinkAt (A : List Node_one) (K : Int → List Int) (up id before : Int) (l1 l2 : List Int) : Prop where
  hup : InA A up
  hid : InA A id
  kup : parentB (nodeA A up).Kind = true
  kid : (nodeA A id).Kind ≠ 0 ∧ (nodeA A id).Kind ≠ 5
  free : (nodeA A id).Parent = -1
  above : ¬ Anc A up id
  row : K up = l1 ++ l2
  bef : before = headL l2
  prev : prevL A up before = lastL l1
  new : insB id before (K up) = l1 ++ id :: l2
  res : linkL A up id before = (0, joinL (joinL (setLinks A id up (lastL l1) before) up (lastL l1) id) up id before)
theorem link_ok {A : List Node_one} {K : Int → List Int} (h : Tree A K) {up id before : Int} (h0 : (linkL A up id before).1 = 0) : ∃ l1 l2, LinkAt A K up id before l1 l2 := by
  unfold linkL at h0
  split at h0; · simp at h0
  next c1 =>
  split at h0; · simp at h0
  next c2 =>
  split at h0; · simp at h0
  next c3 =>
  split at h0; · simp at h0
  next c4 =>
  have e1 : linkL A up id before = (0, joinL (joinL (setLinks A id up (prevL A up before) before) up (prevL A up before) id) up id before) := by
    unfold linkL; rw [if_neg c1, if_neg c2, if_neg c3, if_neg c4]
  have hup : InA A up := by
    rw [← inA_iff]; cases hb : hasB A up with
    | true => rfl
    | false => exact absurd (.inl hb) c1
  have hid : InA A id := by
    rw [← inA_iff]; cases hb : hasB A id with
    | true => rfl
    | false => exact absurd (.inr (.inl hb)) c1
  have hbe : before = -1 ∨ InA A before := by
    by_cases hb : before = -1
    · exact .inl hb
    · right; rw [← inA_iff]; cases hb2 : hasB A before with
      | true => rfl
      | false => exact absurd (.inr (.inr ⟨hb, hb2⟩)) c1
  have kup : parentB (nodeA A up).Kind = true := by
    cases hb : parentB (nodeA A up).Kind with
    | true => rfl
    | false => exact absurd (.inl hb) c2
  have free : (nodeA A id).Parent = -1 := by
    by_cases hb : (nodeA A id).Parent = -1
    · exact hb
    · exact absurd (.inl hb) c3
  have above : ¬ Anc A up id := fun hA => c3 (.inr (by rw [aboveB, hup.b, hid.b, ancB_of hA]; rfl))
  have kid : (nodeA A id).Kind ≠ 0 ∧ (nodeA A id).Kind ≠ 5 := ⟨fun hb => c2 (.inr (.inl hb)), fun hb => c2 (.inr (.inr hb))⟩
  by_cases hb : before = -1
  · subst hb
    have e2 : prevL A up (-1) = lastL (K up) := by rw [prevL, if_pos rfl]; exact (h.lnk up hup).last
    refine ⟨K up, [], hup, hid, kup, kid, free, above, by simp, rfl, e2, ?_, ?_⟩
    · rw [insB_end fun y hy => ?_]
      have := ((h.lnk up hup).mem hy).1.1; omega
    · rw [e1, e2]
  · have hbi := hbe.resolve_left hb
    have hpb : (nodeA A before).Parent = up := by
      by_cases hp : (nodeA A before).Parent = up
      · exact hp
      · exact absurd ⟨hb, hp⟩ c4
    obtain ⟨pre, suf, e, e3, _⟩ := h.nbr hbi (by rw [hpb]; have := hup.1; omega)
    rw [hpb] at e
    have e2 : prevL A up before = lastL pre := by rw [prevL, if_neg hb]; exact e3
    have hnd := h.nodup up hup
    refine ⟨pre, before :: suf, hup, hid, kup, kid, free, above, e, rfl, e2, ?_, ?_⟩
    · rw [e] at hnd ⊢; exact insB_at hb hnd
    · rw [e1, e2]
theorem LinkAt.put {A : List Node_one} {K : Int → List Int} (h : Tree A K) {up id before : Int} {l1 l2 : List Int} (g : LinkAt A K up id before l1 l2) : id ∉ l1 ++ l2 ∧ ∀ y, 0 ≤ y → Put A (linkL A up id before).2 up id (lastL l1) (headL l2) y := by
  have hL := h.lnk up g.hup
  rw [g.row] at hL
  have hni : id ∉ l1 ++ l2 := fun hm => by have := (hL.mem hm).2; rw [g.free] at this; have := g.hup.1; omega
  refine ⟨hni, fun y hy => ?_⟩
  rw [g.res, g.bef]
  refine put_at g.hid g.hup ?_ ?_ ?_ ?_ hy
  · by_cases e : l1 = []
    · subst e; exact .inl rfl
    · exact .inr (hL.mem (List.mem_append_left _ (lastL_mem e))).1
  · by_cases e : l2 = []
    · subst e; exact .inl rfl
    · exact .inr (hL.mem (List.mem_append_right _ (headL_mem e))).1
  · by_cases e : l1 = []
    · subst e; have := g.hid.1; show (-1 : Int) ≠ id; omega
    · exact fun e2 => hni (e2 ▸ List.mem_append_left _ (lastL_mem e))
  · by_cases e : l2 = []
    · subst e; have := g.hid.1; show (-1 : Int) ≠ id; omega
    · exact fun e2 => hni (e2 ▸ List.mem_append_right _ (headL_mem e))
def linkK (K : Int → List Int) (up id before : Int) : Int → List Int := fun x => if x = up then insB id before (K up) else K x
theorem rank_link {A B : List Node_one} {up id : Int} (hl : B.length = A.length) (hr : Ranked A) (hup : InA A up) (hid : InA A id) (hroot : nextUp A id = -1) (hna : ¬ Anc A up id) (hn : ∀ y, InA A y → nextUp B y = if y = id then up else nextUp A y) : Ranked B := by
  obtain ⟨rk, hrk⟩ := hr
  refine ⟨fun x => @ite Nat (Anc A x id) (Classical.propDecidable _) (rk x + rk up + 1) (rk x), fun x hx => ?_⟩
  have hxA : InA A x := ⟨(inA_iff.1 hx).1, by have := (inA_iff.1 hx).2; omega⟩
  rw [hn x hxA]
  by_cases e : x = id
  · subst e
    rw [if_pos rfl]
    right
    refine ⟨(hup.len hl).b, ?_⟩
    dsimp only
    rw [if_neg hna, if_pos (.refl x)]
    omega
  · rw [if_neg e]
    rcases hrk x hxA.b with h1 | ⟨h1, h2⟩
    · exact .inl h1
    · right
      refine ⟨((inA_iff.1 h1).len hl).b, ?_⟩
      dsimp only
      by_cases hA : Anc A x id
      · have := (anc_ne e (by have := hxA.1; omega)).1 hA
        rw [if_pos hA, if_pos this]; omega
      · rw [if_neg hA, if_neg (fun h => hA (.step (by have := hxA.1; omega) h))]; exact h2
theorem Tree.link {A : List Node_one} {K : Int → List Int} (h : Tree A K) {up id before : Int} (h0 : (linkL A up id before).1 = 0) : Tree (linkL A up id before).2 (linkK K up id before) := by
  obtain ⟨l1, l2, g⟩ := link_ok h h0
  obtain ⟨hni, hp⟩ := g.put h
  have hl : (linkL A up id before).2.length = A.length := linkL_len
  obtain ⟨B, hB⟩ : ∃ B, B = (linkL A up id before).2 := ⟨_, rfl⟩
  rw [← hB] at hp hl ⊢
  have hiA : ∀ {y}, InA B y → InA A y := fun h => h.len hl.symm
  have hL := h.lnk up g.hup
  have hN := h.nodup up g.hup
  rw [g.row] at hL hN
  have hu0 := g.hup.1
  have hpar : ∀ y, InA A y → (nodeA B y).Parent = if y = id then up else (nodeA A y).Parent := fun y hy => (hp y hy.1).parent
  constructor
  · intro x hx
    have hxA := hiA hx
    by_cases e : x = up
    · subst e
      rw [linkK, if_pos rfl, g.new]
      exact hL.put hN hl g.hup g.hid hni hp
    · rw [linkK, if_neg e]
      have hX := h.lnk x hxA
      have px := hp x hxA.1
      refine ⟨by rw [px.first, if_neg (fun h => e h.2), hX.first], by rw [px.last, if_neg (fun h => e h.2), hX.last], fun pre y suf ey => ?_⟩
      obtain ⟨g1, g2, g3, g4⟩ := hX.kid pre y suf ey
      have py := hp y g1.1
      have hne : y ≠ id := fun e2 => by rw [e2, g.free] at g2; have := hxA.1; omega
      have hnu : ∀ z, z ∈ l1 ++ l2 → y ≠ z := fun z hz e2 => by rw [e2, (hL.mem hz).2] at g2; exact e g2.symm
      refine ⟨g1.len hl, by rw [py.parent, if_neg hne, g2], ?_, ?_⟩
      · rw [py.prev, if_neg hne, if_neg, g3]
        rintro ⟨k1, k2⟩
        by_cases e1 : l2 = []
        · subst e1; exact k1 rfl
        · exact hnu _ (List.mem_append_right _ (headL_mem e1)) k2
      · rw [py.next, if_neg hne, if_neg, g4]
        rintro ⟨k1, k2⟩
        by_cases e1 : l1 = []
        · subst e1; exact k1 rfl
        · exact hnu _ (List.mem_append_left _ (lastL_mem e1)) k2
  · intro x hx
    by_cases e : x = up
    · subst e
      rw [linkK, if_pos rfl, g.new]
      have h3 := List.nodup_append.1 hN
      refine List.nodup_append.2 ⟨h3.1, List.nodup_cons.2 ⟨fun hm => hni (List.mem_append_right _ hm), h3.2.1⟩, fun a ha b hb => ?_⟩
      rcases List.mem_cons.1 hb with rfl | hb
      · exact fun e => hni (e ▸ List.mem_append_left _ ha)
      · exact h3.2.2 a ha b hb
    · rw [linkK, if_neg e]; exact h.nodup x (hiA hx)
  · intro y hy hpy
    have hyA := hiA hy
    rw [hpar y hyA] at hpy ⊢
    by_cases e : y = id
    · subst e
      rw [if_pos rfl]
      exact ⟨g.hup.len hl, by rw [linkK, if_pos rfl, g.new]; simp⟩
    · rw [if_neg e] at hpy ⊢
      obtain ⟨h1, h2⟩ := h.up y hyA hpy
      refine ⟨h1.len hl, ?_⟩
      by_cases e2 : (nodeA A y).Parent = up
      · rw [linkK, if_pos e2, g.new]
        rw [e2, g.row] at h2
        rcases List.mem_append.1 h2 with h2 | h2
        · exact List.mem_append_left _ h2
        · exact List.mem_append_right _ (List.mem_cons_of_mem _ h2)
      · rw [linkK, if_neg e2]; exact h2
  · intro y hy hpy
    have hyA := hiA hy
    rw [hpar y hyA] at hpy
    by_cases e : y = id
    · subst e; rw [if_pos rfl] at hpy; omega
    · rw [if_neg e] at hpy
      obtain ⟨h1, h2⟩ := h.free y hyA hpy
      have py := hp y hyA.1
      have hnu : ∀ z, z ∈ l1 ++ l2 → y ≠ z := fun z hz e2 => by have := (hL.mem hz).2; rw [← e2, hpy] at this; omega
      constructor
      · rw [py.prev, if_neg e, if_neg, h1]
        rintro ⟨k1, k2⟩
        by_cases e1 : l2 = []
        · subst e1; exact k1 rfl
        · exact hnu _ (List.mem_append_right _ (headL_mem e1)) k2
      · rw [py.next, if_neg e, if_neg, h2]
        rintro ⟨k1, k2⟩
        by_cases e1 : l1 = []
        · subst e1; exact k1 rfl
        · exact hnu _ (List.mem_append_left _ (lastL_mem e1)) k2
  · intro y hy
    rw [core_host (hp y hy.1).core]
    exact (h.host y (hiA hy)).imp (fun h => h) fun h => h.len hl
  · intro y hy hk
    rw [nodeA, core_kind (hp y hy.1).core] at hk
    rw [core_host (hp y hy.1).core]
    exact h.hostK y (hiA hy) hk
  · intro y hy hpy
    rw [nodeA, core_kind (hp y hy.1).core]
    rw [hpar y (hiA hy)] at hpy
    by_cases e : y = id
    · subst e; exact g.kid.2
    · rw [if_neg e] at hpy; exact h.upK y (hiA hy) hpy
  · intro y hy
    rw [nodeA, core_inner (hp y hy.1).core]
    exact (h.inner y (hiA hy)).imp (fun h => h) fun h => h.len hl
  · refine rank_link hl h.rank g.hup g.hid ?_ g.above fun y hy => ?_
    · have e := g.free
      simp only [nodeA] at e
      rw [nextUp, if_pos e]; exact h.hostK id g.hid g.kid.2
    · have e := hpar y hy
      simp only [nodeA] at e
      simp only [nextUp, e, core_host (hp y hy.1).core]
      by_cases e2 : y = id
      · rw [if_pos e2, if_pos e2, if_neg (by omega)]
      · rw [if_neg e2, if_neg e2]
  · exact attrs_core hl (fun y hy => (hp y hy).core) h.attrs
end Go.Proofs.YtoohapbaelmkcaaGreat
