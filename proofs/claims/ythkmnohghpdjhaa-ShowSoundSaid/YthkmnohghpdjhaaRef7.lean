/- The walks of the answer's arena beside the program's: attributes; no condition. -/
import Derived.Test.YthkmnohghpdjhaaRef6
set_option linter.unusedVariables false
set_option linter.unusedSimpArgs false
set_option maxRecDepth 100000
namespace Go.Proofs.Ythkmnohghpdjhaa
open Go Go.Hb Go.RowKit
def SetRes (A A' : List Node_one) (id : Int) (l : List Api_attr) : Prop := (hasB A id = false ∧ A' = A) ∨ (hasB A id = true ∧ ∃ q d, A' = A.set id.toNat (setAttrs (at_ A id.toNat) q l d))
theorem SetRes.len {A A' : List Node_one} {id : Int} {l : List Api_attr} (h : SetRes A A' id l) : A'.length = A.length := by
  rcases h with ⟨_, rfl⟩ | ⟨_, q, d, rfl⟩ <;> simp
theorem SetRes.at_old {A A' : List Node_one} {id : Int} {l : List Api_attr} (h : SetRes A A' id l) {y : Int} (hy : 0 ≤ y) (hl : hasB A id = true → l = (at_ A id.toNat).Node.Attrs) : ∃ q d, at_ A' y.toNat = setAttrs (at_ A y.toNat) q (at_ A y.toNat).Node.Attrs d := by
  rcases h with ⟨_, rfl⟩ | ⟨hb, q, d, rfl⟩
  · exact ⟨_, _, rfl⟩
  · rw [at_setI (inA_iff.1 hb) hy]
    split
    · next e => subst e; rw [hl hb]; exact ⟨_, _, rfl⟩
    · exact ⟨_, _, rfl⟩
theorem Sim1.attrsTo {a : Node_one} {ks : List Int} {o : Ref01_one} (s : Sim1 a ks o) (q : Option Addr) (d : Nat) (l : List Api_attr) (p : Option Addr) (c : Nat) : Sim1 (setAttrs a q l d) ks { o with AttrsP := p, Attrs := l, AttrsC := c } :=
  ⟨s.kind, s.space, s.name, rfl, s.data, s.system, s.inner, s.host, s.up, s.kids⟩
theorem Sim.attrsSame {A A' : List Node_one} {K : Int → List Int} {R : List Ref01_one} (s : Sim A K R) {id : Int} {l : List Api_attr} (h : SetRes A A' id l) (hl : hasB A id = true → l = (at_ A id.toNat).Node.Attrs) : Sim A' K R := by
  refine ⟨by rw [s.len, h.len], fun y hy => ?_⟩
  have hyA : InA A y := hy.len h.len.symm
  obtain ⟨q, d, e⟩ := h.at_old hy.1 hl
  have sy := s.one y hyA
  rw [e]
  exact ⟨sy.kind, sy.space, sy.name, sy.attrs, sy.data, sy.system, sy.inner, sy.host, sy.up, sy.kids⟩
theorem Sim.attrs' {A A' : List Node_one} {K : Int → List Int} {R : List Ref01_one} (s : Sim A K R) {id : Int} {l l' : List Api_attr} (hid : hasB A id = true) (h : SetRes A A' id l) (hl : l' = l) {p : Option Addr} {c : Nat} : Sim A' K (R.set id.toNat { at_ R id.toNat with AttrsP := p, Attrs := l', AttrsC := c }) := by
  subst hl
  refine ⟨by rw [List.length_set, s.len, h.len], fun y hy => ?_⟩
  have hyA : InA A y := hy.len h.len.symm
  rcases h with ⟨hf, _⟩ | ⟨_, q, d, rfl⟩
  · rw [hid] at hf; simp at hf
  · rw [at_setI (inA_iff.1 hid) hy.1, at_setR (s.inR (inA_iff.1 hid)) hy.1]
    by_cases e : y = id
    · subst e; rw [if_pos rfl, if_pos rfl]; exact (s.one y hyA).attrsTo q d l' p c
    · rw [if_neg e, if_neg e]; exact s.one y hyA
theorem Tree.attrs' {A A' : List Node_one} {K : Int → List Int} (t : Tree A K) {id : Int} {l : List Api_attr} (h : SetRes A A' id l) (hl : l.length ≤ 1024) : Tree A' K := by
  rcases h with ⟨_, rfl⟩ | ⟨hb, q, d, rfl⟩
  · exact t
  have hlen : (A.set id.toNat (setAttrs (at_ A id.toNat) q l d)).length = A.length := by simp
  have f1 : ∀ y : Int, 0 ≤ y → ∃ q' l' d', at_ (A.set id.toNat (setAttrs (at_ A id.toNat) q l d)) y.toNat = setAttrs (at_ A y.toNat) q' l' d' := fun y hy => by
    rw [at_setI (inA_iff.1 hb) hy]
    split
    · next e => subst e; exact ⟨_, _, _, rfl⟩
    · exact ⟨_, (at_ A y.toNat).Node.Attrs, _, rfl⟩
  have hiA : ∀ {y}, InA (A.set id.toNat (setAttrs (at_ A id.toNat) q l d)) y → InA A y := fun h => h.len hlen.symm
  have g : ∀ y : Int, 0 ≤ y → (nodeA (A.set id.toNat (setAttrs (at_ A id.toNat) q l d)) y).Parent = (nodeA A y).Parent ∧ (nodeA (A.set id.toNat (setAttrs (at_ A id.toNat) q l d)) y).First = (nodeA A y).First ∧ (nodeA (A.set id.toNat (setAttrs (at_ A id.toNat) q l d)) y).Last = (nodeA A y).Last ∧ (nodeA (A.set id.toNat (setAttrs (at_ A id.toNat) q l d)) y).Prev = (nodeA A y).Prev ∧ (nodeA (A.set id.toNat (setAttrs (at_ A id.toNat) q l d)) y).Next = (nodeA A y).Next ∧ (nodeA (A.set id.toNat (setAttrs (at_ A id.toNat) q l d)) y).Kind = (nodeA A y).Kind ∧ (nodeA (A.set id.toNat (setAttrs (at_ A id.toNat) q l d)) y).Inner = (nodeA A y).Inner ∧ (at_ (A.set id.toNat (setAttrs (at_ A id.toNat) q l d)) y.toNat).host = (at_ A y.toNat).host := fun y hy => by
    obtain ⟨_, _, _, e⟩ := f1 y hy
    rw [nodeA, e]; exact ⟨rfl, rfl, rfl, rfl, rfl, rfl, rfl, rfl⟩
  constructor
  · intro x hx
    have hX := t.lnk x (hiA hx)
    have gx := g x hx.1
    refine ⟨by rw [gx.2.1]; exact hX.first, by rw [gx.2.2.1]; exact hX.last, fun pre y suf e => ?_⟩
    obtain ⟨g1, g2, g3, g4⟩ := hX.kid pre y suf e
    have gy := g y g1.1
    exact ⟨g1.len hlen, by rw [gy.1, g2], by rw [gy.2.2.2.1, g3], by rw [gy.2.2.2.2.1, g4]⟩
  · exact fun x hx => t.nodup x (hiA hx)
  · intro y hy hp
    rw [(g y hy.1).1] at hp ⊢
    exact (t.up y (hiA hy) hp).imp (fun h => h.len hlen) fun h => h
  · intro y hy hp
    have gy := g y hy.1
    rw [gy.1] at hp
    rw [gy.2.2.2.1, gy.2.2.2.2.1]
    exact t.free y (hiA hy) hp
  · intro y hy
    rw [(g y hy.1).2.2.2.2.2.2.2]
    exact (t.host y (hiA hy)).imp (fun h => h) fun h => h.len hlen
  · intro y hy hk
    rw [(g y hy.1).2.2.2.2.2.1] at hk
    rw [(g y hy.1).2.2.2.2.2.2.2]
    exact t.hostK y (hiA hy) hk
  · intro y hy hp
    rw [(g y hy.1).1] at hp
    rw [(g y hy.1).2.2.2.2.2.1]
    exact t.upK y (hiA hy) hp
  · intro y hy
    rw [(g y hy.1).2.2.2.2.2.2.1]
    exact (t.inner y (hiA hy)).imp (fun h => h) fun h => h.len hlen
  · obtain ⟨rk, hrk⟩ := t.rank
    refine ⟨rk, fun x hx => ?_⟩
    have hxA := hiA (inA_iff.1 hx)
    have gx := g x hxA.1
    have e1 := gx.1
    simp only [nodeA] at e1
    simp only [nextUp, e1, gx.2.2.2.2.2.2.2]
    exact (hrk x hxA.b).imp (fun h => h) fun h => ⟨((inA_iff.1 h.1).len hlen).b, h.2⟩
  · intro i hi
    rw [at_set (by have := inA_iff.1 hb; have h1 := this.1; have h2 := this.2; omega)]
    split
    · exact hl
    · exact t.attrs i (by simpa using hi)
theorem idx_nat {p : Api_attr → Bool} {l : List Api_attr} (h : 0 ≤ idx p l) : (idx p l).toNat < l.length := by have := idx_lt (p := p) (xs := l); omega
end Go.Proofs.Ythkmnohghpdjhaa
