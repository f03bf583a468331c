/- Both arenas under one call that makes a node. -/
import Derived.Test.YthkmnohghpdjhaaRef7
set_option linter.unusedVariables false
set_option linter.unusedSimpArgs false
set_option maxRecDepth 100000
namespace Go.Proofs.Ythkmnohghpdjhaa
open Go Go.Hb Go.RowKit
structure Two (A : List Node_one) (K : Int → List Int) (R : List Ref01_one) : Prop where
  tree : Tree A K
  sim : Sim A K R
  pos : 0 < A.length
  max : A.length ≤ 32768
theorem Two.rmax {A : List Node_one} {K : Int → List Int} {R : List Ref01_one} (h : Two A K R) : R.length ≤ 32768 := by rw [h.sim.len]; exact h.max
theorem Two.new : Two [docD] (fun _ => []) [docR] := ⟨Tree.new, Sim.new, by simp, by simp⟩
theorem Two.add {A : List Node_one} {K : Int → List Int} {R : List Ref01_one} (h : Two A K R) {n : Api_node} {o : Ref01_one} (hl : A.length < 32768) (ha : n.Attrs.length ≤ 1024) (hs : Sim1 (blankN n) [] (blankR o)) : Two (A ++ [blankN n]) (addK A K) (R ++ [blankR o]) :=
  ⟨h.tree.add n ha, h.sim.add hs, by simp, by simp; omega⟩
theorem add_both {A : List Node_one} {K : Int → List Int} {R : List Ref01_one} (h : Two A K R) {n : Api_node} {o : Ref01_one} (ts : List ByteArray) (ha : n.Attrs.length ≤ 1024) (hs : Sim1 (blankN n) [] (blankR o)) :
    (addL A n ts).1 = (raddR R o ts).1 ∧ (addL A n ts).2.1 = (raddR R o ts).2.1 ∧ ∃ K', Two (addL A n ts).2.2 K' (raddR R o ts).2.2 := by
  have hl := h.sim.len
  unfold addL raddR
  by_cases h1 : longB ts = true
  · rw [if_pos h1, if_pos h1]; exact ⟨rfl, rfl, K, h⟩
  rw [if_neg h1, if_neg h1]
  by_cases h2 : 32768 ≤ A.length
  · rw [if_pos h2, if_pos (by omega)]; exact ⟨rfl, rfl, K, h⟩
  rw [if_neg h2, if_neg (by omega)]
  exact ⟨by rw [hl], rfl, _, h.add (by omega) ha hs⟩
theorem el_both {A : List Node_one} {K : Int → List Int} {R : List Ref01_one} (h : Two A K R) (sp : Int) (nm : ByteArray) (xs : List Api_attr) (q q' : Option Addr) (d d' : Nat) :
    (elementL A sp nm xs q d).1 = (elementR R sp nm xs q' d').1 ∧ (A.length ≠ 32767 ∨ longB (nm :: attrTexts xs) = false → (elementL A sp nm xs q d).2.1 = (elementR R sp nm xs q' d').2.1) ∧ ∃ K', Two (elementL A sp nm xs q d).2.2 K' (elementR R sp nm xs q' d').2.2 := by
  have hl := h.sim.len
  unfold elementL elementR
  by_cases h1 : sp < 0 ∨ 2 < sp
  · rw [if_pos h1, if_pos h1]; exact ⟨rfl, fun _ => rfl, K, h⟩
  rw [if_neg h1, if_neg h1]
  by_cases h2 : 1024 < xs.length
  · rw [if_pos h2, if_pos h2]; exact ⟨rfl, fun _ => rfl, K, h⟩
  rw [if_neg h2, if_neg h2]
  by_cases h3 : tmpl sp nm ∧ A.length = 32767
  · rw [if_pos h3]
    by_cases h4 : longB (nm :: attrTexts xs) = true
    · rw [if_pos h4]
      refine ⟨rfl, fun h5 => ?_, K, h⟩
      rcases h5 with h5 | h5
      · exact absurd h3.2 h5
      · rw [h4] at h5; simp at h5
    · rw [if_neg h4, if_pos ⟨h3.1, by omega⟩]; exact ⟨rfl, fun _ => rfl, K, h⟩
  rw [if_neg h3]
  by_cases h4 : longB (nm :: attrTexts xs) = true
  · rw [if_pos h4, if_pos h4]; exact ⟨rfl, fun _ => rfl, K, h⟩
  rw [if_neg h4, if_neg h4]
  by_cases h5 : 32768 ≤ A.length
  · rw [if_pos h5]
    by_cases h6 : tmpl sp nm ∧ 32767 ≤ R.length
    · rw [if_pos h6]; exact ⟨rfl, fun _ => rfl, K, h⟩
    · rw [if_neg h6, if_pos (by omega)]; exact ⟨rfl, fun _ => rfl, K, h⟩
  rw [if_neg h5, if_neg (show ¬ (tmpl sp nm ∧ 32767 ≤ R.length) from fun h6 => h3 ⟨h6.1, by omega⟩), if_neg (show ¬ 32768 ≤ R.length by omega)]
  have s1 : Sim1 (blankN (elementN q d sp nm xs)) [] (blankR (elR q' d' sp nm xs)) := ⟨rfl, rfl, rfl, rfl, rfl, rfl, rfl, rfl, rfl, rfl⟩
  have h7 := h.add (n := elementN q d sp nm xs) (o := elR q' d' sp nm xs) (by omega) (show xs.length ≤ 1024 by omega) s1
  by_cases ht : tmpl sp nm
  · rw [if_pos ht, if_pos ht]
    refine ⟨by rw [hl], fun _ => rfl, addK (A ++ [blankN (elementN q d sp nm xs)]) (addK A K), ?_⟩
    have hA1 : A.length ≠ 32767 := fun e => h3 ⟨ht, e⟩
    have hl1 : (A ++ [blankN (elementN q d sp nm xs)]).length = A.length + 1 := by simp
    have hlR : (R ++ [blankR (elR q' d' sp nm xs)]).length = A.length + 1 := by simp [hl]
    have s2 : Sim1 (blankN fragmentN) [] (blankR fragmentR) := ⟨rfl, rfl, rfl, rfl, rfl, rfl, rfl, rfl, rfl, rfl⟩
    have h8 := h7.add (n := fragmentN) (o := fragmentR) (by omega) (Nat.zero_le _) s2
    have i1 : InA (A ++ [blankN (elementN q d sp nm xs)]) (A.length : Int) := ⟨by omega, by omega⟩
    have id2 : InA (A ++ [blankN (elementN q d sp nm xs)] ++ [blankN fragmentN]) (A.length : Int) := inA_new.2 (.inl i1)
    have if2 : InA (A ++ [blankN (elementN q d sp nm xs)] ++ [blankN fragmentN]) ((A ++ [blankN (elementN q d sp nm xs)]).length : Int) := inA_new.2 (.inr rfl)
    have e1 : at_ (A ++ [blankN (elementN q d sp nm xs)] ++ [blankN fragmentN]) ((A.length : Int)).toNat = blankN (elementN q d sp nm xs) := by rw [at_old i1, at_new]
    have e2 : at_ (A ++ [blankN (elementN q d sp nm xs)] ++ [blankN fragmentN]) (((A ++ [blankN (elementN q d sp nm xs)]).length : Int)).toNat = blankN fragmentN := at_new
    have ht3 := h8.tree.hosted id2 if2 (by rw [nodeA, e2]; rfl) (by rw [e2]; rfl) (fun hA => by
      have hA := (anc_ne (by omega) (by omega)).1 hA
      have : nextUp (A ++ [blankN (elementN q d sp nm xs)] ++ [blankN fragmentN]) (A.length : Int) = -1 := by rw [nextUp, e1]; rfl
      rw [this] at hA
      have := anc_none hA
      omega)
    refine ⟨ht3, ?_, by simp [setHost, setInner], by simp only [setHost, setInner, List.length_set, List.length_append, List.length_cons, List.length_nil]; omega⟩
    have hs := h8.sim
    have r1 : InR2 (R ++ [blankR (elR q' d' sp nm xs)] ++ [blankR fragmentR]) (A.length : Int) := hs.inR id2
    have r2 : InR2 (R ++ [blankR (elR q' d' sp nm xs)] ++ [blankR fragmentR]) ((A ++ [blankN (elementN q d sp nm xs)]).length : Int) := hs.inR if2
    refine ⟨by simp [setHostR, setInnerR, setHost, setInner, hl], fun y hy => ?_⟩
    have hlen : (setHost (setInner (A ++ [blankN (elementN q d sp nm xs)] ++ [blankN fragmentN]) A.length (A ++ [blankN (elementN q d sp nm xs)]).length) (A ++ [blankN (elementN q d sp nm xs)]).length A.length).length = (A ++ [blankN (elementN q d sp nm xs)] ++ [blankN fragmentN]).length := by simp [setHost, setInner]
    have hyA := hy.len hlen.symm
    have sy := hs.one y hyA
    have iL : InA (setInner (A ++ [blankN (elementN q d sp nm xs)] ++ [blankN fragmentN]) A.length (A ++ [blankN (elementN q d sp nm xs)]).length) ((A ++ [blankN (elementN q d sp nm xs)]).length : Int) := if2.len (by simp [setInner])
    have iR : InR2 (setInnerR (R ++ [blankR (elR q' d' sp nm xs)] ++ [blankR fragmentR]) A.length (A ++ [blankN (elementN q d sp nm xs)]).length) ((A ++ [blankN (elementN q d sp nm xs)]).length : Int) := ⟨r2.1, by have := r2.2; simpa [setInnerR] using this⟩
    have eR1 : (((R ++ [blankR (elR q' d' sp nm xs)]).length : Nat) : Int) = ((A ++ [blankN (elementN q d sp nm xs)]).length : Int) := by rw [hlR, hl1]
    have eR0 : ((R.length : Nat) : Int) = (A.length : Int) := by rw [hl]
    rw [eR1, eR0]
    rw [setHost, setHostR, at_setI iL hy.1, at_setR iR hy.1]
    by_cases c1 : y = ((A ++ [blankN (elementN q d sp nm xs)]).length : Int)
    · rw [if_pos c1, if_pos c1]
      rw [setInner, setInnerR, at_setI id2 if2.1, at_setR r1 if2.1, if_neg (by omega), if_neg (by omega)]
      rw [c1] at sy
      exact ⟨sy.kind, sy.space, sy.name, sy.attrs, sy.data, sy.system, sy.inner, rfl, sy.up, by rw [c1]; exact sy.kids⟩
    · rw [if_neg c1, if_neg c1, setInner, setInnerR, at_setI id2 hy.1, at_setR r1 hy.1]
      by_cases c2 : y = (A.length : Int)
      · rw [if_pos c2, if_pos c2]
        rw [c2] at sy
        exact ⟨sy.kind, sy.space, sy.name, sy.attrs, sy.data, sy.system, rfl, sy.host, sy.up, by rw [c2]; exact sy.kids⟩
      · rw [if_neg c2, if_neg c2]; exact sy
  · rw [if_neg ht, if_neg ht]
    exact ⟨by rw [hl], fun _ => rfl, _, h7⟩
theorem Two.link {A : List Node_one} {K : Int → List Int} {R R' : List Ref01_one} (t : Two A K R) {up id before : Int} (s : Sim (linkL A up id before).2 (linkKs A K up id before) R') : Two (linkL A up id before).2 (linkKs A K up id before) R' := ⟨t.tree.linkS _ _ _, s, by rw [linkL_len]; exact t.pos, by rw [linkL_len]; exact t.max⟩
theorem Two.unlink {A : List Node_one} {K : Int → List Int} {R R' : List Ref01_one} (t : Two A K R) {id : Int} (s : Sim (unlinkL A id).2 (unlinkKs A K id) R') : Two (unlinkL A id).2 (unlinkKs A K id) R' := ⟨t.tree.unlinkS _, s, by rw [unlinkL_len]; exact t.pos, by rw [unlinkL_len]; exact t.max⟩
theorem Tree.data {A : List Node_one} {K : Int → List Int} (t : Tree A K) {id : Int} {sd : ByteArray} : Tree (setDataL A id sd).2 K := by
  have hlen : (setDataL A id sd).2.length = A.length := setDataL_len
  have f1 : ∀ y : Int, 0 ≤ y → ∃ v, at_ (setDataL A id sd).2 y.toNat = { at_ A y.toNat with Node := { (at_ A y.toNat).Node with Data := v } } := fun y hy => by
    unfold setDataL
    by_cases c1 : hasB A id = false
    · rw [if_pos c1]; exact ⟨_, rfl⟩
    rw [if_neg c1]
    by_cases c2 : (at_ A id.toNat).Node.Kind ≠ 2 ∧ (at_ A id.toNat).Node.Kind ≠ 3
    · rw [if_pos c2]; exact ⟨_, rfl⟩
    rw [if_neg c2]
    by_cases c3 : 1048576 < sd.size
    · rw [if_pos c3]; exact ⟨_, rfl⟩
    rw [if_neg c3]
    have hid : InA A id := inA_iff.1 (by cases hb : hasB A id with | true => rfl | false => exact absurd hb c1)
    show ∃ v, at_ (setData A id sd) y.toNat = _
    rw [setData, at_setI hid hy]
    split
    · next e => rw [e]; exact ⟨_, rfl⟩
    · exact ⟨_, rfl⟩
  obtain ⟨B, hB⟩ : ∃ B, B = (setDataL A id sd).2 := ⟨_, rfl⟩
  rw [← hB] at f1 hlen ⊢
  have hiA : ∀ {y}, InA B y → InA A y := fun h => h.len hlen.symm
  have g : ∀ y : Int, 0 ≤ y → (nodeA B y).Parent = (nodeA A y).Parent ∧ (nodeA B y).First = (nodeA A y).First ∧ (nodeA B y).Last = (nodeA A y).Last ∧ (nodeA B y).Prev = (nodeA A y).Prev ∧ (nodeA B y).Next = (nodeA A y).Next ∧ (nodeA B y).Kind = (nodeA A y).Kind ∧ (nodeA B y).Inner = (nodeA A y).Inner ∧ (at_ B y.toNat).host = (at_ A y.toNat).host ∧ (nodeA B y).Attrs = (nodeA A y).Attrs := fun y hy => by
    obtain ⟨_, e⟩ := f1 y hy
    rw [nodeA, e]; exact ⟨rfl, rfl, rfl, rfl, rfl, rfl, rfl, rfl, rfl⟩
  constructor
  · intro x hx
    have hX := t.lnk x (hiA hx)
    have gx := g x hx.1
    refine ⟨by rw [gx.2.1]; exact hX.first, by rw [gx.2.2.1]; exact hX.last, fun pre y suf e => ?_⟩
    obtain ⟨g1, g2, g3, g4⟩ := hX.kid pre y suf e
    have gy := g y g1.1
    exact ⟨g1.len hlen, by rw [gy.1, g2], by rw [gy.2.2.2.1, g3], by rw [gy.2.2.2.2.1, g4]⟩
  · exact fun x hx => t.nodup x (hiA hx)
  · intro y hy hp
    rw [(g y hy.1).1] at hp ⊢
    exact (t.up y (hiA hy) hp).imp (fun h => h.len hlen) fun h => h
  · intro y hy hp
    have gy := g y hy.1
    rw [gy.1] at hp
    rw [gy.2.2.2.1, gy.2.2.2.2.1]
    exact t.free y (hiA hy) hp
  · intro y hy
    rw [(g y hy.1).2.2.2.2.2.2.2.1]
    exact (t.host y (hiA hy)).imp (fun h => h) fun h => h.len hlen
  · intro y hy hk
    rw [(g y hy.1).2.2.2.2.2.1] at hk
    rw [(g y hy.1).2.2.2.2.2.2.2.1]
    exact t.hostK y (hiA hy) hk
  · intro y hy hp
    rw [(g y hy.1).1] at hp
    rw [(g y hy.1).2.2.2.2.2.1]
    exact t.upK y (hiA hy) hp
  · intro y hy
    rw [(g y hy.1).2.2.2.2.2.2.1]
    exact (t.inner y (hiA hy)).imp (fun h => h) fun h => h.len hlen
  · obtain ⟨rk, hrk⟩ := t.rank
    refine ⟨rk, fun x hx => ?_⟩
    have hxA := hiA (inA_iff.1 hx)
    have gx := g x hxA.1
    have e1 := gx.1
    simp only [nodeA] at e1
    simp only [nextUp, e1, gx.2.2.2.2.2.2.2.1]
    exact (hrk x hxA.b).imp (fun h => h) fun h => ⟨((inA_iff.1 h.1).len hlen).b, h.2⟩
  · intro i hi
    have := (g (i : Int) (by omega)).2.2.2.2.2.2.2.2
    simp only [nodeA, toNat_nat] at this
    rw [this]; exact t.attrs i (by omega)
theorem Two.data {A : List Node_one} {K : Int → List Int} {R R' : List Ref01_one} (t : Two A K R) {id : Int} {sd : ByteArray} (s : Sim (setDataL A id sd).2 K R') : Two (setDataL A id sd).2 K R' := ⟨t.tree.data, s, by rw [setDataL_len]; exact t.pos, by rw [setDataL_len]; exact t.max⟩
end Go.Proofs.Ythkmnohghpdjhaa
