/- What both arenas show is the same; plain. -/
import Derived.Test.YthkmnohghpdjhaaRef3
import Derived.Test.YthkmnohghpdjhaaOrder2
set_option linter.unusedVariables false
set_option linter.unusedSimpArgs false
namespace Go.Proofs.Ythkmnohghpdjhaa
open Go Go.Hb Go.RowKit
structure Sim1 (a : Node_one) (kids : List Int) (o : Ref01_one) : Prop where
  kind : o.Kind = a.Node.Kind
  space : o.Space = a.Node.Space
  name : o.Name = a.Node.Name
  attrs : o.Attrs = a.Node.Attrs
  data : o.Data = a.Node.Data
  system : o.System = a.Node.System
  inner : o.Inner = a.Node.Inner
  host : o.Host = a.host
  up : o.Up = a.Node.Parent
  kids : o.Kids = kids
structure Sim (A : List Node_one) (K : Int → List Int) (R : List Ref01_one) : Prop where
  len : R.length = A.length
  one : ∀ x : Int, InA A x → Sim1 (at_ A x.toNat) (K x) (at_ R x.toNat)
theorem Sim.has {A : List Node_one} {K : Int → List Int} {R : List Ref01_one} (s : Sim A K R) (x : Int) : hasR R x = hasB A x := by simp [hasR, hasB, s.len]
def InR2 (R : List Ref01_one) (x : Int) : Prop := 0 ≤ x ∧ x < R.length
theorem at_setR {R : List Ref01_one} {i y : Int} (hi : InR2 R i) (hy : 0 ≤ y) (v : Ref01_one) : at_ (R.set i.toNat v) y.toNat = if y = i then v else at_ R y.toNat := by
  obtain ⟨h0, h1⟩ := hi
  by_cases h : y = i
  · subst h; rw [if_pos rfl, at_set_eq (by omega)]
  · rw [if_neg h, at_set_ne (by omega)]
theorem Sim.inR {A : List Node_one} {K : Int → List Int} {R : List Ref01_one} (s : Sim A K R) {x : Int} (h : InA A x) : InR2 R x := ⟨h.1, by rw [s.len]; exact h.2⟩
/-- with one node's row of children put down, then one node's parent -/
def setKidsR (R : List Ref01_one) (i : Int) (p : Option Addr) (l : List Int) (c : Nat) : List Ref01_one := R.set i.toNat { at_ R i.toNat with KidsP := p, Kids := l, KidsC := c }
def setUpR (R : List Ref01_one) (i v : Int) : List Ref01_one := R.set i.toNat { at_ R i.toNat with Up := v }
theorem setKidsR_len {R : List Ref01_one} {i : Int} {p : Option Addr} {l : List Int} {c : Nat} : (setKidsR R i p l c).length = R.length := by simp [setKidsR]
theorem setUpR_len {R : List Ref01_one} {i v : Int} : (setUpR R i v).length = R.length := by simp [setUpR]
theorem Sim1.coreTo {a b : Node_one} {l : List Int} {o : Ref01_one} (s : Sim1 a l o) (h : coreN b = coreN a) (hp : b.Node.Parent = a.Node.Parent) : Sim1 b l o := by
  have e1 := core_kind h
  have e2 := core_host h
  have e3 := core_inner h
  have e4 := core_attrs h
  have e5 := congrArg (fun z : Node_one => z.Node.Space) h
  have e6 := congrArg (fun z : Node_one => z.Node.Name) h
  have e7 := congrArg (fun z : Node_one => z.Node.Data) h
  have e8 := congrArg (fun z : Node_one => z.Node.System) h
  simp only [coreN] at e5 e6 e7 e8
  exact ⟨by rw [e1, s.kind], by rw [e5, s.space], by rw [e6, s.name], by rw [e4, s.attrs], by rw [e7, s.data], by rw [e8, s.system], by rw [e3, s.inner], by rw [e2, s.host], by rw [hp, s.up], s.kids⟩
theorem Sim.relinked {A B : List Node_one} {K : Int → List Int} {R : List Ref01_one} (s : Sim A K R) {up id v : Int} {l : List Int} {p : Option Addr} {c : Nat} (hl : B.length = A.length) (hup : InA A up) (hid : InA A id) (hne : up ≠ id)
    (hc : ∀ y, InA A y → coreN (at_ B y.toNat) = coreN (at_ A y.toNat)) (hp : ∀ y, InA A y → (nodeA B y).Parent = if y = id then v else (nodeA A y).Parent) :
    Sim B (fun x => if x = up then l else K x) (setUpR (setKidsR R up p l c) id v) := by
  have h1 : InR2 (setKidsR R up p l c) id := by have := s.inR hid; exact ⟨this.1, by rw [setKidsR_len]; exact this.2⟩
  refine ⟨by rw [setUpR_len, setKidsR_len, s.len, hl], fun y hy => ?_⟩
  have hyA : InA A y := hy.len hl.symm
  have e1 : at_ (setKidsR R up p l c) y.toNat = if y = up then { at_ R up.toNat with KidsP := p, Kids := l, KidsC := c } else at_ R y.toNat := at_setR (s.inR hup) hy.1 _
  have e1' : at_ (setKidsR R up p l c) id.toNat = at_ R id.toNat := by rw [setKidsR, at_setR (s.inR hup) hid.1, if_neg hne.symm]
  have e2 : at_ (setUpR (setKidsR R up p l c) id v) y.toNat = if y = id then { at_ (setKidsR R up p l c) id.toNat with Up := v } else at_ (setKidsR R up p l c) y.toNat := at_setR h1 hy.1 _
  rw [e2]
  have sy := s.one y hyA
  have hpy := hp y hyA
  have hcy := hc y hyA
  by_cases h : y = id
  · subst h
    rw [if_pos rfl, e1', if_neg (fun e => hne e.symm)]
    rw [if_pos rfl] at hpy
    have sy2 : Sim1 { at_ A y.toNat with Node := { (at_ A y.toNat).Node with Parent := v } } (K y) { at_ R y.toNat with Up := v } := ⟨sy.kind, sy.space, sy.name, sy.attrs, sy.data, sy.system, sy.inner, sy.host, rfl, sy.kids⟩
    refine sy2.coreTo (hcy.trans ?_) hpy
    rfl
  · rw [if_neg h, e1]
    rw [if_neg h] at hpy
    by_cases h2 : y = up
    · subst h2
      rw [if_pos rfl, if_pos rfl]
      have sy2 : Sim1 (at_ A y.toNat) l { at_ R y.toNat with KidsP := p, Kids := l, KidsC := c } := ⟨sy.kind, sy.space, sy.name, sy.attrs, sy.data, sy.system, sy.inner, sy.host, sy.up, rfl⟩
      exact sy2.coreTo hcy hpy
    · rw [if_neg h2, if_neg h2]
      exact sy.coreTo hcy hpy
noncomputable def linkKs (A : List Node_one) (K : Int → List Int) (up id before : Int) : Int → List Int := if (linkL A up id before).1 = 0 then linkK K up id before else K
def unlinkKs (A : List Node_one) (K : Int → List Int) (id : Int) : Int → List Int := if (unlinkL A id).1 = 0 then unlinkK K (nodeA A id).Parent id else K
theorem linkL_err {A : List Node_one} {up id before : Int} (h : (linkL A up id before).1 ≠ 0) : (linkL A up id before).2 = A := by
  unfold linkL at h ⊢
  by_cases c1 : hasB A up = false ∨ hasB A id = false ∨ (before ≠ -1 ∧ hasB A before = false)
  · rw [if_pos c1]
  rw [if_neg c1] at h ⊢
  by_cases c2 : parentB (at_ A up.toNat).Node.Kind = false ∨ (at_ A id.toNat).Node.Kind = 0 ∨ (at_ A id.toNat).Node.Kind = 5
  · rw [if_pos c2]
  rw [if_neg c2] at h ⊢
  by_cases c3 : (at_ A id.toNat).Node.Parent ≠ -1 ∨ aboveB A up id = true
  · rw [if_pos c3]
  rw [if_neg c3] at h ⊢
  by_cases c4 : before ≠ -1 ∧ (at_ A before.toNat).Node.Parent ≠ up
  · rw [if_pos c4]
  rw [if_neg c4] at h; exact absurd rfl h
theorem unlinkL_err {A : List Node_one} {id : Int} (h : (unlinkL A id).1 ≠ 0) : (unlinkL A id).2 = A := by
  unfold unlinkL at h ⊢
  repeat' split at h
  all_goals first | (simp at h; done) | simp_all
theorem Tree.linkS {A : List Node_one} {K : Int → List Int} (t : Tree A K) (up id before : Int) : Tree (linkL A up id before).2 (linkKs A K up id before) := by
  unfold linkKs
  split
  · next h => exact t.link h
  · next h => rw [linkL_err h]; exact t
theorem Tree.unlinkS {A : List Node_one} {K : Int → List Int} (t : Tree A K) (id : Int) : Tree (unlinkL A id).2 (unlinkKs A K id) := by
  unfold unlinkKs
  split
  · next h => exact t.unlink h
  · next h => rw [unlinkL_err h]; exact t
theorem Sim.link {A : List Node_one} {K : Int → List Int} {R : List Ref01_one} (t : Tree A K) (s : Sim A K R) {up id before : Int} (h0 : (linkL A up id before).1 = 0) (p : Option Addr) (c : Nat) :
    Sim (linkL A up id before).2 (linkK K up id before) (setUpR (setKidsR R up p (insB id before (at_ R up.toNat).Kids) c) id up) := by
  obtain ⟨l1, l2, g⟩ := link_ok t h0
  have hp := (g.put t).2
  rw [(s.one up g.hup).kids]
  refine s.relinked linkL_len g.hup g.hid ?_ (fun y hy => (hp y hy.1).core) fun y hy => (hp y hy.1).parent
  intro e
  exact g.above (e ▸ .refl _)
theorem Sim.unlink {A : List Node_one} {K : Int → List Int} {R : List Ref01_one} (t : Tree A K) (s : Sim A K R) {id : Int} (h0 : (unlinkL A id).1 = 0) (p : Option Addr) (c : Nat) :
    Sim (unlinkL A id).2 (unlinkK K (nodeA A id).Parent id) (setUpR (setKidsR R (nodeA A id).Parent p ((at_ R ((nodeA A id).Parent).toNat).Kids.filter (fun y => y ≠ id)) c) id (-1)) := by
  obtain ⟨l1, l2, g⟩ := unlink_ok t h0
  have hL := t.lnk _ g.hup
  have hN := t.nodup _ g.hup
  have grow := g.row
  rw [g.row] at hL hN
  have hp : ∀ y, 0 ≤ y → Gone A (unlinkL A id).2 (nodeA A id).Parent id (lastL l1) (headL l2) y := fun y hy => by
    rw [g.res]
    refine gone_at g.hid g.hup ?_ ?_ hy
    · rw [← g.prev]; exact t.prevIn g.hid
    · rw [← g.next]; exact t.nextIn g.hid
  rw [(s.one _ g.hup).kids]
  have hne : (nodeA A id).Parent ≠ id := by
    intro e
    obtain ⟨rk, hrk⟩ := t.rank
    have h1 := hrk id g.hid.b
    have e' : (at_ A id.toNat).Node.Parent = id := e
    have e2 : nextUp A id = id := by rw [nextUp, if_neg (by have := g.par; simp only [nodeA] at this; exact this), e']
    rw [e2] at h1
    rcases h1 with h1 | h1
    · have := g.hid.1; omega
    · omega
  have hs := s.relinked (v := -1) (l := (K (nodeA A id).Parent).filter (fun y => y ≠ id)) (p := p) (c := c) (B := (unlinkL A id).2) unlinkL_len g.hup g.hid hne (fun y hy => (hp y hy.1).core) fun y hy => (hp y hy.1).parent
  have e : unlinkK K (nodeA A id).Parent id = fun x => if x = (nodeA A id).Parent then (K (nodeA A id).Parent).filter (fun y => y ≠ id) else K x := by
    funext x
    rw [unlinkK]
    split
    · next h => rw [h]
    · rfl
  rw [e]; exact hs
theorem Sim.add {A : List Node_one} {K : Int → List Int} {R : List Ref01_one} (s : Sim A K R) {n : Api_node} {o : Ref01_one} (h : Sim1 (blankN n) [] (blankR o)) : Sim (A ++ [blankN n]) (addK A K) (R ++ [blankR o]) := by
  refine ⟨by simp [s.len], fun x hx => ?_⟩
  rcases inA_new.1 hx with hx | rfl
  · rw [at_old hx, addK, if_neg (by have := hx.2; omega), at_app_l (by have := hx.1; have := hx.2; have := s.len; omega)]
    exact s.one x hx
  · rw [at_new, addK, if_pos rfl, show ((A.length : Int)).toNat = R.length by rw [s.len]; rfl, at_app_new]
    exact h
theorem Sim.new : Sim [docD] (fun _ => []) [docR] := by
  refine ⟨rfl, fun x hx => ?_⟩
  have : x = 0 := by have h1 := hx.1; have h2 : _ < ((1 : Nat) : Int) := hx.2; omega
  subst this
  exact ⟨rfl, rfl, rfl, rfl, rfl, rfl, rfl, rfl, rfl, rfl⟩
end Go.Proofs.Ythkmnohghpdjhaa
