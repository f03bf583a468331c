/- How many nodes are below a node; what of an arena stays when links change; plain. -/
import Derived.Test.YtoohapbaelmkcaaGreatOrder1
set_option linter.unusedVariables false
set_option linter.unusedSimpArgs false
namespace Go.Proofs.YtoohapbaelmkcaaGreat
open Go Go.Hb Go.RowKit
theorem countP_two {β : Type} (q r : β → Bool) : ∀ L : List β, L.countP q = L.countP (fun y => q y && r y) + L.countP (fun y => q y && !r y)
  | [] => rfl
  | y :: L => by
    have ih := countP_two q r L
    simp only [List.countP_cons]
    cases q y <;> cases r y <;> simp <;> omega
theorem countP_le {β : Type} {p q : β → Bool} : ∀ {L : List β}, (∀ y ∈ L, p y = true → q y = true) → L.countP p ≤ L.countP q
  | [], _ => Nat.le_refl _
  | y :: L, h => by
    have ih := countP_le (p := p) (q := q) (L := L) fun z hz => h z (by simp [hz])
    have hy := h y (by simp)
    simp only [List.countP_cons]
    cases e : p y with
    | true => rw [hy e]; simp; omega
    | false => simp; omega
theorem countP_sum {β : Type} {L : List β} : ∀ (ps : List (β → Bool)) (q : β → Bool), ps.Pairwise (fun p p' => ∀ y ∈ L, ¬ (p y = true ∧ p' y = true)) → (∀ p ∈ ps, ∀ y ∈ L, p y = true → q y = true) → (ps.map fun p => L.countP p).sum ≤ L.countP q
  | [], _, _, _ => Nat.zero_le _
  | p :: ps, q, hp, hq => by
    obtain ⟨h1, h2⟩ := List.pairwise_cons.1 hp
    have ih := countP_sum ps (fun y => q y && !p y) h2 fun p' hp' y hy e => by
      have e1 := hq p' (by simp [hp']) y hy e
      have e2 : p y = false := by
        cases e3 : p y with
        | false => rfl
        | true => exact absurd ⟨e3, e⟩ (h1 p' hp' y hy)
      simp [e1, e2]
    have h3 : L.countP p ≤ L.countP (fun y => q y && p y) := countP_le fun y hy e => by simp [hq p (by simp) y hy e, e]
    have h4 := countP_two q p L
    simp only [List.map_cons, List.sum_cons]
    omega
theorem Anc.trans {A : List Node_one} {x y z : Int} (h : Anc A x y) (g : Anc A y z) : Anc A x z := by
  induction h with
  | refl => exact g
  | step h _ ih => exact .step h (ih g)
theorem anc_two {A : List Node_one} {y c c' : Int} (h : Anc A y c) (g : Anc A y c') : Anc A c c' ∨ Anc A c' c := by
  induction h with
  | refl => exact .inl g
  | step h hs ih =>
    cases g with
    | refl => exact .inr (.step h hs)
    | step _ gs => exact ih gs
theorem anc_rk {A : List Node_one} {rk : Int → Nat} (hr : ∀ x, hasB A x = true → nextUp A x = -1 ∨ hasB A (nextUp A x) = true ∧ rk (nextUp A x) < rk x) {y x : Int} (h : Anc A y x) (hx : x ≠ -1) (hy : InA A y) : rk x ≤ rk y := by
  induction h with
  | refl => exact Nat.le_refl _
  | step h hs ih =>
    rcases hr _ hy.b with e | ⟨e1, e2⟩
    · rw [e] at hs; exact absurd (anc_none hs) hx
    · have := ih hx (inA_iff.1 e1); omega
noncomputable def cnt (A : List Node_one) (x : Int) : Nat := (List.range A.length).countP fun y : Nat => ancB A (y : Int) x
theorem cnt_le {A : List Node_one} {x : Int} : cnt A x ≤ A.length := by
  have := List.countP_le_length (p := fun y : Nat => ancB A (y : Int) x) (l := List.range A.length)
  simpa [cnt] using this
theorem cnt_pos {A : List Node_one} {x : Int} (hx : InA A x) : 0 < cnt A x := by
  refine List.countP_pos_iff.2 ⟨x.toNat, by have := hx.1; have := hx.2; simp; omega, ?_⟩
  have : ((x.toNat : Nat) : Int) = x := Int.toNat_of_nonneg hx.1
  rw [this]; exact ancB_of (.refl x)
/-- those below the ones right below a node are fewer than those below it -/
theorem cnt_below {A : List Node_one} (hr : Ranked A) {x : Int} (hx : InA A x) {cs : List Int} (hn : cs.Nodup) (hc : ∀ c ∈ cs, InA A c ∧ nextUp A c = x) : (cs.map (cnt A)).sum + 1 ≤ cnt A x := by
  obtain ⟨rk, hrk⟩ := hr
  have hx1 : x ≠ -1 := by have := hx.1; omega
  have lt : ∀ c ∈ cs, rk x < rk c := fun c hm => by
    obtain ⟨h1, h2⟩ := hc c hm
    rcases hrk c h1.b with e | ⟨_, e⟩
    · rw [h2] at e; exact absurd e hx1
    · rwa [h2] at e
  have ne : ∀ c ∈ cs, c ≠ -1 := fun c hm => by have := (hc c hm).1.1; omega
  have no : ∀ c ∈ cs, ¬ Anc A x c := fun c hm h => by
    have := anc_rk hrk h (ne c hm) hx
    have := lt c hm
    omega
  have key := countP_sum (L := List.range A.length) ((fun y : Nat => decide ((y : Int) = x)) :: cs.map fun c (y : Nat) => ancB A (y : Int) c) (fun y => ancB A (y : Int) x) (by
    refine List.pairwise_cons.2 ⟨fun p hp y _ h => ?_, ?_⟩
    · obtain ⟨c, hm, rfl⟩ := List.mem_map.1 hp
      obtain ⟨h1, h2⟩ := h
      have h1 := of_decide_eq_true h1
      have h2 : ancB A (y : Int) c = true := h2
      rw [h1] at h2
      exact no c hm (ancB_iff.1 h2)
    · refine List.pairwise_map.2 ?_
      refine List.Pairwise.imp_of_mem ?_ hn
      intro c c' hm hm' hne y _ h
      have h1 := ancB_iff.1 h.1
      have h2 := ancB_iff.1 h.2
      rcases anc_two h1 h2 with h | h
      · have := (anc_ne hne (ne c hm)).1 h
        rw [(hc c hm).2] at this
        exact no c' hm' this
      · have := (anc_ne (fun e => hne e.symm) (ne c' hm')).1 h
        rw [(hc c' hm').2] at this
        exact no c hm this) (by
    intro p hp y hy h
    rcases List.mem_cons.1 hp with rfl | hp
    · have h := of_decide_eq_true h
      rw [h]; exact ancB_of (.refl x)
    · obtain ⟨c, hm, rfl⟩ := List.mem_map.1 hp
      refine ancB_of ((ancB_iff.1 h).trans (.step (ne c hm) ?_))
      rw [(hc c hm).2]; exact .refl x)
  have h1 : 0 < (List.range A.length).countP (fun y : Nat => decide ((y : Int) = x)) := List.countP_pos_iff.2 ⟨x.toNat, by have := hx.1; have := hx.2; simp; omega, by have := hx.1; simp; omega⟩
  simp only [List.map_cons, List.sum_cons, List.map_map] at key
  have e : cs.map ((fun p => List.countP p (List.range A.length)) ∘ fun c (y : Nat) => ancB A (y : Int) c) = cs.map (cnt A) := rfl
  rw [e] at key
  show _ ≤ cnt A x
  have : cnt A x = (List.range A.length).countP (fun y : Nat => ancB A (y : Int) x) := rfl
  omega
/-- a template's contents know their host -/
def InnOk (A : List Node_one) : Prop := ∀ y, InA A y → (nodeA A y).Inner ≠ -1 → InA A (nodeA A y).Inner ∧ (nodeA A (nodeA A y).Inner).Kind = 5 ∧ (at_ A (nodeA A y).Inner.toNat).host = y ∧ (nodeA A y).Kind = 1
theorem kid_up {A : List Node_one} {K : Int → List Int} (t : Tree A K) {x c : Int} (hx : InA A x) (hc : c ∈ K x) : InA A c ∧ nextUp A c = x := by
  obtain ⟨h1, h2⟩ := (t.lnk x hx).mem hc
  refine ⟨h1, ?_⟩
  have : (at_ A c.toNat).Node.Parent = x := h2
  rw [nextUp, this, if_neg (by have := hx.1; omega)]
theorem inner_up {A : List Node_one} {K : Int → List Int} (t : Tree A K) (g : InnOk A) {x : Int} (hx : InA A x) (hi : (nodeA A x).Inner ≠ -1) : InA A (nodeA A x).Inner ∧ nextUp A (nodeA A x).Inner = x := by
  obtain ⟨h1, h2, h3, _⟩ := g x hx hi
  refine ⟨h1, ?_⟩
  have hp : (nodeA A (nodeA A x).Inner).Parent = -1 := Classical.byContradiction fun hp => t.upK _ h1 hp h2
  rw [nextUp, if_pos hp, h3]
theorem kids_cnt {A : List Node_one} {K : Int → List Int} (t : Tree A K) {x : Int} (hx : InA A x) : ((K x).map (cnt A)).sum + 1 ≤ cnt A x := cnt_below t.rank hx (t.nodup x hx) fun c hc => kid_up t hx hc
theorem inner_cnt {A : List Node_one} {K : Int → List Int} (t : Tree A K) (g : InnOk A) {x : Int} (hx : InA A x) (hi : (nodeA A x).Inner ≠ -1) : ((K x).map (cnt A)).sum + cnt A (nodeA A x).Inner + 1 ≤ cnt A x := by
  have h1 := inner_up t g hx hi
  have h5 := (g x hx hi).2.1
  have := cnt_below t.rank hx (cs := (nodeA A x).Inner :: K x) (by
    refine List.nodup_cons.2 ⟨fun hm => ?_, t.nodup x hx⟩
    have h2 := ((t.lnk x hx).mem hm).2
    exact t.upK _ h1.1 (by rw [h2]; have := hx.1; omega) h5) (fun c hc => by
    rcases List.mem_cons.1 hc with rfl | hc
    · exact h1
    · exact kid_up t hx hc)
  simp only [List.map_cons, List.sum_cons] at this
  omega
theorem sum_mem {l : List Int} {f : Int → Nat} {c : Int} (h : c ∈ l) : f c ≤ (l.map f).sum := by
  induction l with
  | nil => simp at h
  | cons y l ih =>
    simp only [List.map_cons, List.sum_cons]
    rcases List.mem_cons.1 h with rfl | h
    · omega
    · have := ih h; omega
/-! what no call of links changes -/
theorem InnOk.same {A B : List Node_one} (g : InnOk A) (hl : B.length = A.length) (h : ∀ y : Int, 0 ≤ y → (nodeA B y).Inner = (nodeA A y).Inner ∧ (nodeA B y).Kind = (nodeA A y).Kind ∧ (at_ B y.toNat).host = (at_ A y.toNat).host) : InnOk B := fun y hy hi => by
  have hyA := hy.len hl.symm
  rw [(h y hy.1).1] at hi ⊢
  obtain ⟨g1, g2, g3, g4⟩ := g y hyA hi
  exact ⟨g1.len hl, by rw [(h _ g1.1).2.1]; exact g2, by rw [(h _ g1.1).2.2]; exact g3, by rw [(h y hy.1).2.1]; exact g4⟩
theorem InnOk.core {A B : List Node_one} (g : InnOk A) (hl : B.length = A.length) (h : ∀ y : Int, 0 ≤ y → coreN (at_ B y.toNat) = coreN (at_ A y.toNat)) : InnOk B := g.same hl fun y hy => ⟨core_inner (h y hy), core_kind (h y hy), core_host (h y hy)⟩
theorem InnOk.new : InnOk [docD] := fun y hy hi => by
  obtain ⟨h1, h2⟩ := hy
  simp only [List.length_cons, List.length_nil] at h2
  obtain rfl : y = 0 := by omega
  exact absurd rfl hi
theorem InnOk.add {A : List Node_one} (g : InnOk A) (n : Api_node) : InnOk (A ++ [blankN n]) := fun y hy hi => by
  rcases inA_new.1 hy with h | rfl
  · rw [nodeA, at_old h] at hi ⊢
    obtain ⟨g1, g2, g3, g4⟩ := g y h hi
    exact ⟨inA_new.2 (.inl g1), by rw [nodeA, at_old g1]; exact g2, by rw [at_old g1]; exact g3, g4⟩
  · rw [nodeA, at_new] at hi; exact absurd rfl hi
theorem InnOk.hosted {A : List Node_one} (g : InnOk A) {id fr : Int} (hi : InA A id) (hf : InA A fr) (hk : (nodeA A fr).Kind = 5) (hk1 : (nodeA A id).Kind = 1) (hh : (at_ A fr.toNat).host = -1) : InnOk (setHost (setInner A id fr) fr id) := by
  have hlen : (setHost (setInner A id fr) fr id).length = A.length := by simp [setHost, setInner]
  have hfi : InA (setInner A id fr) fr := hf.len (by simp [setInner])
  have hne : fr ≠ id := fun e => by rw [e, hk1] at hk; exact absurd hk (by decide)
  have f : ∀ y : Int, 0 ≤ y → (nodeA (setHost (setInner A id fr) fr id) y).Kind = (nodeA A y).Kind ∧ (nodeA (setHost (setInner A id fr) fr id) y).Inner = (if y = id then fr else (nodeA A y).Inner) ∧ (at_ (setHost (setInner A id fr) fr id) y.toNat).host = (if y = fr then id else (at_ A y.toNat).host) := fun y hy => by
    simp only [nodeA]
    rw [setHost, at_setI hfi hy]
    by_cases c1 : y = fr
    · rw [if_pos c1, if_pos c1, if_neg (by omega), setInner, at_setI hi hf.1, if_neg hne, c1]
      exact ⟨rfl, rfl, rfl⟩
    · rw [if_neg c1, if_neg c1, setInner, at_setI hi hy]
      by_cases c2 : y = id
      · rw [if_pos c2, if_pos c2, c2]; exact ⟨rfl, rfl, rfl⟩
      · rw [if_neg c2, if_neg c2]; exact ⟨rfl, rfl, rfl⟩
  intro y hy hyi
  have hyA := hy.len hlen.symm
  obtain ⟨f1, f2, f3⟩ := f y hy.1
  rw [f2] at hyi ⊢
  rw [f1]
  by_cases c2 : y = id
  · rw [if_pos c2] at hyi ⊢
    obtain ⟨e1, e2, e3⟩ := f fr hf.1
    refine ⟨hf.len hlen, by rw [e1]; exact hk, by rw [e3, if_pos rfl]; exact c2.symm, by rw [c2]; exact hk1⟩
  · rw [if_neg c2] at hyi ⊢
    obtain ⟨g1, g2, g3, g4⟩ := g y hyA hyi
    obtain ⟨e1, e2, e3⟩ := f _ g1.1
    refine ⟨g1.len hlen, by rw [e1]; exact g2, ?_, g4⟩
    rw [e3, if_neg (fun e => by rw [e, hh] at g3; have := hyA.1; omega)]
    exact g3
theorem InnOk.addL {A : List Node_one} (g : InnOk A) (n : Api_node) (ts : List ByteArray) : InnOk (addL A n ts).2.2 := by
  unfold Go.Proofs.YtoohapbaelmkcaaGreat.addL
  repeat' split
  · exact g
  · exact g
  · exact g.add n
theorem InnOk.element {A : List Node_one} (g : InnOk A) (sp : Int) (nm : ByteArray) (xs : List Api_attr) (q : Option Addr) (d : Nat) : InnOk (elementL A sp nm xs q d).2.2 := by
  unfold elementL
  repeat' split
  · exact g
  · exact g
  · exact g
  · exact g
  · exact g
  · have g2 := (g.add (elementN q d sp nm xs)).add fragmentN
    have i1 : InA (A ++ [blankN (elementN q d sp nm xs)]) (A.length : Int) := ⟨by omega, by simp; omega⟩
    have id2 : InA (A ++ [blankN (elementN q d sp nm xs)] ++ [blankN fragmentN]) (A.length : Int) := inA_new.2 (.inl i1)
    have if2 : InA (A ++ [blankN (elementN q d sp nm xs)] ++ [blankN fragmentN]) ((A ++ [blankN (elementN q d sp nm xs)]).length : Int) := inA_new.2 (.inr rfl)
    have e1 : at_ (A ++ [blankN (elementN q d sp nm xs)] ++ [blankN fragmentN]) ((A.length : Int)).toNat = blankN (elementN q d sp nm xs) := by rw [at_old i1, at_new]
    have e2 : at_ (A ++ [blankN (elementN q d sp nm xs)] ++ [blankN fragmentN]) (((A ++ [blankN (elementN q d sp nm xs)]).length : Int)).toNat = blankN fragmentN := at_new
    exact g2.hosted id2 if2 (by rw [nodeA, e2]; rfl) (by rw [nodeA, e1]; rfl) (by rw [e2]; rfl)
  · exact g.add _
/-! how long texts are -/
structure TextN (n : Api_node) : Prop where
  name : n.Name.size ≤ 1048576
  data : n.Data.size ≤ 1048576
  system : n.System.size ≤ 1048576
  attrs : longB (attrTexts n.Attrs) = false
def TextOk (A : List Node_one) : Prop := ∀ y, InA A y → TextN (nodeA A y)
theorem long_mem {l : List ByteArray} (h : longB l = false) {s : ByteArray} (hs : s ∈ l) : s.size ≤ 1048576 := by
  have := List.any_eq_false.1 h s hs
  simp only [decide_eq_true_eq] at this
  omega
theorem long_app {l m : List ByteArray} : longB (l ++ m) = (longB l || longB m) := by simp [longB]
theorem TextOk.new : TextOk [docD] := fun y hy => by
  obtain ⟨h1, h2⟩ := hy
  simp only [List.length_cons, List.length_nil] at h2
  obtain rfl : y = 0 := by omega
  exact ⟨Nat.zero_le _, Nat.zero_le _, Nat.zero_le _, rfl⟩
theorem TextOk.add {A : List Node_one} (g : TextOk A) {n : Api_node} (h : TextN n) : TextOk (A ++ [blankN n]) := fun y hy => by
  rcases inA_new.1 hy with hy | rfl
  · rw [nodeA, at_old hy]; exact g y hy
  · rw [nodeA, at_new]; exact ⟨h.name, h.data, h.system, h.attrs⟩
theorem TextOk.same {A B : List Node_one} (g : TextOk A) (hl : B.length = A.length) (h : ∀ y : Int, 0 ≤ y → (nodeA B y).Name = (nodeA A y).Name ∧ (nodeA B y).Data = (nodeA A y).Data ∧ (nodeA B y).System = (nodeA A y).System ∧ (nodeA B y).Attrs = (nodeA A y).Attrs) : TextOk B := fun y hy => by
  have := g y (hy.len hl.symm)
  obtain ⟨h1, h2, h3, h4⟩ := h y hy.1
  exact ⟨by rw [h1]; exact this.name, by rw [h2]; exact this.data, by rw [h3]; exact this.system, by rw [h4]; exact this.attrs⟩
theorem core_name {o p : Node_one} (h : coreN o = coreN p) : o.Node.Name = p.Node.Name := by
  have := congrArg (fun z : Node_one => z.Node.Name) h; simpa [coreN] using this
theorem core_data {o p : Node_one} (h : coreN o = coreN p) : o.Node.Data = p.Node.Data := by
  have := congrArg (fun z : Node_one => z.Node.Data) h; simpa [coreN] using this
theorem core_system {o p : Node_one} (h : coreN o = coreN p) : o.Node.System = p.Node.System := by
  have := congrArg (fun z : Node_one => z.Node.System) h; simpa [coreN] using this
theorem TextOk.core {A B : List Node_one} (g : TextOk A) (hl : B.length = A.length) (h : ∀ y : Int, 0 ≤ y → coreN (at_ B y.toNat) = coreN (at_ A y.toNat)) : TextOk B := g.same hl fun y hy => ⟨core_name (h y hy), core_data (h y hy), core_system (h y hy), core_attrs (h y hy)⟩
theorem TextOk.addL {A : List Node_one} (g : TextOk A) {n : Api_node} {ts : List ByteArray} (h : longB ts = false → TextN n) : TextOk (addL A n ts).2.2 := by
  unfold Go.Proofs.YtoohapbaelmkcaaGreat.addL
  split
  · exact g
  · split
    · exact g
    · rename_i h1 _
      exact g.add (h (by simpa using h1))
theorem hosted_text {A : List Node_one} {id fr : Int} (hi : InA A id) (hf : InA A fr) : ∀ y : Int, 0 ≤ y → (nodeA (setHost (setInner A id fr) fr id) y).Name = (nodeA A y).Name ∧ (nodeA (setHost (setInner A id fr) fr id) y).Data = (nodeA A y).Data ∧ (nodeA (setHost (setInner A id fr) fr id) y).System = (nodeA A y).System ∧ (nodeA (setHost (setInner A id fr) fr id) y).Attrs = (nodeA A y).Attrs := fun y hy => by
  have hfi : InA (setInner A id fr) fr := hf.len (by simp [setInner])
  have f : ∀ z : Int, 0 ≤ z → ∃ v, (at_ (setInner A id fr) z.toNat).Node = { (nodeA A z) with Inner := v } := fun z hz => by
    rw [setInner, at_setI hi hz]
    by_cases c : z = id
    · rw [if_pos c, c]; exact ⟨_, rfl⟩
    · rw [if_neg c]; exact ⟨_, rfl⟩
  have g : (nodeA (setHost (setInner A id fr) fr id) y) = (at_ (setInner A id fr) y.toNat).Node := by
    rw [nodeA, setHost, at_setI hfi hy]
    by_cases c : y = fr
    · rw [if_pos c, c]
    · rw [if_neg c]
  obtain ⟨v, e⟩ := f y hy
  rw [g, e]
  exact ⟨rfl, rfl, rfl, rfl⟩
theorem TextOk.element {A : List Node_one} (g : TextOk A) (sp : Int) (nm : ByteArray) (xs : List Api_attr) (q : Option Addr) (d : Nat) : TextOk (elementL A sp nm xs q d).2.2 := by
  unfold elementL
  split
  · exact g
  split
  · exact g
  split
  · exact g
  split
  · exact g
  rename_i hl
  have hl : longB (nm :: attrTexts xs) = false := by simpa using hl
  have hn : TextN (elementN q d sp nm xs) := ⟨long_mem (s := nm) hl (by simp), Nat.zero_le _, Nat.zero_le _, by
    have : longB ([nm] ++ attrTexts xs) = false := hl
    rw [long_app, Bool.or_eq_false_iff] at this; exact this.2⟩
  split
  · exact g
  split
  · have g2 := (g.add hn).add (n := fragmentN) ⟨Nat.zero_le _, Nat.zero_le _, Nat.zero_le _, rfl⟩
    have i1 : InA (A ++ [blankN (elementN q d sp nm xs)]) (A.length : Int) := ⟨by omega, by simp; omega⟩
    have id2 : InA (A ++ [blankN (elementN q d sp nm xs)] ++ [blankN fragmentN]) (A.length : Int) := inA_new.2 (.inl i1)
    have if2 : InA (A ++ [blankN (elementN q d sp nm xs)] ++ [blankN fragmentN]) ((A ++ [blankN (elementN q d sp nm xs)]).length : Int) := inA_new.2 (.inr rfl)
    have ifi := if2.len (B := setInner (A ++ [blankN (elementN q d sp nm xs)] ++ [blankN fragmentN]) A.length (A ++ [blankN (elementN q d sp nm xs)]).length) (by simp [setInner])
    exact g2.same (by simp [setHost, setInner]) (hosted_text id2 if2)
  · exact g.add hn
theorem link_fail {A : List Node_one} {up id before : Int} (h : (linkL A up id before).1 ≠ 0) : (linkL A up id before).2 = A := by
  revert h
  unfold linkL
  repeat' split
  all_goals simp
theorem unlink_fail {A : List Node_one} {id : Int} (h : (unlinkL A id).1 ≠ 0) : (unlinkL A id).2 = A := by
  revert h
  unfold unlinkL
  repeat' split
  all_goals simp
theorem link_core {A : List Node_one} {K : Int → List Int} (t : Tree A K) (up id before : Int) : ∀ y : Int, 0 ≤ y → coreN (at_ (linkL A up id before).2 y.toNat) = coreN (at_ A y.toNat) := fun y hy => by
  by_cases h0 : (linkL A up id before).1 = 0
  · obtain ⟨l1, l2, g⟩ := link_ok t h0
    exact ((g.put t).2 y hy).core
  · rw [link_fail h0]
theorem unlink_core {A : List Node_one} {K : Int → List Int} (t : Tree A K) (id : Int) : ∀ y : Int, 0 ≤ y → coreN (at_ (unlinkL A id).2 y.toNat) = coreN (at_ A y.toNat) := fun y hy => by
  by_cases h0 : (unlinkL A id).1 = 0
  · obtain ⟨l1, l2, g⟩ := unlink_ok t h0
    have h1 := t.prevIn g.hid
    have h2 := t.nextIn g.hid
    rw [g.prev] at h1
    rw [g.next] at h2
    rw [g.res]
    exact (gone_at g.hid g.hup h1 h2 hy).core
  · rw [unlink_fail h0]
/-! kinds -/
def KndOk (A : List Node_one) : Prop := ∀ y, InA A y → 1 ≤ (nodeA A y).Kind ∧ (nodeA A y).Kind ≤ 5 ∨ (nodeA A y).Kind = 0 ∧ (nodeA A y).Parent = -1
theorem KndOk.new : KndOk [docD] := fun y hy => by
  obtain ⟨h1, h2⟩ := hy
  simp only [List.length_cons, List.length_nil] at h2
  obtain rfl : y = 0 := by omega
  exact .inr ⟨rfl, rfl⟩
theorem KndOk.add {A : List Node_one} (g : KndOk A) {n : Api_node} (h : 1 ≤ n.Kind ∧ n.Kind ≤ 5) : KndOk (A ++ [blankN n]) := fun y hy => by
  rcases inA_new.1 hy with hy | rfl
  · rw [nodeA, at_old hy]; exact g y hy
  · rw [nodeA, at_new]; exact .inl h
theorem KndOk.same {A B : List Node_one} (g : KndOk A) (hl : B.length = A.length) (h : ∀ y : Int, 0 ≤ y → (nodeA B y).Kind = (nodeA A y).Kind ∧ ((nodeA B y).Parent = (nodeA A y).Parent ∨ (nodeA B y).Parent = -1 ∨ (nodeA A y).Kind ≠ 0)) : KndOk B := fun y hy => by
  obtain ⟨h1, h2⟩ := h y hy.1
  rw [h1]
  rcases g y (hy.len hl.symm) with g1 | ⟨g1, g2⟩
  · exact .inl g1
  · refine .inr ⟨g1, ?_⟩
    rcases h2 with h2 | h2 | h2
    · rw [h2]; exact g2
    · exact h2
    · exact absurd g1 h2
theorem KndOk.addL {A : List Node_one} (g : KndOk A) {n : Api_node} {ts : List ByteArray} (h : 1 ≤ n.Kind ∧ n.Kind ≤ 5) : KndOk (addL A n ts).2.2 := by
  unfold Go.Proofs.YtoohapbaelmkcaaGreat.addL
  repeat' split
  · exact g
  · exact g
  · exact g.add h
theorem hosted_kind {A : List Node_one} {id fr : Int} (hi : InA A id) (hf : InA A fr) : ∀ y : Int, 0 ≤ y → (nodeA (setHost (setInner A id fr) fr id) y).Kind = (nodeA A y).Kind ∧ (nodeA (setHost (setInner A id fr) fr id) y).Parent = (nodeA A y).Parent := fun y hy => by
  have hfi : InA (setInner A id fr) fr := hf.len (by simp [setInner])
  have f : ∀ z : Int, 0 ≤ z → ∃ v, (at_ (setInner A id fr) z.toNat).Node = { (nodeA A z) with Inner := v } := fun z hz => by
    rw [setInner, at_setI hi hz]
    by_cases c : z = id
    · rw [if_pos c, c]; exact ⟨_, rfl⟩
    · rw [if_neg c]; exact ⟨_, rfl⟩
  have g : (nodeA (setHost (setInner A id fr) fr id) y) = (at_ (setInner A id fr) y.toNat).Node := by
    rw [nodeA, setHost, at_setI hfi hy]
    by_cases c : y = fr
    · rw [if_pos c, c]
    · rw [if_neg c]
  obtain ⟨v, e⟩ := f y hy
  rw [g, e]
  exact ⟨rfl, rfl⟩
theorem KndOk.element {A : List Node_one} (g : KndOk A) (sp : Int) (nm : ByteArray) (xs : List Api_attr) (q : Option Addr) (d : Nat) : KndOk (elementL A sp nm xs q d).2.2 := by
  have hn : 1 ≤ (elementN q d sp nm xs).Kind ∧ (elementN q d sp nm xs).Kind ≤ 5 := ⟨show (1 : Int) ≤ 1 by decide, show (1 : Int) ≤ 5 by decide⟩
  unfold elementL
  repeat' split
  · exact g
  · exact g
  · exact g
  · exact g
  · exact g
  · have g2 := (g.add hn).add (n := fragmentN) ⟨by decide, by decide⟩
    have i1 : InA (A ++ [blankN (elementN q d sp nm xs)]) (A.length : Int) := ⟨by omega, by simp; omega⟩
    have id2 : InA (A ++ [blankN (elementN q d sp nm xs)] ++ [blankN fragmentN]) (A.length : Int) := inA_new.2 (.inl i1)
    have if2 : InA (A ++ [blankN (elementN q d sp nm xs)] ++ [blankN fragmentN]) ((A ++ [blankN (elementN q d sp nm xs)]).length : Int) := inA_new.2 (.inr rfl)
    exact g2.same (by simp [setHost, setInner]) fun y hy => ⟨(hosted_kind id2 if2 y hy).1, .inl (hosted_kind id2 if2 y hy).2⟩
  · exact g.add hn
theorem KndOk.link {A : List Node_one} {K : Int → List Int} (g : KndOk A) (t : Tree A K) (up id before : Int) : KndOk (linkL A up id before).2 := by
  by_cases h0 : (linkL A up id before).1 = 0
  · obtain ⟨l1, l2, h⟩ := link_ok t h0
    refine g.same linkL_len fun y hy => ?_
    have p := (h.put t).2 y hy
    refine ⟨core_kind p.core, ?_⟩
    rw [p.parent]
    by_cases c : y = id
    · exact .inr (.inr (by rw [c]; exact h.kid.1))
    · rw [if_neg c]; exact .inl rfl
  · rw [link_fail h0]; exact g
theorem KndOk.unlink {A : List Node_one} {K : Int → List Int} (g : KndOk A) (t : Tree A K) (id : Int) : KndOk (unlinkL A id).2 := by
  by_cases h0 : (unlinkL A id).1 = 0
  · obtain ⟨l1, l2, h⟩ := unlink_ok t h0
    refine g.same unlinkL_len fun y hy => ?_
    have h1 := t.prevIn h.hid
    have h2 := t.nextIn h.hid
    rw [h.prev] at h1
    rw [h.next] at h2
    rw [h.res]
    have p := gone_at h.hid h.hup h1 h2 hy
    refine ⟨core_kind p.core, ?_⟩
    rw [p.parent]
    by_cases c : y = id
    · rw [if_pos c]; exact .inr (.inl rfl)
    · rw [if_neg c]; exact .inl rfl
  · rw [unlink_fail h0]; exact g
/-- a child is an element, a text, a comment or a doctype -/
theorem kid_kind {A : List Node_one} {K : Int → List Int} (t : Tree A K) (g : KndOk A) {x c : Int} (hx : InA A x) (hc : c ∈ K x) : 1 ≤ (nodeA A c).Kind ∧ (nodeA A c).Kind ≤ 4 := by
  obtain ⟨h1, h2⟩ := (t.lnk x hx).mem hc
  have hp : (nodeA A c).Parent ≠ -1 := by rw [h2]; have := hx.1; omega
  have h5 := t.upK c h1 hp
  rcases g c h1 with g1 | ⟨_, g2⟩
  · omega
  · exact absurd g2 hp
end Go.Proofs.YtoohapbaelmkcaaGreat
