/- What the row of this folder leans on, part 0: the walks of the functions and the laws of what they compute; no condition. -/
import Derived.Test.YtpejdlfkaaiehaaGreatDoorCards
import Derived.Test.YtpejdlfkaaiehaaGreatDoorTie
import Derived.ProofKit
import Derived.OpenShut
import Derived.LaidMore
import Derived.Lay
import Derived.SevenTiedAt
import Derived.Stop.Joined
import Derived.WalkKit
import Derived.OrdersHeld
import Derived.Deep.Quiet
import Derived.Lib.UnsafeStr
import Derived.Lib.Builder
import Derived.KernelRfl
import Derived.Laws.RangeString
import Derived.Laws.Concat
import Derived.Laws.Strings2
import Derived.Laws.Externs
import Derived.Laws.Pointers
import Derived.Laws.IdiomStrings
import Derived.Great.BuildSlice
import Derived.Laws.MakeOwn
import Derived.JoinedCond
import Derived.RangeFuncLeaves
import Derived.RangeFuncRecord
import Derived.Laws.StructEq
import Derived.ScopeJumps
import Derived.Defers
import Derived.MapKept
import Derived.Test.YtpejdlfkaaiehaaGreatDoorChecked
import Derived.Tactics
import Derived.Tactics2
import Derived.Laws.Cover4
import Derived.Shelf.Strings.SplitCore
import Derived.Shelf.Strings.Search3
import Derived.Shelf.Strings.Count
import Derived.Lib.SplitLaws
import Derived.OrdersIn
section
set_option linter.unusedVariables false
set_option linter.unusedSimpArgs false
namespace Go.Hb
open Go
abbrev Env := List (Nat × Value)
theorem beq_no {d t : Nat} (h : ¬ d = t) : Nat.beq d t = false := Bool.eq_false_iff.2 fun hb => h (Nat.eq_of_beq_eq_true hb)
def look : Env → Nat → Option Value
  | [], _ => none
  | (t, v) :: E, k => bif Nat.beq t k then some v else look E k
def ev (E : Env) : Operand → Option Value
  | .tmp t => look E t
  | .const v => some v
  | .global g => some (.pointer (some ⟨g, 0, none⟩))
  | .func f => some (.func (.func f) #[] #[])
def Env.put (E : Env) : Option Tmp → Value → Env
  | some d, v => (d, v) :: E
  | none, _ => E
/-- a's frame has n places, and holds what E tells; ds are the calls that were deferred. -/
structure Fits (n : Nat) (ds : List Deferred) (E : Env) (a : Act) : Prop where
  size : a.tmps.size = n
  defers : a.defers = ds
  at_ : ∀ t v, look E t = some v → a.tmps.getD t undef = v
theorem look_put (E : Env) (d : Nat) (v : Value) (t : Nat) : look (E.put (some d) v) t = if d = t then some v else look E t := by
  by_cases h : d = t
  · subst h; simp [Env.put, look]
  · have : Nat.beq d t = false := beq_no h
    simp [Env.put, look, this, h]
def dok (n : Nat) : Option Tmp → Bool
  | some d => Nat.blt d n
  | none => true
theorem Fits.eval {n : Nat} {ds : List Deferred} {E : Env} {a : Act} (h : Fits n ds E a) {x : Operand} {v : Value} (hx : ev E x = some v) : a.eval x = v := by
  cases x with
  | tmp t => exact h.at_ t v hx
  | const c => exact Option.some.inj hx
  | global g => exact Option.some.inj hx
  | func f => exact Option.some.inj hx
theorem Fits.put {n : Nat} {ds : List Deferred} {E : Env} {a : Act} (h : Fits n ds E a) {d : Option Tmp} (hd : dok n d = true) (v : Value) : Fits n ds (E.put d v) (a.put d v) := by
  cases d with
  | none => exact h
  | some d =>
    have hd' : d < n := by simpa [dok] using hd
    refine ⟨by simp [Act.put, h.size], h.defers, fun t u ht => ?_⟩
    rw [look_put] at ht
    by_cases e : d = t
    · subst e
      simp only [if_true] at ht
      have hs : d < a.tmps.size := by rw [h.size]; exact hd'
      simp [Act.put, hs]
      exact (Option.some.inj ht)
    · rw [if_neg e] at ht
      have := h.at_ t u ht
      simp only [Act.put, Array.getD_eq_getD_getElem?] at this ⊢
      rw [Array.getElem?_setIfInBounds_ne e]
      exact this
/-- every pair of E' is told by E -/
def Env.all (E : Env) : Env → Prop
  | [] => True
  | (t, v) :: E' => look E t = some v ∧ Env.all E E'
theorem Fits.weaken {n : Nat} {ds : List Deferred} {E E' : Env} {a : Act} (h : Fits n ds E a) (hE : E.all E') : Fits n ds E' a := by
  refine ⟨h.size, h.defers, ?_⟩
  induction E' with
  | nil => intro t v hv; simp [look] at hv
  | cons p E' ih =>
    obtain ⟨t0, v0⟩ := p
    intro t v hv
    by_cases e : t0 = t
    · subst e
      have : v0 = v := by simpa [look] using hv
      subst this
      exact h.at_ _ _ hE.1
    · have hb : Nat.beq t0 t = false := beq_no e
      exact ih hE.2 t v (by simpa [look, hb] using hv)
theorem Fits.start (args : List Value) (n : Nat) (h : args.length ≤ n) :
    Fits n [] (args.zipIdx.map fun p => (p.2, p.1)) { tmps := args.toArray ++ Array.replicate (n - args.toArray.size) undef, defers := [] } := by
  refine ⟨by simp; omega, rfl, ?_⟩
  have key : ∀ (l : List Value) (k t : Nat) (v : Value), look ((l.zipIdx k).map fun p => (p.2, p.1)) t = some v → k ≤ t ∧ l[t - k]? = some v := by
    intro l
    induction l with
    | nil => intro k t v h; simp [look] at h
    | cons x l ih =>
      intro k t v h
      simp only [List.zipIdx_cons, List.map_cons] at h
      by_cases e : k = t
      · subst e; exact ⟨Nat.le_refl _, by simpa [look] using h⟩
      · have hb : Nat.beq k t = false := beq_no e
        have := ih (k + 1) t v (by simpa [look, hb] using h)
        refine ⟨by omega, ?_⟩
        have e2 : t - k = (t - (k + 1)) + 1 := by omega
        rw [e2]; simpa using this.2
  intro t v hv
  have := (key args 0 t v hv).2
  simp only [Nat.sub_zero] at this
  have hlt : t < args.length := by
    rcases Nat.lt_or_ge t args.length with h' | h'
    · exact h'
    · rw [List.getElem?_eq_none h'] at this; cases this
  simp only [List.getElem?_eq_getElem hlt, Option.some.injEq] at this
  simp [Array.getD_eq_getD_getElem?, Array.getElem?_append, hlt, this]
section
variable (P : Program) (ops : Array Oper) (Q : Exit → Act → World → Prop) (n : Nat) (ds : List Deferred)
def LW (l : List Oper) (E : Env) (w : World) : Prop := ∀ a, Fits n ds E a → wpList P ops Q l a w
def CW (c : Code) (E : Env) (w : World) : Prop := ∀ a, Fits n ds E a → c.wp P Q a w
def QW (e : Exit) (E : Env) (w : World) : Prop := ∀ a, Fits n ds E a → Q e a w
end
section
variable {P : Program} {ops : Array Oper} {Q : Exit → Act → World → Prop} {n : Nat} {ds : List Deferred} {E E' : Env} {w w' : World}
theorem c_seq {x y : Code} (h : CW P (Exit.then (y.wp P Q) Q) n ds x E w) : CW P Q n ds (.seq x y) E w := fun a ha => wp_seq (h a ha)
theorem c_skip (h : QW Q n ds .normal E w) : CW P Q n ds .skip E w := fun a ha => wp_skip (h a ha)
theorem c_ret (h : QW Q n ds .ret E w) : CW P Q n ds .ret E w := fun a ha => wp_ret (h a ha)
theorem c_exit {id : Nat} (h : QW Q n ds (.exit id) E w) : CW P Q n ds (.exit id) E w := fun a ha => wp_exit (h a ha)
theorem c_block {id : Nat} {c : Code} (h : CW P (Exit.inBlock id Q) n ds c E w) : CW P Q n ds (.block id c) E w := fun a ha => wp_block (h a ha)
theorem c_region {id : Nat} {l : List Oper} (h : LW P l.toArray Q n ds l E w) : CW P Q n ds (.region id l.toArray false) E w := fun a ha => wp_region_lit (h a ha)
theorem c_true {c : Operand} {x y : Code} (hc : ev E c = some (.bool true)) (h : CW P Q n ds x E w) : CW P Q n ds (.cond c x y) E w := fun a ha => wp_cond_true (ha.eval hc) (h a ha)
theorem c_false {c : Operand} {x y : Code} (hc : ev E c = some (.bool false)) (h : CW P Q n ds y E w) : CW P Q n ds (.cond c x y) E w := fun a ha => wp_cond_false (ha.eval hc) (h a ha)
theorem c_split {c : Operand} {x y : Code} {b : Bool} (hc : ev E c = some (.bool b)) (h1 : b = true → CW P Q n ds x E w) (h2 : b = false → CW P Q n ds y E w) : CW P Q n ds (.cond c x y) E w :=
  fun a ha => wp_cond_split (ha.eval hc) (fun e => h1 e a ha) (fun e => h2 e a ha)
theorem c_scope {c : Code} (h : CW P (Exit.noGoto Q) n ds c E w) : CW P Q n ds (.scope c) E w := fun a ha => wp_scope_straight (h a ha)
theorem c_label {l : Nat} (h : QW Q n ds .normal E w) : CW P Q n ds (.label l) E w := fun a ha => wp_label (h a ha)
theorem q_normal {y : Code} (h : CW P Q n ds y E w) : QW (Exit.then (y.wp P Q) Q) n ds .normal E w := fun a ha => h a ha
theorem q_ret {K : Act → World → Prop} (h : QW Q n ds .ret E w) : QW (Exit.then K Q) n ds .ret E w := fun a ha => h a ha
theorem q_exit {K : Act → World → Prop} {id : Nat} (h : QW Q n ds (.exit id) E w) : QW (Exit.then K Q) n ds (.exit id) E w := fun a ha => h a ha
theorem qb_normal {id : Nat} (h : QW Q n ds .normal E w) : QW (Exit.inBlock id Q) n ds .normal E w := fun a ha => h a ha
theorem qb_ret {id : Nat} (h : QW Q n ds .ret E w) : QW (Exit.inBlock id Q) n ds .ret E w := fun a ha => h a ha
theorem qb_here {id : Nat} (h : QW Q n ds .normal E w) : QW (Exit.inBlock id Q) n ds (.exit id) E w := fun a ha => by simpa [Exit.inBlock] using h a ha
theorem qb_other {id id' : Nat} (hne : Nat.beq id' id = false) (h : QW Q n ds (.exit id') E w) : QW (Exit.inBlock id Q) n ds (.exit id') E w := fun a ha => by
  have : id' ≠ id := Nat.ne_of_beq_eq_false hne
  simpa [Exit.inBlock, this] using h a ha
theorem qs_ret (h : QW Q n ds .ret E w) : QW (Exit.noGoto Q) n ds .ret E w := fun a ha => by rw [Exit.noGoto_ret]; exact h a ha
/-- A loop: X is what its rounds turn; En tells the known temporaries, I what holds, mu goes down. -/
theorem c_loop {X : Type} (En : X → Env) (I : X → World → Prop) (mu : X → Nat) {c : Code} (x0 : X) (hE : E.all (En x0)) (h0 : I x0 w)
    (round : ∀ x w, I x w → CW P (Exit.then (fun a' w' => ∃ x', (Fits n ds (En x') a' ∧ I x' w') ∧ mu x' < mu x) Q) n ds c (En x) w) : CW P Q n ds (.loop c) E w := by
  intro a ha b k cs
  have key : ∀ m x a w, mu x = m → I x w → Fits n ds (En x) a →
      ∃ e a' w', Q e a' w' ∧ Arrives P (lone (b.at a (.code c :: .inLoop c :: k)) cs w) b k cs e a' w' := by
    intro m
    induction m using Nat.strongRecOn with
    | _ m ih =>
      intro x a w hn hI ha
      obtain ⟨e, a₁, w₁, hq, harr⟩ := round x w hI a ha b (.inLoop c :: k) cs
      cases e with
      | normal =>
        obtain ⟨x', ⟨ha', hI'⟩, hlt⟩ := hq
        obtain ⟨e₂, a₂, w₂, hq₂, harr₂⟩ := ih (mu x') (hn ▸ hlt) x' a₁ w₁ rfl hI' ha'
        exact ⟨e₂, a₂, w₂, hq₂, .of_steps (Steps.trans harr (.one step_inLoop)) harr₂⟩
      | exit id => exact ⟨_, a₁, w₁, hq, .pass (x := .inLoop c) rfl (fun _ _ => .inl (by simp)) harr⟩
      | goto l => exact ⟨_, a₁, w₁, hq, .pass (x := .inLoop c) rfl (fun _ _ => .inl (by simp)) harr⟩
      | ret => exact ⟨_, a₁, w₁, hq, .pass (x := .inLoop c) rfl (fun _ _ => .inl (by simp)) harr⟩
      | panic ch => exact ⟨_, a₁, w₁, hq, .pass (x := .inLoop c) rfl (fun _ _ => .inl (by simp)) harr⟩
      | outgrown => exact ⟨_, a₁, w₁, hq, .pass (x := .inLoop c) rfl (fun _ _ => .inl (by simp)) harr⟩
  obtain ⟨e, a', w', hq, harr⟩ := key _ x0 a w rfl h0 (ha.weaken hE)
  exact ⟨e, a', w', hq, .of_steps (.one step_loop) harr⟩
/-- the same, the measure under a name of its own (a goal that is simplified keeps its shape) -/
theorem c_rounds {X : Type} (En : X → Env) (I : X → World → Prop) (mu : X → Nat) {c : Code} (x0 : X) (hE : E.all (En x0)) (h0 : I x0 w)
    (round : ∀ x w m, mu x = m → I x w → CW P (Exit.then (fun a' w' => ∃ x', (Fits n ds (En x') a' ∧ I x' w') ∧ mu x' < m) Q) n ds c (En x) w) : CW P Q n ds (.loop c) E w :=
  c_loop En I mu x0 hE h0 fun x w hI => round x w _ rfl hI
theorem q_next {X : Type} {En : X → Env} {I : X → World → Prop} {mu : X → Nat} {m : Nat} (x' : X) (hE : E.all (En x')) (hI : I x' w) (hmu : mu x' < m) :
    QW (Exit.then (fun a' w' => ∃ x', (Fits n ds (En x') a' ∧ I x' w') ∧ mu x' < m) Q) n ds .normal E w :=
  fun a ha => ⟨x', ⟨ha.weaken hE, hI⟩, hmu⟩
/-- A cut: the first part comes to one of the states that M tells, or leaves by Q. -/
theorem c_cut {X : Type} (En : X → Env) (I : X → World → Prop) {c d : Code}
    (h1 : CW P (Exit.then (fun a' w' => ∃ x, Fits n ds (En x) a' ∧ I x w') Q) n ds c E w)
    (h2 : ∀ x w, I x w → CW P Q n ds d (En x) w) : CW P Q n ds (.seq c d) E w := fun a ha =>
  wp_seq (wp_mono (h1 a ha) fun e a' w' hq => by
    cases e with
    | normal => obtain ⟨x, hf, hI⟩ := hq; exact h2 x w' hI a' hf
    | _ => exact hq)
theorem q_cut {X : Type} {En : X → Env} {I : X → World → Prop} (x : X) (hE : E.all (En x)) (hI : I x w) :
    QW (Exit.then (fun a' w' => ∃ x, Fits n ds (En x) a' ∧ I x w') Q) n ds .normal E w := fun a ha => ⟨x, ha.weaken hE, hI⟩
def gd (ops : Array Oper) (E : Env) : Option (Nat × Bool) → Option Bool
  | none => some true
  | some (j, b) =>
    match (ops[j]?).bind (·.dst) with
    | none => none
    | some d =>
      match look E d with
      | some (.bool c) => some (c == b)
      | some (.tuple _) => some false
      | _ => none
theorem gd_sound {o : Oper} {r : Bool} {a : Act} (ha : Fits n ds E a) (hg : gd ops E o.guard = some r) : Region.wanted o (yielded ops a.tmps) = r := by
  unfold Region.wanted
  cases hgd : o.guard with
  | none => rw [hgd] at hg; simpa [gd] using hg
  | some p =>
    obtain ⟨j, b⟩ := p
    rw [hgd] at hg
    simp only [gd] at hg
    cases hd : (ops[j]?).bind (·.dst) with
    | none => rw [hd] at hg; cases hg
    | some d =>
      rw [hd] at hg
      simp only at hg
      cases hl : look E d with
      | none => rw [hl] at hg; cases hg
      | some v =>
        have hv := ha.at_ d v hl
        rw [hl] at hg
        cases v <;> simp only [Option.some.injEq, reduceCtorEq] at hg
        case bool c =>
          have hlt : d < a.tmps.size := by
            rcases Nat.lt_or_ge d a.tmps.size with h | h
            · exact h
            · rw [Array.getD_eq_getD_getElem?, Array.getElem?_eq_none h] at hv; cases hv
          have hs : a.tmps[d]? = some (.bool c) := by
            rw [Array.getElem?_eq_getElem hlt]
            rw [Array.getD_eq_getD_getElem?, Array.getElem?_eq_getElem hlt] at hv
            simpa using hv
          simp only [yielded, hd, Option.bind_some, hs]
          rw [← hg]
          cases c <;> cases b <;> rfl
        case tuple vs =>
          subst hg
          have : yielded ops a.tmps j = none := by
            simp only [yielded, hd, Option.bind_some]
            cases ht : a.tmps[d]? with
            | none => rfl
            | some u =>
              rw [Array.getD_eq_getD_getElem?, ht] at hv
              simp only [Option.getD_some] at hv
              subst hv; rfl
          show (yielded ops a.tmps j == some b) = false
          rw [this]; rfl
theorem l_nil (h : QW Q n ds .normal E w) : LW P ops Q n ds [] E w := fun a ha => h a ha
theorem l_val {o : Oper} {rest : List Oper} {v : Value} (hg : gd ops E o.guard = some true) (hd : dok n o.dst = true)
    (hr : ∀ a, Fits n ds E a → (execOp a.eval o).run P w = .ok (.value v) w') (h : LW P ops Q n ds rest (E.put o.dst v) w') : LW P ops Q n ds (o :: rest) E w := by
  intro a ha
  unfold wpList
  rw [if_pos (gd_sound ha hg)]
  refine .inl ?_
  simp only [Oper.wp, hr a ha, Oper.upon]
  exact h _ (ha.put hd v)
theorem l_unit {o : Oper} {rest : List Oper} (hg : gd ops E o.guard = some true) (hd : dok n o.dst = true)
    (hr : ∀ a, Fits n ds E a → (execOp a.eval o).run P w = .ok .skip w') (h : LW P ops Q n ds rest (E.put o.dst undef) w') : LW P ops Q n ds (o :: rest) E w := by
  intro a ha
  unfold wpList
  rw [if_pos (gd_sound ha hg)]
  refine .inl ?_
  simp only [Oper.wp, hr a ha, Oper.upon]
  exact h _ (ha.put hd _)
theorem l_pass {o : Oper} {rest : List Oper} (hg : gd ops E o.guard = some false) (hd : dok n o.dst = true)
    (h : LW P ops Q n ds rest (E.put o.dst undef) w) : LW P ops Q n ds (o :: rest) E w := by
  intro a ha
  unfold wpList
  rw [if_neg (by rw [gd_sound ha hg]; simp)]
  exact h _ (ha.put hd _)
/-- The call answers, and T holds of the answer. -/
def Ret (P : Program) (f : FuncId) (args : Array Value) (w : World) (T : Value → World → Prop) : Prop :=
  Calls P f args w fun e w' => ∃ v, e = .returned v ∧ T v w'
theorem Ret.mono {f : FuncId} {args : Array Value} {T T' : Value → World → Prop} (h : Ret P f args w T) (ht : ∀ v w', T v w' → T' v w') : Ret P f args w T' :=
  Calls.mono h fun _ _ ⟨v, e, t⟩ => ⟨v, e, ht _ _ t⟩
theorem l_enter {o : Oper} {rest : List Oper} {f : FuncId} {args : Array Value} {T : Value → World → Prop} (hg : gd ops E o.guard = some true) (hd : dok n o.dst = true)
    (hr : ∀ a, Fits n ds E a → (execOp a.eval o).run P w = .ok (.enter f args) w')
    (hc : Ret P f args w' T) (h : ∀ v w', T v w' → LW P ops Q n ds rest (E.put o.dst v) w') : LW P ops Q n ds (o :: rest) E w := by
  intro a ha
  unfold wpList
  rw [if_pos (gd_sound ha hg)]
  refine .inl ?_
  simp only [Oper.wp, hr a ha, Oper.upon]
  refine Calls.mono hc ?_
  rintro e w'' ⟨v, rfl, ht⟩
  exact h v w'' ht _ (ha.put hd v)
def evl (E : Env) : List Operand → Option (List Value)
  | [] => some []
  | x :: xs => match ev E x, evl E xs with
    | some v, some vs => some (v :: vs)
    | _, _ => none
theorem evl_sound {a : Act} (ha : Fits n ds E a) : ∀ (xs : List Operand) (vs : List Value), evl E xs = some vs → xs.map a.eval = vs := by
  intro xs
  induction xs with
  | nil => intro vs h; simpa [evl] using h
  | cons x xs ih =>
    intro vs h
    simp only [evl] at h
    cases hx : ev E x with
    | none => rw [hx] at h; cases h
    | some v =>
      cases hxs : evl E xs with
      | none => rw [hx, hxs] at h; cases h
      | some us =>
        rw [hx, hxs] at h
        simp only [Option.some.injEq] at h
        subst h
        simp [ih us hxs, ha.eval hx]
/-- function f is one with a body -/
class Fun (P : Program) (f : FuncId) : Prop where
  call : ∀ args w, (callFunc f args).run P w = .ok (.enter f args) w
variable {rest : List Oper} {d : Option Tmp} {ty : TypeId} {pos : String} {aft : Array Edge} {g : Option (Nat × Bool)}
theorem s_call {f : FuncId} [hf : Fun P f] {xs : List Operand} {tys : Array TypeId} {vs : List Value} {T : Value → World → Prop} (hg : gd ops E g = some true) (hd : dok n d = true)
    (hx : evl E xs = some vs) (hc : Ret P f vs.toArray w T) (h : ∀ v w', T v w' → LW P ops Q n ds rest (E.put d v) w') :
    LW P ops Q n ds (⟨d, .call ⟨.value (.func f), xs.toArray, tys⟩, ty, pos, aft, g⟩ :: rest) E w := by
  refine l_enter (o := ⟨d, .call ⟨.value (.func f), xs.toArray, tys⟩, ty, pos, aft, g⟩) (w' := w) hg hd (fun a ha => ?_) hc h
  have := evl_sound ha xs vs hx
  simp [execOp, resolve, Deferred.ofValue, Act.eval, invoke, this, hf.call]
/-- a call of a function value -/
theorem s_callv {f : FuncId} [hf : Fun P f] {x : Operand} {xs : List Operand} {tys : Array TypeId} {first captured vs : List Value} {T : Value → World → Prop} (hg : gd ops E g = some true) (hd : dok n d = true)
    (hv : ev E x = some (.func (.func f) first.toArray captured.toArray))
    (hx : evl E xs = some vs) (hc : Ret P f (first ++ vs ++ captured).toArray w T) (h : ∀ v w', T v w' → LW P ops Q n ds rest (E.put d v) w') :
    LW P ops Q n ds (⟨d, .call ⟨.value x, xs.toArray, tys⟩, ty, pos, aft, g⟩ :: rest) E w := by
  refine l_enter (o := ⟨d, .call ⟨.value x, xs.toArray, tys⟩, ty, pos, aft, g⟩) (w' := w) hg hd (fun a ha => ?_) hc h
  have := evl_sound ha xs vs hx
  simp [execOp, resolve, ha.eval hv, Deferred.ofValue, invoke, this, hf.call]
/-- entering a function -/
theorem enter {f : FuncId} {fn : Func} {c : Code} {args : List Value} {T : Value → World → Prop} (hf : P.funcs[f]? = some fn) (hb : fn.body = some c) (hn : Nat.ble args.length fn.ntmps = true)
    (h : CW P (bodyPost P fn fun e w' => ∃ v, e = .returned v ∧ T v w') fn.ntmps [] c (args.zipIdx.map fun p => (p.2, p.1)) w) : Ret P f args.toArray w T := by
  refine calls_of_wp hf hb ?_
  exact h _ (Fits.start args fn.ntmps (by simpa using hn))
theorem fin1 {fn : Func} {T : Value → World → Prop} {t : Nat} {v : Value} (hrs : fn.results = #[.tmp t]) (hv : look E t = some v) (hT : T v w) :
    QW (bodyPost P fn fun e w' => ∃ v, e = .returned v ∧ T v w') n [] .ret E w := fun a ha =>
  ⟨ha.defers, v, by have := ha.at_ t v hv; simp only [Array.getD_eq_getD_getElem?] at this; simp [results, hrs, this], _, rfl, hT⟩
theorem fin2 {fn : Func} {T : Value → World → Prop} {t u : Nat} {v x : Value} (hrs : fn.results = #[.tmp t, .tmp u]) (hv : look E t = some v) (hx : look E u = some x) (hT : T (.tuple #[v, x]) w) :
    QW (bodyPost P fn fun e w' => ∃ v, e = .returned v ∧ T v w') n [] .ret E w := fun a ha =>
  ⟨ha.defers, _, by have h1 := ha.at_ t v hv; have h2 := ha.at_ u x hx; simp only [Array.getD_eq_getD_getElem?] at h1 h2; simp [results, hrs, h1, h2], _, rfl, hT⟩
theorem fin0 {fn : Func} {T : Value → World → Prop} (hrs : fn.results = #[]) (hT : T (.tuple #[]) w) :
    QW (bodyPost P fn fun e w' => ∃ v, e = .returned v ∧ T v w') n [] .normal E w := fun a ha =>
  ⟨ha.defers, _, by simp [results, hrs], _, rfl, hT⟩
/-- In every frame that E tells operation o gives v, and does nothing else. -/
structure Yld (P : Program) (n : Nat) (ds : List Deferred) (E : Env) (w : World) (o : Oper) (v : Value) : Prop where
  run : ∀ a, Fits n ds E a → (execOp a.eval o).run P w = .ok (.value v) w
theorem l_y {o : Oper} {rest : List Oper} {v : Value} (hg : gd ops E o.guard = some true) (hd : dok n o.dst = true) (hy : Yld P n ds E w o v) (h : LW P ops Q n ds rest (E.put o.dst v) w) : LW P ops Q n ds (o :: rest) E w := l_val hg hd hy.run h
theorem y_move {x : Operand} {v : Value} (hx : ev E x = some v) : Yld P n ds E w ⟨d, .move x, ty, pos, aft, g⟩ v :=
  ⟨fun a ha => by simp [execOp, ha.eval hx]⟩
theorem s_move {x : Operand} {v : Value} (hg : gd ops E g = some true) (hd : dok n d = true) (hx : ev E x = some v) (h : LW P ops Q n ds rest (E.put d v) w) : LW P ops Q n ds (⟨d, .move x, ty, pos, aft, g⟩ :: rest) E w :=
  l_y hg hd (y_move hx) h
theorem y_assign {x : Operand} {v : Value} (hx : ev E x = some v) : Yld P n ds E w ⟨d, .assign x, ty, pos, aft, g⟩ v :=
  ⟨fun a ha => by simp [execOp, ha.eval hx]⟩
theorem y_pick_t {c x y : Operand} {v : Value} (hc : ev E c = some (.bool true)) (hx : ev E x = some v) : Yld P n ds E w ⟨d, .pick c x y, ty, pos, aft, g⟩ v :=
  ⟨fun a ha => by simp [execOp, ha.eval hx, ha.eval hc, asBool]⟩
theorem s_pick_t {c x y : Operand} {v : Value} (hg : gd ops E g = some true) (hd : dok n d = true) (hc : ev E c = some (.bool true)) (hx : ev E x = some v) (h : LW P ops Q n ds rest (E.put d v) w) : LW P ops Q n ds (⟨d, .pick c x y, ty, pos, aft, g⟩ :: rest) E w :=
  l_y hg hd (y_pick_t hc hx) h
theorem y_pick_f {c x y : Operand} {v : Value} (hc : ev E c = some (.bool false)) (hy : ev E y = some v) : Yld P n ds E w ⟨d, .pick c x y, ty, pos, aft, g⟩ v :=
  ⟨fun a ha => by simp [execOp, ha.eval hy, ha.eval hc, asBool]⟩
/-- a value that is no nil -/
def solid : Value → Bool
  | .pointer none | .nilIface | .nilFunc => false
  | .func (.method _) _ _ => false
  | _ => true
theorem y_nilCheck {x : Operand} {v : Value} (hx : ev E x = some v) (hs : solid v = true) : Yld P n ds E w ⟨d, .nilCheck x, ty, pos, aft, g⟩ v :=
  ⟨fun a ha => by
      simp only [execOp, ha.eval hx]
      split <;> first | (simp [solid] at hs; done) | simp⟩
theorem y_extract {x : Operand} {i : Nat} {l : List Value} {v : Value} (hx : ev E x = some (.tuple l.toArray)) (hv : l[i]? = some v) : Yld P n ds E w ⟨d, .extract x i, ty, pos, aft, g⟩ v :=
  ⟨fun a ha => by simp [execOp, ha.eval hx, Instr.extract, hv]⟩
def arith : BinOp → Int → Int → Option Int
  | .add, x, y => some (x + y)
  | .sub, x, y => some (x - y)
  | .mul, x, y => some (x * y)
  | _, _, _ => none
theorem y_arith {op : BinOp} {t u : TypeId} {x y : Operand} {k : IntKind} {a b r s : Int} (hx : ev E x = some (.int k a)) (hy : ev E y = some (.int k b))
    (hr : arith op a b = some r) (hs : k.wrap r = s) : Yld P n ds E w ⟨d, .binOp op t x y u, ty, pos, aft, g⟩ (.int k s) :=
  ⟨fun c hc => by
      subst hs
      cases op <;> simp only [arith, Option.some.injEq, reduceCtorEq] at hr <;> subst hr <;> simp [execOp, hc.eval hx, hc.eval hy, eqGuard, binOp, Op.intArith]⟩
def cmpI : BinOp → Int → Int → Option Bool
  | .eql, x, y => some (decide (x = y))
  | .neq, x, y => some (!decide (x = y))
  | .lss, x, y => some (decide (x < y))
  | .leq, x, y => some (decide (x ≤ y))
  | .gtr, x, y => some (decide (y < x))
  | .geq, x, y => some (decide (y ≤ x))
  | _, _, _ => none
theorem y_cmpI {op : BinOp} {t u : TypeId} {x y : Operand} {k : IntKind} {a b : Int} {c : Bool} (hx : ev E x = some (.int k a)) (hy : ev E y = some (.int k b))
    (hr : cmpI op a b = some c) : Yld P n ds E w ⟨d, .binOp op t x y u, ty, pos, aft, g⟩ (.bool c) :=
  ⟨fun f hc => by
      cases op <;> simp only [cmpI, Option.some.injEq, reduceCtorEq] at hr <;> subst hr <;> simp [execOp, hc.eval hx, hc.eval hy, eqGuard, binOp, Op.intCmp] <;> first | rfl | (by_cases e : a = b <;> simp [e])⟩
theorem s_cmpI {op : BinOp} {t u : TypeId} {x y : Operand} {k : IntKind} {a b : Int} {c : Bool} (hg : gd ops E g = some true) (hd : dok n d = true) (hx : ev E x = some (.int k a)) (hy : ev E y = some (.int k b))
    (hr : cmpI op a b = some c) (h : LW P ops Q n ds rest (E.put d (.bool c)) w) : LW P ops Q n ds (⟨d, .binOp op t x y u, ty, pos, aft, g⟩ :: rest) E w :=
  l_y hg hd (y_cmpI hx hy hr) h
theorem s_cmpI_split {op : BinOp} {t u : TypeId} {x y : Operand} {k : IntKind} {a b : Int} {p : Prop} [Decidable p] (hg : gd ops E g = some true) (hd : dok n d = true) (hx : ev E x = some (.int k a)) (hy : ev E y = some (.int k b))
    (hr : cmpI op a b = some (decide p)) (h1 : p → LW P ops Q n ds rest (E.put d (.bool true)) w) (h2 : ¬ p → LW P ops Q n ds rest (E.put d (.bool false)) w) :
    LW P ops Q n ds (⟨d, .binOp op t x y u, ty, pos, aft, g⟩ :: rest) E w := by
  refine s_cmpI hg hd hx hy hr ?_
  by_cases h : p
  · simpa [h] using h1 h
  · simpa [h] using h2 h
theorem s_cmpI_splitn {op : BinOp} {t u : TypeId} {x y : Operand} {k : IntKind} {a b : Int} {p : Prop} [Decidable p] (hg : gd ops E g = some true) (hd : dok n d = true) (hx : ev E x = some (.int k a)) (hy : ev E y = some (.int k b))
    (hr : cmpI op a b = some (!decide p)) (h1 : ¬ p → LW P ops Q n ds rest (E.put d (.bool true)) w) (h2 : p → LW P ops Q n ds rest (E.put d (.bool false)) w) :
    LW P ops Q n ds (⟨d, .binOp op t x y u, ty, pos, aft, g⟩ :: rest) E w := by
  refine s_cmpI hg hd hx hy hr ?_
  by_cases h : p
  · simpa [h] using h2 h
  · simpa [h] using h1 h
end
end Go.Hb
set_option linter.unusedVariables false
set_option linter.unusedSimpArgs false
namespace Go.Hb
open Go Go.RowKit
abbrev Hp := Nat → Option Obj
abbrev HP := Hp → Prop
def Sub (h h' : Hp) : Prop := ∀ b o, h b = some o → h' b = some o
def Dis (h h' : Hp) : Prop := ∀ b, h b = none ∨ h' b = none
def sep : List HP → Hp → Prop
  | [], _ => True
  | A :: l, h => ∃ h1 h2, Dis h1 h2 ∧ Sub h1 h ∧ Sub h2 h ∧ A h1 ∧ sep l h2
theorem Sub.refl (h : Hp) : Sub h h := fun _ _ e => e
theorem Sub.trans {a b c : Hp} (h : Sub a b) (k : Sub b c) : Sub a c := fun x o e => k x o (h x o e)
theorem Dis.symm {a b : Hp} (h : Dis a b) : Dis b a := fun x => (h x).symm
theorem Dis.sub {a b a' b' : Hp} (h : Dis a b) (h1 : Sub a' a) (h2 : Sub b' b) : Dis a' b' := fun x => by
  rcases h x with e | e
  · left; cases ha : a' x with
    | none => rfl
    | some o => rw [h1 x o ha] at e; cases e
  · right; cases hb : b' x with
    | none => rfl
    | some o => rw [h2 x o hb] at e; cases e
def uni (a b : Hp) : Hp := fun x => match a x with | some o => some o | none => b x
theorem sub_uni_l (a b : Hp) : Sub a (uni a b) := fun x o e => by simp [uni, e]
theorem sub_uni_r {a b : Hp} (h : Dis a b) : Sub b (uni a b) := fun x o e => by
  rcases h x with e1 | e1
  · simp [uni, e1, e]
  · rw [e1] at e; cases e
theorem uni_sub {a b c : Hp} (ha : Sub a c) (hb : Sub b c) : Sub (uni a b) c := fun x o e => by
  unfold uni at e
  cases h : a x with
  | none => rw [h] at e; exact hb x o e
  | some u => rw [h] at e; exact ha x o (by rw [h]; exact e)
theorem uni_some {a b : Hp} {x : Nat} {o : Obj} (e : uni a b x = some o) : a x = some o ∨ b x = some o := by
  unfold uni at e
  cases h : a x with
  | none => rw [h] at e; exact .inr e
  | some u => rw [h] at e; exact .inl e
theorem Dis.uni_l {a b c : Hp} (h1 : Dis a c) (h2 : Dis b c) : Dis (uni a b) c := fun x => by
  rcases h1 x with e | e
  · rcases h2 x with e2 | e2
    · left; simp [uni, e, e2]
    · exact .inr e2
  · exact .inr e
theorem sep_mono {l : List HP} {h h' : Hp} (hs : Sub h h') (k : sep l h) : sep l h' := by
  cases l with
  | nil => trivial
  | cons A l => obtain ⟨h1, h2, d, s1, s2, hA, hl⟩ := k; exact ⟨h1, h2, d, s1.trans hs, s2.trans hs, hA, hl⟩
theorem sep_swap {A B : HP} {l : List HP} {h : Hp} (k : sep (A :: B :: l) h) : sep (B :: A :: l) h := by
  obtain ⟨h1, h2, d, s1, s2, hA, h3, h4, d2, s3, s4, hB, hl⟩ := k
  have d14 : Dis h1 h4 := d.sub (Sub.refl _) s4
  have d13 : Dis h1 h3 := d.sub (Sub.refl _) s3
  refine ⟨h3, uni h1 h4, ?_, s3.trans s2, uni_sub s1 (s4.trans s2), hB, h1, h4, d14, sub_uni_l _ _, sub_uni_r d14, hA, hl⟩
  exact (Dis.uni_l d13 d2.symm).symm
theorem sep_perm {l l' : List HP} (p : l.Perm l') : ∀ {h : Hp}, sep l h → sep l' h := by
  induction p with
  | nil => exact fun k => k
  | cons A _ ih => exact fun ⟨h1, h2, d, s1, s2, hA, hl⟩ => ⟨h1, h2, d, s1, s2, hA, ih hl⟩
  | swap A B l => exact fun k => sep_swap k
  | trans _ _ ih1 ih2 => exact fun k => ih2 (ih1 k)
theorem sep_append {l1 l2 : List HP} : ∀ {h : Hp}, sep (l1 ++ l2) h → ∃ h1 h2, Dis h1 h2 ∧ Sub h1 h ∧ Sub h2 h ∧ sep l1 h1 ∧ sep l2 h2 := by
  induction l1 with
  | nil => exact fun {h} k => ⟨fun _ => none, h, fun _ => .inl rfl, fun _ _ e => (by cases e), Sub.refl _, trivial, k⟩
  | cons A l1 ih =>
    intro h k
    obtain ⟨h1, h2, d, s1, s2, hA, hl⟩ := k
    obtain ⟨h3, h4, d2, s3, s4, k3, k4⟩ := ih hl
    have d13 : Dis h1 h3 := d.sub (Sub.refl _) s3
    have d14 : Dis h1 h4 := d.sub (Sub.refl _) s4
    exact ⟨uni h1 h3, h4, Dis.uni_l d14 d2, uni_sub s1 (s3.trans s2), s4.trans s2, ⟨h1, h3, d13, sub_uni_l _ _, sub_uni_r d13, hA, k3⟩, k4⟩
theorem sep_app {l1 l2 : List HP} {h1 h2 h : Hp} (d : Dis h1 h2) (s1 : Sub h1 h) (s2 : Sub h2 h) (k1 : sep l1 h1) (k2 : sep l2 h2) : sep (l1 ++ l2) h := by
  induction l1 generalizing h1 h with
  | nil => exact sep_mono s2 k2
  | cons A l1 ih =>
    obtain ⟨h3, h4, d2, s3, s4, hA, hl⟩ := k1
    have d32 : Dis h3 h2 := d.sub s3 (Sub.refl _)
    have d42 : Dis h4 h2 := d.sub s4 (Sub.refl _)
    refine ⟨h3, uni h4 h2, (Dis.uni_l d2.symm d32.symm).symm, s3.trans s1, uni_sub (s4.trans s1) s2, hA, ih d42 (sub_uni_l _ _) (sub_uni_r d42) hl⟩
structure Ctx where
  w0 : World
  S : Nat → Prop
structure Based (k : Ctx) (w : World) : Prop where
  tape : w.tape = k.w0.tape
  os : w.os = k.w0.os
  output : w.output = k.w0.output
  size : k.w0.heap.size ≤ w.heap.size
  lt : ∀ b, k.S b → b < k.w0.heap.size
  same : ∀ b, k.S b → w.heap[b]? = k.w0.heap[b]?
def Own (k : Ctx) (w : World) (l : List HP) : Prop :=
  Based k w ∧ ∃ h : Hp, (∀ b o, h b = some o → ¬ k.S b ∧ w.heap[b]? = some o) ∧ sep l h
/-- all that is there stays -/
def all (w : World) : Ctx := ⟨w, fun b => b < w.heap.size⟩
theorem Own.start (w : World) : Own (all w) w [] := ⟨⟨rfl, rfl, rfl, Nat.le_refl _, fun _ h => h, fun _ _ => rfl⟩, fun _ => none, fun _ _ e => (by cases e), trivial⟩
theorem Own.below {w w' : World} {l : List HP} (h : Own (all w) w' l) : Below w.heap.size w w' :=
  ⟨h.1.os, h.1.tape, h.1.output, h.1.size, fun k hk => h.1.same k hk⟩
section
variable {k : Ctx} {w w' : World} {l l' : List HP} {A B : HP}
theorem Own.perm (h : Own k w l) (p : l.Perm l') : Own k w l' := ⟨h.1, h.2.imp fun _ hh => ⟨hh.1, sep_perm p hh.2⟩⟩
theorem Own.swap (h : Own k w (A :: B :: l)) : Own k w (B :: A :: l) := h.perm (List.Perm.swap _ _ _)
theorem Own.drop (h : Own k w (A :: l)) : Own k w l := ⟨h.1, by
  obtain ⟨hh, h1, h2⟩ := h.2
  obtain ⟨a, b, d, s1, s2, hA, hl⟩ := h2
  exact ⟨b, fun x o e => h1 x o (s2 x o e), hl⟩⟩
/-- a part is told otherwise -/
theorem Own.tell (h : Own k w (A :: l)) (hAB : ∀ h, A h → B h) : Own k w (B :: l) := ⟨h.1, by
  obtain ⟨hh, h1, a, b, d, s1, s2, hA, hl⟩ := h.2
  exact ⟨hh, h1, a, b, d, s1, s2, hAB _ hA, hl⟩⟩
theorem Own.ex {X : Type} {A : X → HP} (h : Own k w ((fun h => ∃ x, A x h) :: l)) : ∃ x, Own k w (A x :: l) := by
  obtain ⟨hb, hh, h1, a, b, d, s1, s2, ⟨x, hA⟩, hl⟩ := h
  exact ⟨x, hb, hh, h1, a, b, d, s1, s2, hA, hl⟩
/-- parts that are one -/
theorem Own.open (h : Own k w (sep l :: l')) : Own k w (l ++ l') := by
  obtain ⟨hb, hh, h1, a, b, d, s1, s2, hA, hl⟩ := h
  exact ⟨hb, hh, h1, sep_app d s1 s2 hA hl⟩
theorem Own.shut (h : Own k w (l ++ l')) : Own k w (sep l :: l') := by
  obtain ⟨hb, hh, h1, hs⟩ := h
  obtain ⟨a, b, d, s1, s2, hA, hl⟩ := sep_append hs
  exact ⟨hb, hh, h1, a, b, d, s1, s2, hA, hl⟩
/-- what holds of a part -/
theorem Own.fact {p : Prop} (h : Own k w (A :: l)) (hA : ∀ h, A h → p) : p := by
  obtain ⟨hb, hh, h1, a, b, d, s1, s2, ha, hl⟩ := h
  exact hA _ ha
theorem Own.heap (h : Own k w (A :: l)) {p : Prop} (hA : ∀ hp, A hp → (∀ b o, hp b = some o → ¬ k.S b ∧ w.heap[b]? = some o) → p) : p := by
  obtain ⟨hb, hh, h1, a, b, d, s1, s2, ha, hl⟩ := h
  exact hA _ ha fun x o e => h1 x o (s1 x o e)
theorem Based.drew (h : Based k w) : Based k w.drew := ⟨h.tape, h.os, h.output, h.size, h.lt, h.same⟩
theorem Own.drew (h : Own k w l) : Own k w.drew l := ⟨h.1.drew, h.2⟩
/-- the heap of one block -/
def one (b : Nat) (o : Obj) : Hp := fun x => if x = b then some o else none
theorem one_self (b : Nat) (o : Obj) : one b o b = some o := by simp [one]
theorem Based.alloc (h : Based k w) (o : Obj) : Based k (w.alloc o) :=
  ⟨h.tape, h.os, h.output, by have := h.size; show k.w0.heap.size ≤ (w.heap.push o).size; rw [Array.size_push]; omega, h.lt, fun b hb => by
    have h1 := h.lt b hb; have h2 := h.size
    rw [← h.same b hb]; exact Below.heap_alloc w o b (by omega)⟩
theorem Own.alloc (h : Own k w l) (o : Obj) (hA : A (one w.heap.size o)) : Own k (w.alloc o) (A :: l) := by
  obtain ⟨hb, hh, h1, hl⟩ := h
  have hnew : (w.alloc o).heap[w.heap.size]? = some o := by show (w.heap.push o)[w.heap.size]? = some o; simp
  have old : ∀ b u, hh b = some u → b < w.heap.size := fun b u e => by
    have := (h1 b u e).2
    rcases Nat.lt_or_ge b w.heap.size with h' | h'
    · exact h'
    · rw [Array.getElem?_eq_none h'] at this; cases this
  have dis : Dis (one w.heap.size o) hh := fun x => by
    by_cases e : x = w.heap.size
    · right; cases hx : hh x with
      | none => rfl
      | some u => have := old x u hx; omega
    · left; simp [one, e]
  refine ⟨hb.alloc o, uni (one w.heap.size o) hh, fun b u e => ?_, one w.heap.size o, hh, dis, sub_uni_l _ _, sub_uni_r dis, hA, hl⟩
  rcases uni_some e with e | e
  · unfold one at e
    split at e
    · rename_i hbe
      have e' := Option.some.inj e
      subst e'
      rw [hbe]
      exact ⟨fun hs => by have := hb.lt _ hs; have := hb.size; omega, hnew⟩
    · cases e
  · exact ⟨(h1 b u e).1, by rw [Below.heap_alloc w o b (old b u e)]; exact (h1 b u e).2⟩
/-- One block is written: w' is w but for block b. -/
structure Wrote (w w' : World) (b : Nat) : Prop where
  tape : w'.tape = w.tape
  os : w'.os = w.os
  output : w'.output = w.output
  size : w'.heap.size = w.heap.size
  block : ∀ c, c ≠ b → w'.heap[c]? = w.heap[c]?
/-- A turns into A' where block b holds o' -/
def Turn (A : HP) (b : Nat) (o o' : Obj) (A' : HP) : Prop := ∀ h, A h → h b = some o → A' (fun x => if x = b then some o' else h x)
def At (A : HP) (b : Nat) : Prop := ∀ h, A h → ∃ o, h b = some o
inductive Nth : List HP → HP → HP → List HP → Prop
  | hd (A A' : HP) (l : List HP) : Nth (A :: l) A A' (A' :: l)
  | tl {l : List HP} {A A' : HP} {l' : List HP} (C : HP) (h : Nth l A A' l') : Nth (C :: l) A A' (C :: l')
theorem sep_nth {A' : HP} (p : Nth l A A' l') : ∀ {h : Hp}, sep l h → ∃ h1 h2, Dis h1 h2 ∧ Sub h1 h ∧ Sub h2 h ∧ A h1 ∧ ∀ h1' hh, Dis h1' h2 → Sub h1' hh → Sub h2 hh → A' h1' → sep l' hh := by
  induction p with
  | hd A A' l =>
    intro h k
    obtain ⟨h1, h2, d, s1, s2, hA, hl⟩ := k
    exact ⟨h1, h2, d, s1, s2, hA, fun h1' hh d' s1' s2' hA' => ⟨h1', h2, d', s1', s2', hA', hl⟩⟩
  | tl C p ih =>
    intro h k
    obtain ⟨h1, h2, d, s1, s2, hC, hl⟩ := k
    obtain ⟨h3, h4, d2, s3, s4, hA, f⟩ := ih hl
    have d13 : Dis h1 h3 := d.sub (Sub.refl _) s3
    have d14 : Dis h1 h4 := d.sub (Sub.refl _) s4
    refine ⟨h3, uni h1 h4, (Dis.uni_l d13 d2.symm).symm, s3.trans s2, uni_sub s1 (s4.trans s2), hA, fun h1' hh d' s1' s2' hA' => ?_⟩
    have e4 : Dis h1' h4 := d'.sub (Sub.refl _) (sub_uni_r d14)
    have e1 : Dis h1' h1 := d'.sub (Sub.refl _) (sub_uni_l _ _)
    refine ⟨h1, uni h1' h4, (Dis.uni_l e1 d14.symm).symm, (sub_uni_l _ _).trans s2', uni_sub s1' ((sub_uni_r d14).trans s2'), hC, f h1' _ e4 (sub_uni_l _ _) (sub_uni_r e4) hA'⟩
theorem Own.nth_heap {A' : HP} (h : Own k w l) (p : Nth l A A' l') {q : Prop} (hq : ∀ hp, A hp → (∀ b o, hp b = some o → ¬ k.S b ∧ w.heap[b]? = some o) → q) : q := by
  obtain ⟨hb, hh, h1, hl⟩ := h
  obtain ⟨a, c, d, s1, s2, hA, _⟩ := sep_nth p hl
  exact hq a hA fun x o e => h1 x o (s1 x o e)
theorem Own.write {A' : HP} {b : Nat} {o o' : Obj} (h : Own k w l) (p : Nth l A A' l') (hat : At A b) (ho : w.heap[b]? = some o) (ho' : w'.heap[b]? = some o') (hw : Wrote w w' b) (ht : Turn A b o o' A') : Own k w' l' := by
  obtain ⟨hb, hh, h1, hl⟩ := h
  obtain ⟨a, c, d, s1, s2, hA, f⟩ := sep_nth p hl
  obtain ⟨u, hu⟩ := hat a hA
  have hou : u = o := by have := (h1 b u (s1 b u hu)).2; rw [ho] at this; exact (Option.some.inj this).symm
  subst hou
  have hnS : ¬ k.S b := (h1 b u (s1 b u hu)).1
  let a' : Hp := fun x => if x = b then some o' else a x
  have d' : Dis a' c := fun x => by
    by_cases e : x = b
    · right
      rcases d x with e1 | e1
      · rw [e, hu] at e1; cases e1
      · exact e1
    · rcases d x with e1 | e1
      · left; simp [a', e, e1]
      · exact .inr e1
  refine ⟨⟨hw.tape.trans hb.tape, hw.os.trans hb.os, hw.output.trans hb.output, by rw [hw.size]; exact hb.size, hb.lt, fun x hx => ?_⟩, uni a' c, fun x v e => ?_, f a' _ d' (sub_uni_l _ _) (sub_uni_r d') (ht a hA hu)⟩
  · rw [hw.block x (fun e => hnS (e ▸ hx))]; exact hb.same x hx
  · rcases uni_some e with e | e
    · by_cases ex : x = b
      · subst ex
        simp only [a', if_true] at e
        cases e
        exact ⟨hnS, ho'⟩
      · simp only [a', ex, if_false] at e
        have := h1 x v (s1 x v e)
        exact ⟨this.1, by rw [hw.block x ex]; exact this.2⟩
    · have hne : x ≠ b := fun ex => by
        rcases d x with e1 | e1
        · rw [ex, hu] at e1; cases e1
        · rw [e1] at e; cases e
      have := h1 x v (s2 x v e)
      exact ⟨this.1, by rw [hw.block x hne]; exact this.2⟩
/-- A callee works on a part; all else that is owned is to it what is not touched. -/
def Ctx.at (k : Ctx) (w : World) (hr : Hp) : Ctx := ⟨w, fun b => k.S b ∨ ∃ o, hr b = some o⟩
structure Ext (k k' : Ctx) (w : World) : Prop where
  w0 : k'.w0 = w
  S : ∀ b, k.S b → k'.S b
theorem Own.frame (h : Own k w (l ++ l')) : ∃ k', Ext k k' w ∧ Own k' w l ∧ (∀ A ∈ l', ∃ hp, A hp ∧ ∀ b o, hp b = some o → k'.S b ∧ w.heap[b]? = some o) ∧ ∀ w' m, Own k' w' m → Own k w' (m ++ l') := by
  obtain ⟨hb, hh, h1, hs⟩ := h
  obtain ⟨a, c, d, s1, s2, hl, hl'⟩ := sep_append hs
  have inb : ∀ b o, w.heap[b]? = some o → b < w.heap.size := fun b o e => by
    rcases Nat.lt_or_ge b w.heap.size with h' | h'
    · exact h'
    · rw [Array.getElem?_eq_none h'] at e; cases e
  refine ⟨k.at w c, ⟨rfl, fun b hb => .inl hb⟩, ⟨⟨rfl, rfl, rfl, Nat.le_refl _, fun b hx => ?_, fun _ _ => rfl⟩, a, fun b o e => ⟨fun hx => ?_, (h1 b o (s1 b o e)).2⟩, hl⟩, ?_, ?_⟩
  · rcases hx with hx | ⟨o, hx⟩
    · have := hb.lt b hx; have := hb.size; show b < w.heap.size; omega
    · exact inb b o (h1 b o (s2 b o hx)).2
  · rcases hx with hx | ⟨u, hx⟩
    · exact (h1 b o (s1 b o e)).1 hx
    · rcases d b with e1 | e1
      · rw [e1] at e; cases e
      · rw [e1] at hx; cases hx
  · intro A hA
    have : ∀ (m : List HP) (hc : Hp), sep m hc → A ∈ m → ∃ hp, A hp ∧ Sub hp hc := by
      intro m
      induction m with
      | nil => intro _ _ h; cases h
      | cons B m ih =>
        intro hc hsm hm
        obtain ⟨x, y, dd, sx, sy, hB, hm'⟩ := hsm
        rcases List.mem_cons.1 hm with e | e
        · subst e; exact ⟨x, hB, sx⟩
        · obtain ⟨hp, h2, h3⟩ := ih y hm' e
          exact ⟨hp, h2, h3.trans sy⟩
    obtain ⟨hp, h2, h3⟩ := this l' c hl' hA
    exact ⟨hp, h2, fun b o e => ⟨.inr ⟨o, h3 b o e⟩, (h1 b o (s2 b o (h3 b o e))).2⟩⟩
  · intro w' m hm
    obtain ⟨hb', hh', h1', hs'⟩ := hm
    have hsz : w.heap.size ≤ w'.heap.size := hb'.size
    have hcS : ∀ b o, c b = some o → w'.heap[b]? = some o := fun b o e => by
      have h2 : w'.heap[b]? = w.heap[b]? := hb'.same b (.inr ⟨o, e⟩)
      rw [h2]; exact (h1 b o (s2 b o e)).2
    have dd : Dis hh' c := fun x => by
      cases hx : c x with
      | none => exact .inr rfl
      | some o =>
        left
        cases hy : hh' x with
        | none => rfl
        | some u => exact absurd (.inr ⟨o, hx⟩) (h1' x u hy).1
    refine ⟨⟨hb'.tape.trans hb.tape, hb'.os.trans hb.os, hb'.output.trans hb.output, Nat.le_trans hb.size hsz, hb.lt, fun b hx => (hb'.same b (.inl hx)).trans (hb.same b hx)⟩, uni hh' c, fun b o e => ?_, sep_app dd (sub_uni_l _ _) (sub_uni_r dd) hs' hl'⟩
    rcases uni_some e with e | e
    · exact ⟨fun hx => (h1' b o e).1 (.inl hx), (h1' b o e).2⟩
    · exact ⟨(h1 b o (s2 b o e)).1, hcS b o e⟩
end
end Go.Hb
set_option linter.unusedVariables false
set_option linter.unusedSimpArgs false
namespace Go.Hb
open Go Go.RowKit
class Und (P : Program) (t : TypeId) (d : outParam TypeDesc) : Prop where
  eq : P.underlying t = some d
class Lay (P : Program) (t : TypeId) (agg : outParam Bool) (n : outParam Nat) : Prop where
  isAgg : ∀ w, (isAgg t).run P w = .ok agg w
  size : ∀ w, (sizeOf t).run P w = .ok n w
class Zer (P : Program) (t : TypeId) (z : outParam Value) : Prop where
  run : ∀ w, (zeroValue t).run P w = .ok z w
/-- what append asks -/
class Elt (P : Program) (t : TypeId) (size bytes : outParam Nat) (z : outParam Value) : Prop where
  info : ∃ i, P.info? t = some i ∧ i.size = size ∧ i.bytes = bytes ∧ i.zero = some z
  cells : z.cells.size = size
theorem Elt.mk' {P : Program} {t : TypeId} {i : TypeInfo} {size bytes : Nat} {z : Value} (h : ∀ w, (typeInfo t).run P w = .ok i w) (hs : i.size = size) (hb : i.bytes = bytes) (hz : i.zero = some z) (hc : z.cells.size = size) : Elt P t size bytes z :=
  ⟨⟨i, by
    have := h default
    simp only [typeInfo, program, Sem.run_bind, Sem.run, Result.andThen_ok] at this
    cases hi : P.info? t with
    | none => rw [hi] at this; simp [stuck, Sem.run] at this
    | some j => rw [hi] at this; simp only [Sem.run_pure, Result.ok.injEq, and_true] at this; rw [this], hs, hb, hz⟩, hc⟩
/-- field f of struct s stands at off -/
class Fld (P : Program) (s : TypeId) (f : Nat) (off : outParam Nat) : Prop where
  run : ∀ a w, (Instr.fieldAt s (.pointer (some a)) f).run P w = .ok (.pointer (some (a.add off))) w
theorem Fld.mk' {P : Program} {s : TypeId} {fs : Array Field} {f : Nat} {fld : Field} {off n : Nat} {b : Bool} (hu : P.underlying s = some (.struct fs)) (hf : fs[f]? = some fld) (ho : fld.offset = off) (hl : Lay P fld.type b (n + 1)) : Fld P s f off :=
  ⟨fun a w => by subst ho; simp [Instr.fieldAt, run_underlying hu, hf, Instr.sureAddr, fieldPlace, hl.size]⟩
theorem w64 {x : Int} (h1 : -9223372036854775808 ≤ x) (h2 : x ≤ 9223372036854775807) : IntKind.i64.wrap x = x := by rw [IntKind.wrap_i64]; omega
def blk (b : Nat) (T : TypeId) (vs : List Value) : HP := fun h => h b = some (.cells vs.toArray T (0, 0))
def obj (b : Nat) (o : Obj) : HP := fun h => h b = some o
/-- rows of sz cells each, from cell o of block b on; room for cap of them -/
def arr (b o cap : Nat) (T : TypeId) (sz : Nat) (rows : List (List Value)) : HP := fun h =>
  ∃ pre spare : List Value, pre.length = o ∧ (∀ r ∈ rows, r.length = sz) ∧ cap * sz ≤ rows.length * sz + spare.length ∧ rows.length ≤ cap ∧ cap ≤ maxLen ∧
    h b = some (.cells (pre ++ rows.flatten ++ spare).toArray T (0, 0))
/-- v is a slice of these rows -/
def sl (v : Value) (T : TypeId) (sz : Nat) (rows : List (List Value)) : HP := fun h =>
  (v = .slice none 0 0 ∧ rows = []) ∨ ∃ b o cap, v = .slice (some ⟨b, o, none⟩) rows.length cap ∧ arr b o cap T sz rows h
theorem flatten_length {sz : Nat} : ∀ {rows : List (List Value)}, (∀ r ∈ rows, r.length = sz) → rows.flatten.length = rows.length * sz
  | [], _ => by simp
  | r :: rows, h => by
    have ih := flatten_length (rows := rows) fun x hx => h x (by simp [hx])
    have hr := h r (by simp)
    simp [ih, hr, Nat.add_mul, Nat.add_comm]
theorem flatten_get {sz : Nat} : ∀ {rows : List (List Value)}, (∀ r ∈ rows, r.length = sz) → ∀ (i j : Nat) (r : List Value), rows[i]? = some r → j < sz → rows.flatten[i * sz + j]? = r[j]?
  | [], _, i, j, r, h, _ => by simp at h
  | x :: rows, hr, 0, j, r, h, hj => by
    have : x = r := by simpa using h
    subst this
    have hx := hr x (by simp)
    simp only [Nat.zero_mul, Nat.zero_add, List.flatten_cons]
    rw [List.getElem?_append_left (by omega)]
  | x :: rows, hr, i + 1, j, r, h, hj => by
    have hx := hr x (by simp)
    have ih := flatten_get (rows := rows) (fun y hy => hr y (by simp [hy])) i j r (by simpa using h) hj
    simp only [List.flatten_cons]
    rw [List.getElem?_append_right (by rw [hx, Nat.add_mul]; omega), ← ih]
    congr 1
    rw [hx, Nat.add_mul]; omega
/-- w holds these cells from a on -/
def Holds (w : World) (a : Addr) (cs : List Value) : Prop := ∀ j v, cs[j]? = some v → w.cell? (a.add j) = some v
def Has (A : HP) (a : Addr) (cs : List Value) : Prop := a.spot = none ∧ ∀ h, A h → ∃ c T fz, h a.block = some (.cells c T fz) ∧ ∀ j v, cs[j]? = some v → c[a.off + j]? = some v
theorem add_at {a : Addr} (h : a.spot = none) (j : Nat) : a.add j = ⟨a.block, a.off + j, none⟩ := by
  obtain ⟨b, o, s⟩ := a
  simp only at h
  subst h
  exact Addr.add_lit b o j
section
variable {k : Ctx} {w w' : World} {l l' : List HP} {A A' : HP}
theorem Own.holds (h : Own k w l) {m : List HP} (p : Nth l A A m) {a : Addr} {cs : List Value} (hh : Has A a cs) : Holds w a cs := by
  refine h.nth_heap p fun hp hA hw j v hv => ?_
  obtain ⟨hs, hc⟩ := hh
  obtain ⟨c, T, fz, h1, h2⟩ := hc hp hA
  have h3 := (hw _ _ h1).2
  rw [add_at hs]
  simp only [World.cell?, h3, Option.isSome_none, Bool.false_eq_true, if_false]
  exact h2 j v hv
theorem Has.ofBlk {b o : Nat} {T : TypeId} {vs cs : List Value} (h : ∀ j v, cs[j]? = some v → vs[o + j]? = some v) : Has (blk b T vs) ⟨b, o, none⟩ cs :=
  ⟨rfl, fun hp hA => ⟨vs.toArray, T, (0, 0), hA, fun j v hv => by simpa using h j v hv⟩⟩
theorem Has.ofBlk1 {b o : Nat} {T : TypeId} {vs : List Value} {v : Value} (h : vs[o]? = some v) : Has (blk b T vs) ⟨b, o, none⟩ [v] :=
  Has.ofBlk fun j u hu => by
    cases j with
    | zero => simp at hu; subst hu; simpa using h
    | succ j => simp at hu
theorem Has.ofBlkA {b o : Nat} {T : TypeId} {vs cs : List Value} (n : Nat) (h : (vs.drop o).take n = cs) : Has (blk b T vs) ⟨b, o, none⟩ cs :=
  Has.ofBlk fun j v hv => by
    subst h
    rw [List.getElem?_take] at hv
    split at hv
    · simpa using hv
    · cases hv
theorem Has.ofArr {b o cap i x : Nat} {T : TypeId} {sz : Nat} {rows : List (List Value)} {r cs : List Value} (hr : rows[i]? = some r) (h : ∀ j v, cs[j]? = some v → r[x + j]? = some v) : Has (arr b o cap T sz rows) ⟨b, o + (i * sz + x), none⟩ cs :=
  ⟨rfl, fun hp hA => by
    obtain ⟨pre, spare, h1, h2, h3, h4, h5, h6⟩ := hA
    refine ⟨_, T, (0, 0), h6, fun j v hv => ?_⟩
    have hx := h j v hv
    have hlen : r.length = sz := h2 r (List.mem_of_getElem? hr)
    have hj : x + j < sz := by
      rcases Nat.lt_or_ge (x + j) r.length with h' | h'
      · omega
      · rw [List.getElem?_eq_none h'] at hx; cases hx
    have hi : i < rows.length := by
      rcases Nat.lt_or_ge i rows.length with h' | h'
      · exact h'
      · rw [List.getElem?_eq_none h'] at hr; cases hr
    have hf := flatten_length h2
    have hb : i * sz + (x + j) < rows.length * sz := by
      have : (i + 1) * sz ≤ rows.length * sz := Nat.mul_le_mul_right _ hi
      rw [Nat.add_mul] at this; omega
    simp only [List.getElem?_toArray]
    rw [List.append_assoc, List.getElem?_append_right (by omega), List.getElem?_append_left (by rw [hf]; omega)]
    have := flatten_get h2 i (x + j) r hr hj
    rw [← hx, ← this]
    congr 1; omega⟩
def splice (c : List Value) (i : Nat) (vs : List Value) : List Value := c.take i ++ vs ++ c.drop (i + vs.length)
/-- what A becomes where vs is stored from cell o of block b on -/
def Upd (A : HP) (b o : Nat) (vs : List Value) (A' : HP) : Prop :=
  At A b ∧ ∀ h, A h → ∃ (c : List Value) (T : TypeId), h b = some (.cells c.toArray T (0, 0)) ∧ o + vs.length ≤ c.length ∧ A' (fun x => if x = b then some (.cells (splice c o vs).toArray T (0, 0)) else h x)
theorem Upd.ofBlk {b o : Nat} {T : TypeId} {vs us us' : List Value} (hl : o + vs.length ≤ us.length) (h : splice us o vs = us') : Upd (blk b T us) b o vs (blk b T us') :=
  ⟨fun h hA => ⟨_, hA⟩, fun hp hA => ⟨us, T, hA, hl, by simp [Go.Hb.blk, h]⟩⟩
theorem Upd.ofBlkAll {b : Nat} {T : TypeId} {vs us : List Value} (hl : vs.length = us.length) : Upd (blk b T us) b 0 vs (blk b T vs) :=
  Upd.ofBlk (by omega) (by simp [splice, hl])
theorem splice_one (us : List Value) (o : Nat) (v : Value) (ho : o < us.length) : splice us o [v] = us.set o v := by
  rw [List.set_eq_take_append_cons_drop, if_pos ho]; simp [splice]
theorem Upd.ofBlk1 {b o : Nat} {T : TypeId} {v : Value} {us : List Value} (hl : Nat.blt o us.length = true) : Upd (blk b T us) b o [v] (blk b T (us.set o v)) := by
  have ho : o < us.length := by simpa using hl
  exact Upd.ofBlk (by simp; omega) (splice_one us o v ho)
theorem splice_mid (p m s : List Value) (j : Nat) (vs : List Value) (h : j + vs.length ≤ m.length) : splice (p ++ m ++ s) (p.length + j) vs = p ++ splice m j vs ++ s := by
  have e1 : (p ++ m ++ s).take (p.length + j) = p ++ m.take j := by
    rw [List.append_assoc, List.take_append, List.take_of_length_le (by omega), Nat.add_sub_cancel_left, List.take_append_of_le_length (by omega)]
  have e2 : (p ++ m ++ s).drop (p.length + j + vs.length) = m.drop (j + vs.length) ++ s := by
    rw [List.append_assoc, List.drop_append, List.drop_of_length_le (by omega), List.nil_append, show p.length + j + vs.length - p.length = j + vs.length from by omega, List.drop_append_of_le_length (by omega)]
  unfold splice
  rw [e1, e2]
  simp only [List.append_assoc]
theorem splice_flatten {sz : Nat} : ∀ {rows : List (List Value)}, (∀ r ∈ rows, r.length = sz) → ∀ (i x : Nat) (r vs : List Value), rows[i]? = some r → x + vs.length ≤ sz →
    splice rows.flatten (i * sz + x) vs = (rows.set i (splice r x vs)).flatten
  | [], _, i, x, r, vs, h, _ => by simp at h
  | y :: rows, hr, 0, x, r, vs, h, hx => by
    have : y = r := by simpa using h
    subst this
    have hy := hr y (by simp)
    have := splice_mid [] y rows.flatten x vs (by omega)
    simpa using this
  | y :: rows, hr, i + 1, x, r, vs, h, hx => by
    have hy := hr y (by simp)
    have hi : i < rows.length := by
      have h' : rows[i]? = some r := by simpa using h
      rcases Nat.lt_or_ge i rows.length with h1 | h1
      · exact h1
      · rw [List.getElem?_eq_none h1] at h'; cases h'
    have hf := flatten_length (rows := rows) fun z hz => hr z (by simp [hz])
    have ih := splice_flatten (rows := rows) (fun z hz => hr z (by simp [hz])) i x r vs (by simpa using h) hx
    have hb : (i + 1) * sz ≤ rows.length * sz := Nat.mul_le_mul_right _ hi
    have := splice_mid y rows.flatten [] (i * sz + x) vs (by rw [hf]; rw [Nat.add_mul] at hb; omega)
    simp only [List.append_nil] at this
    simp only [List.set_cons_succ, List.flatten_cons, ← ih, ← this]
    congr 1
    rw [hy, Nat.add_mul]; omega
theorem Upd.ofArr {b o cap i x : Nat} {T : TypeId} {sz : Nat} {rows : List (List Value)} {r vs r' : List Value} (hr : rows[i]? = some r) (hx : x + vs.length ≤ r.length) (h : splice r x vs = r') :
    Upd (arr b o cap T sz rows) b (o + (i * sz + x)) vs (arr b o cap T sz (rows.set i r')) :=
  ⟨fun h hA => by obtain ⟨_, _, _, _, _, _, _, h6⟩ := hA; exact ⟨_, h6⟩, fun hp hA => by
    obtain ⟨pre, spare, h1, h2, h3, h4, h5, h6⟩ := hA
    have hlen : r.length = sz := h2 r (List.mem_of_getElem? hr)
    have hi : i < rows.length := by
      rcases Nat.lt_or_ge i rows.length with h' | h'
      · exact h'
      · rw [List.getElem?_eq_none h'] at hr; cases hr
    have hf := flatten_length h2
    have hb : (i + 1) * sz ≤ rows.length * sz := Nat.mul_le_mul_right _ hi
    rw [Nat.add_mul] at hb
    refine ⟨_, T, h6, by simp only [List.length_append, hf]; omega, pre, spare, h1, ?_, by simpa using h3, by simpa using h4, h5, ?_⟩
    · intro y hy
      rcases List.mem_or_eq_of_mem_set hy with h' | h'
      · exact h2 y h'
      · subst h'
        rw [← h]
        simp only [splice, List.length_append, List.length_take, List.length_drop]
        omega
    · have e := splice_mid pre rows.flatten spare (i * sz + x) vs (by rw [hf]; omega)
      rw [h1] at e
      simp only [if_true]
      rw [e, splice_flatten h2 i x r vs hr (by omega), h]⟩
theorem Own.store (h : Own k w l) {b o : Nat} {vs : List Value} (p : Nth l A A' l') (hu : Upd A b o vs A') (h1 : ∀ v ∈ vs, v.oneCell' = true) {P : Program} :
    ∃ w', (storeCells ⟨b, o, none⟩ vs).run P w = .ok () w' ∧ Own k w' l' := by
  obtain ⟨hat, hup⟩ := hu
  refine h.nth_heap p fun hp hA hw => ?_
  obtain ⟨c, T, hb, hle, hA'⟩ := hup hp hA
  have hwb := (hw b _ hb).2
  have hr := run_storeCells_at P b o T vs 0 c.toArray w hwb (by simpa using hle) h1
  refine ⟨_, by simpa using hr, ?_⟩
  refine h.write (b := b) (o := .cells c.toArray T (0, 0)) (o' := .cells (splice c o vs).toArray T (0, 0)) p hat hwb ?_ ⟨rfl, rfl, rfl, by simp, fun x hx => setRow_other w b x _ hx⟩ ?_
  · have := setRow_heap w b c.toArray (splice c o vs).toArray T (0, 0) hwb
    simpa [splice] using this
  · intro h' hA2 hb2
    obtain ⟨c2, T2, hb3, _, hA3⟩ := hup h' hA2
    rw [hb2] at hb3
    have e := Option.some.inj hb3
    injection e with e1 e2 e3
    have e4 : c = c2 := by simpa using e1
    subst e4; subst e2
    exact hA3
theorem Own.blk_alloc (h : Own k w l) (T : TypeId) (vs : List Value) : Own k (w.alloc (.cells vs.toArray T)) (blk w.heap.size T vs :: l) := h.alloc _ (by simp [blk, one])
theorem Own.obj_alloc (h : Own k w l) (o : Obj) : Own k (w.alloc o) (obj w.heap.size o :: l) := h.alloc _ (by simp [obj, one])
end
section
variable {P : Program} {ops : Array Oper} {Q : Exit → Act → World → Prop} {n : Nat} {ds : List Deferred} {E E' : Env} {w w' : World}
variable {rest : List Oper} {d : Option Tmp} {ty : TypeId} {pos : String} {aft : Array Edge} {g : Option (Nat × Bool)}
variable {k : Ctx} {l l' : List HP} {A A' : HP}
theorem y_load1 {t : TypeId} [hl : Lay P t false 1] {x : Operand} {a : Addr} {v : Value} (hx : ev E x = some (.pointer (some a)))
    (hh : Holds w a [v]) : Yld P n ds E w ⟨d, .load t x, ty, pos, aft, g⟩ v :=
  ⟨fun c hc => by
    have h1 : w.cell? a = some v := by have := hh 0 v (by simp); simpa [Addr.add] using this
    simp [execOp, hc.eval hx, Instr.loadAt, Instr.sureAddr, loadVar, hl.isAgg, load, Sem.run, h1]⟩
theorem y_loadA {t : TypeId} {m : Nat} [hl : Lay P t true m] {x : Operand} {a : Addr} {cs : List Value} (hx : ev E x = some (.pointer (some a)))
    (hm : cs.length = m) (hh : Holds w a cs) : Yld P n ds E w ⟨d, .load t x, ty, pos, aft, g⟩ (.agg cs.toArray) :=
  ⟨fun c hc => by
    subst hm
    have h1 := run_loadCells_list (P := P) w a cs hh
    simp [execOp, hc.eval hx, Instr.loadAt, Instr.sureAddr, loadVar, hl.isAgg, hl.size, h1]⟩
theorem s_storeV {t : TypeId} {agg : Bool} {m : Nat} [hl : Lay P t agg m] {x y : Operand} {b o : Nat} {v : Value} {vs : List Value} (hO : Own k w l) (hg : gd ops E g = some true) (hd : dok n d = true) (hx : ev E x = some (.pointer (some ⟨b, o, none⟩))) (hy : ev E y = some v)
    (hvs : v.cells.toList = vs) (hm : vs.length = m) (h1 : ∀ v ∈ vs, v.oneCell' = true) (p : Nth l A A' l') (hu : Upd A b o vs A') (h : ∀ w', Own k w' l' → LW P ops Q n ds rest (E.put d undef) w') : LW P ops Q n ds (⟨d, .store t x y, ty, pos, aft, g⟩ :: rest) E w := by
  obtain ⟨w', hr, hO'⟩ := hO.store (P := P) p hu h1
  refine l_unit (o := ⟨d, .store t x y, ty, pos, aft, g⟩) hg hd (fun c hc => ?_) (h w' hO')
  subst hvs
  have : v.cells.size = m := by simpa using hm
  simp [execOp, hc.eval hx, hc.eval hy, Instr.storeAt, Instr.sureAddr, storeVar, hl.size, this, hr]
theorem s_store1 {t : TypeId} [hl : Lay P t false 1] {x y : Operand} {b o : Nat} {v : Value} (hO : Own k w l) (hg : gd ops E g = some true) (hd : dok n d = true) (hx : ev E x = some (.pointer (some ⟨b, o, none⟩))) (hy : ev E y = some v)
    (h1 : v.oneCell' = true) (p : Nth l A A' l') (hu : Upd A b o [v] A') (h : ∀ w', Own k w' l' → LW P ops Q n ds rest (E.put d undef) w') : LW P ops Q n ds (⟨d, .store t x y, ty, pos, aft, g⟩ :: rest) E w :=
  s_storeV (hl := hl) hO hg hd hx hy (by cases v <;> first | rfl | cases h1) rfl (by simpa using h1) p hu h
theorem s_storeA {t : TypeId} {m : Nat} [hl : Lay P t true m] {x y : Operand} {b o : Nat} {vs : List Value} (hO : Own k w l) (hg : gd ops E g = some true) (hd : dok n d = true) (hx : ev E x = some (.pointer (some ⟨b, o, none⟩))) (hy : ev E y = some (.agg vs.toArray))
    (hm : vs.length = m) (h1 : vs.all (·.oneCell') = true) (p : Nth l A A' l') (hu : Upd A b o vs A') (h : ∀ w', Own k w' l' → LW P ops Q n ds rest (E.put d undef) w') : LW P ops Q n ds (⟨d, .store t x y, ty, pos, aft, g⟩ :: rest) E w :=
  s_storeV (hl := hl) (vs := vs) hO hg hd hx hy rfl hm (fun v hv => List.all_eq_true.1 h1 v hv) p hu h
theorem s_alloc {t : TypeId} {z : Value} [hz : Zer P t z] {vs : List Value} (hO : Own k w l) (hg : gd ops E g = some true) (hd : dok n d = true) (hvs : z.cells = vs.toArray)
    (h : ∀ b w', Own k w' (blk b t vs :: l) → LW P ops Q n ds rest (E.put d (.pointer (some ⟨b, 0, none⟩))) w') : LW P ops Q n ds (⟨d, .alloc t, ty, pos, aft, g⟩ :: rest) E w :=
  l_val (o := ⟨d, .alloc t, ty, pos, aft, g⟩) (w' := w.alloc (.cells vs.toArray t)) hg hd (fun c hc => by simp [execOp, Instr.alloc, hz.run, newVar, newRow, hvs]) (h _ _ (hO.blk_alloc t vs))
theorem s_box {t : TypeId} {x : Operand} {v : Value} {vs : List Value} (hO : Own k w l) (hg : gd ops E g = some true) (hd : dok n d = true) (hx : ev E x = some v) (hvs : v.cells = vs.toArray)
    (h : ∀ b w', Own k w' (blk b t vs :: l) → LW P ops Q n ds rest (E.put d (.pointer (some ⟨b, 0, none⟩))) w') : LW P ops Q n ds (⟨d, .box t x, ty, pos, aft, g⟩ :: rest) E w :=
  l_val (o := ⟨d, .box t x, ty, pos, aft, g⟩) (w' := w.alloc (.cells vs.toArray t)) hg hd (fun c hc => by simp [execOp, hc.eval hx, Instr.box, newVar, newRow, hvs]) (h _ _ (hO.blk_alloc t vs))
theorem y_fieldAddr {s : TypeId} {f off : Nat} [hf : Fld P s f off] {x : Operand} {b o : Nat} (hx : ev E x = some (.pointer (some ⟨b, o, none⟩))) : Yld P n ds E w ⟨d, .fieldAddr s x f, ty, pos, aft, g⟩ (.pointer (some ⟨b, o + off, none⟩)) :=
  ⟨fun c hc => by simp [execOp, hc.eval hx, hf.run, Addr.add_lit]⟩
theorem y_lenS {t : TypeId} [hu : Und P t .string] {x : Operand} {s : ByteArray} (hx : ev E x = some (.string s)) : Yld P n ds E w ⟨d, .call ⟨.builtin .len, #[x], #[t]⟩, ty, pos, aft, g⟩ (.int .i64 s.size) :=
  ⟨fun c hc => by
    simp [execOp, resolve, hc.eval hx, invoke, builtin, Builtin.len_, run_underlying hu.eq, goInt]⟩
theorem y_lenL {t e : TypeId} [hu : Und P t (.slice e)] {x : Operand} {a : Option Addr} {len cap : Nat} (hx : ev E x = some (.slice a len cap)) : Yld P n ds E w ⟨d, .call ⟨.builtin .len, #[x], #[t]⟩, ty, pos, aft, g⟩ (.int .i64 len) :=
  ⟨fun c hc => by
    simp [execOp, resolve, hc.eval hx, invoke, builtin, Builtin.len_, run_underlying hu.eq, goInt]⟩
/-- the whole of an array, as a slice -/
theorem y_sliceA {t e : TypeId} {m : Nat} {agg : Bool} {sz : Nat} [hu : Und P t (.array m e)] [hl : Lay P e agg sz] {x : Operand} {b o : Nat} (hx : ev E x = some (.pointer (some ⟨b, o, none⟩))) : Yld P n ds E w ⟨d, .slice t x none none none, ty, pos, aft, g⟩ (.slice (some ⟨b, o, none⟩) m m) :=
  ⟨fun c hc => by
    simp [execOp, hc.eval hx, Instr.sliceAt, run_underlying hu.eq, Instr.sureAddr, Instr.sliceBounds, hl.size, Addr.add_lit, Addr.add]⟩
theorem y_build {t : TypeId} {parts : List (Nat × Operand)} {pv : List (Nat × Value)} {cs : List Value} (hp : ∀ a, Fits n ds E a → parts.map (fun p => (p.1, a.eval p.2)) = pv)
    (hb : P.built t pv = some cs.toArray) : Yld P n ds E w ⟨d, .build t parts.toArray, ty, pos, aft, g⟩ (.agg cs.toArray) :=
  ⟨fun c hc => by
    have := run_build (P := P) w t pv.toArray cs.toArray (by simpa using hb)
    have e := hp c hc
    simp only [execOp, List.map_toArray]
    rw [show (parts.map fun x => match x with | (i, x) => (i, c.eval x)) = pv from by rw [← e]]
    simp [this]⟩
theorem s_build {t : TypeId} {parts : List (Nat × Operand)} {pv : List (Nat × Value)} {cs : List Value} (hg : gd ops E g = some true) (hd : dok n d = true) (hp : ∀ a, Fits n ds E a → parts.map (fun p => (p.1, a.eval p.2)) = pv)
    (hb : P.built t pv = some cs.toArray) (h : LW P ops Q n ds rest (E.put d (.agg cs.toArray)) w) : LW P ops Q n ds (⟨d, .build t parts.toArray, ty, pos, aft, g⟩ :: rest) E w :=
  l_y hg hd (y_build hp hb) h
def partsOf (E : Env) : List (Nat × Operand) → Option (List (Nat × Value))
  | [] => some []
  | (i, x) :: ps => match ev E x, partsOf E ps with | some v, some l => some ((i, v) :: l) | _, _ => none
theorem partsOf_sound {a : Act} (ha : Fits n ds E a) : ∀ (ps : List (Nat × Operand)) (l : List (Nat × Value)), partsOf E ps = some l → ps.map (fun p => (p.1, a.eval p.2)) = l
  | [], l, h => by simpa [partsOf] using h
  | (i, x) :: ps, l, h => by
    simp only [partsOf] at h
    cases hx : ev E x with
    | none => rw [hx] at h; cases h
    | some v =>
      cases hc : partsOf E ps with
      | none => rw [hx, hc] at h; cases h
      | some m =>
        rw [hx, hc] at h
        have := partsOf_sound ha ps m hc
        simp only [Option.some.injEq] at h
        subst h
        simp [this, ha.eval hx]
theorem y_eqS {t u : TypeId} {x y : Operand} {a b : ByteArray} {c : Bool} (hx : ev E x = some (.string a)) (hy : ev E y = some (.string b))
    (hc : decide (a = b) = c) : Yld P n ds E w ⟨d, .binOp .eql t x y u, ty, pos, aft, g⟩ (.bool c) :=
  ⟨fun f hf => by
    have e : (a.toList == b.toList) = c := by
      rw [← hc, Bool.eq_iff_iff]
      simp only [beq_iff_eq, decide_eq_true_eq, ByteArray.toList_eq]
      constructor
      · intro h; cases a; cases b; congr 1; exact Array.toList_inj.1 h
      · intro h; rw [h]
    simp [execOp, hf.eval hx, hf.eval hy, eqGuard, binOp, Op.stringOp, e]⟩
theorem s_eqS {t u : TypeId} {x y : Operand} {a b : ByteArray} {c : Bool} (hg : gd ops E g = some true) (hd : dok n d = true) (hx : ev E x = some (.string a)) (hy : ev E y = some (.string b))
    (hc : decide (a = b) = c) (h : LW P ops Q n ds rest (E.put d (.bool c)) w) : LW P ops Q n ds (⟨d, .binOp .eql t x y u, ty, pos, aft, g⟩ :: rest) E w :=
  l_y hg hd (y_eqS hx hy hc) h
theorem s_eqS_split {t u : TypeId} {x y : Operand} {a b : ByteArray} (hg : gd ops E g = some true) (hd : dok n d = true) (hx : ev E x = some (.string a)) (hy : ev E y = some (.string b))
    (h1 : a = b → LW P ops Q n ds rest (E.put d (.bool true)) w) (h2 : a ≠ b → LW P ops Q n ds rest (E.put d (.bool false)) w) : LW P ops Q n ds (⟨d, .binOp .eql t x y u, ty, pos, aft, g⟩ :: rest) E w := by
  by_cases h : a = b
  · exact s_eqS hg hd hx hy (decide_eq_true h) (h1 h)
  · exact s_eqS hg hd hx hy (decide_eq_false h) (h2 h)
theorem y_neS {t u : TypeId} {x y : Operand} {a b : ByteArray} {c : Bool} (hx : ev E x = some (.string a)) (hy : ev E y = some (.string b))
    (hc : (!decide (a = b)) = c) : Yld P n ds E w ⟨d, .binOp .neq t x y u, ty, pos, aft, g⟩ (.bool c) :=
  ⟨fun f hf => by
    have e : (a.toList == b.toList) = decide (a = b) := by
      rw [Bool.eq_iff_iff]
      simp only [beq_iff_eq, decide_eq_true_eq, ByteArray.toList_eq]
      constructor
      · intro h; cases a; cases b; congr 1; exact Array.toList_inj.1 h
      · intro h; rw [h]
    simp [execOp, hf.eval hx, hf.eval hy, eqGuard, binOp, Op.stringOp, e, hc]⟩
theorem s_neS {t u : TypeId} {x y : Operand} {a b : ByteArray} {c : Bool} (hg : gd ops E g = some true) (hd : dok n d = true) (hx : ev E x = some (.string a)) (hy : ev E y = some (.string b))
    (hc : (!decide (a = b)) = c) (h : LW P ops Q n ds rest (E.put d (.bool c)) w) : LW P ops Q n ds (⟨d, .binOp .neq t x y u, ty, pos, aft, g⟩ :: rest) E w :=
  l_y hg hd (y_neS hx hy hc) h
theorem s_neS_split {t u : TypeId} {x y : Operand} {a b : ByteArray} (hg : gd ops E g = some true) (hd : dok n d = true) (hx : ev E x = some (.string a)) (hy : ev E y = some (.string b))
    (h1 : a ≠ b → LW P ops Q n ds rest (E.put d (.bool true)) w) (h2 : a = b → LW P ops Q n ds rest (E.put d (.bool false)) w) : LW P ops Q n ds (⟨d, .binOp .neq t x y u, ty, pos, aft, g⟩ :: rest) E w := by
  by_cases h : a = b
  · exact s_neS hg hd hx hy (by simp [h]) (h2 h)
  · exact s_neS hg hd hx hy (by simp [h]) (h1 h)
theorem y_eqB {t u : TypeId} [hu : Und P t .bool] {x y : Operand} {a b c : Bool} (hx : ev E x = some (.bool a)) (hy : ev E y = some (.bool b))
    (hc : (a == b) = c) : Yld P n ds E w ⟨d, .binOp .eql t x y u, ty, pos, aft, g⟩ (.bool c) :=
  ⟨fun f hf => by
    simp [execOp, hf.eval hx, hf.eval hy, eqGuard, run_eql_bool _ t a b hu.eq, hc]⟩
theorem s_eqB {t u : TypeId} [hu : Und P t .bool] {x y : Operand} {a b c : Bool} (hg : gd ops E g = some true) (hd : dok n d = true) (hx : ev E x = some (.bool a)) (hy : ev E y = some (.bool b))
    (hc : (a == b) = c) (h : LW P ops Q n ds rest (E.put d (.bool c)) w) : LW P ops Q n ds (⟨d, .binOp .eql t x y u, ty, pos, aft, g⟩ :: rest) E w :=
  l_y hg hd (y_eqB hx hy hc) h
theorem y_neB {t u : TypeId} [hu : Und P t .bool] {x y : Operand} {a b c : Bool} (hx : ev E x = some (.bool a)) (hy : ev E y = some (.bool b))
    (hc : (!(a == b)) = c) : Yld P n ds E w ⟨d, .binOp .neq t x y u, ty, pos, aft, g⟩ (.bool c) :=
  ⟨fun f hf => by
    simp [execOp, hf.eval hx, hf.eval hy, eqGuard, run_neq_bool _ t a b hu.eq, hc]⟩
theorem y_not {t : TypeId} {x : Operand} {a c : Bool} (hx : ev E x = some (.bool a)) (hc : (!a) = c) : Yld P n ds E w ⟨d, .unOp .not t x, ty, pos, aft, g⟩ (.bool c) :=
  ⟨fun f hf => by simp [execOp, hf.eval hx, Op.unary, hc]⟩
/-- a result that lies in memory -/
theorem finc {fn : Func} {T : Value → World → Prop} {t : Nat} {ty : TypeId} {m : Nat} [hl : Lay P ty true m] {a : Addr} {cs : List Value} (hrs : fn.results = #[.cell t ty]) (hv : look E t = some (.pointer (some a))) (hm : cs.length = m) (hh : Holds w a cs) (hT : T (.agg cs.toArray) w) :
    QW (bodyPost P fn fun e w' => ∃ v, e = .returned v ∧ T v w') n [] .ret E w := fun c hc =>
  ⟨hc.defers, _, by
    subst hm
    have := hc.at_ t _ hv
    simp only [Array.getD_eq_getD_getElem?] at this
    have h1 := run_loadCells_list (P := P) w a cs hh
    simp [results, hrs, this, asAddr, loadVar, hl.isAgg, hl.size, h1], _, rfl, hT⟩
theorem finc1 {fn : Func} {T : Value → World → Prop} {t u : Nat} {ty : TypeId} {m : Nat} {x : Value} [hl : Lay P ty true m] {a : Addr} {cs : List Value} (hrs : fn.results = #[.cell t ty, .tmp u]) (hv : look E t = some (.pointer (some a))) (hx : look E u = some x) (hm : cs.length = m) (hh : Holds w a cs) (hT : T (.tuple #[.agg cs.toArray, x]) w) :
    QW (bodyPost P fn fun e w' => ∃ v, e = .returned v ∧ T v w') n [] .ret E w := fun c hc =>
  ⟨hc.defers, _, by
    subst hm
    have := hc.at_ t _ hv
    have h2 := hc.at_ u _ hx
    simp only [Array.getD_eq_getD_getElem?] at this h2
    have h1 := run_loadCells_list (P := P) w a cs hh
    simp [results, hrs, this, h2, asAddr, loadVar, hl.isAgg, hl.size, h1], _, rfl, hT⟩
end
end Go.Hb
set_option linter.unusedVariables false
set_option linter.unusedSimpArgs false
namespace Go.Hb
open Go Go.RowKit
inductive Pull : List HP → HP → List HP → Prop
  | hd (A : HP) (l : List HP) : Pull (A :: l) A l
  | tl {l : List HP} {A : HP} {l' : List HP} (C : HP) (h : Pull l A l') : Pull (C :: l) A (C :: l')
inductive Pulls : List HP → List HP → List HP → Prop
  | nil (l : List HP) : Pulls l [] l
  | cons {l l' l'' As : List HP} {A : HP} (h : Pull l A l') (hs : Pulls l' As l'') : Pulls l (A :: As) l''
theorem Pull.perm {l l' : List HP} {A : HP} (p : Pull l A l') : l.Perm (A :: l') := by
  induction p with
  | hd => exact List.Perm.refl _
  | tl C _ ih => exact (ih.cons C).trans (List.Perm.swap _ _ _)
theorem Pulls.perm {l l' As : List HP} (p : Pulls l As l') : l.Perm (As ++ l') := by
  induction p with
  | nil => exact List.Perm.refl _
  | cons h _ ih => exact h.perm.trans (ih.cons _)
section
variable {k k' : Ctx} {w w' : World} {l l' As rest' : List HP} {A : HP}
theorem Own.pull (h : Own k w l) (p : Pull l A l') : Own k w (A :: l') := h.perm p.perm
theorem Own.pulls (h : Own k w l) (p : Pulls l As l') : Own k w (As ++ l') := h.perm p.perm
/-- what holds for good while the context stands -/
def Ro (k : Ctx) (a : Addr) (cs : List Value) : Prop := ∀ j v, cs[j]? = some v → k.S a.block ∧ k.w0.cell? (a.add j) = some v
theorem add_block (a : Addr) (j : Nat) : (a.add j).block = a.block := by unfold Addr.add; split <;> rfl
theorem Ro.holds {a : Addr} {cs : List Value} (h : Ro k a cs) (hO : Own k w l) : Holds w a cs := fun j v hv => by
  obtain ⟨h1, h2⟩ := h j v hv
  have := hO.1.same _ h1
  rw [← h2]
  exact World.cell?_of_block (by rw [add_block]; exact this)
theorem Ro.ext {a : Addr} {cs : List Value} (h : Ro k a cs) (hO : Own k w l) (he : Ext k k' w) : Ro k' a cs := fun j v hv => by
  have h1 := (h j v hv).1
  have h2 := h.holds hO j v hv
  exact ⟨he.S _ h1, by rw [he.w0]; exact h2⟩
theorem Ro.start (w : World) {a : Addr} {cs : List Value} (h : Holds w a cs) : Ro (all w) a cs := fun j v hv => by
  have := h j v hv
  refine ⟨?_, this⟩
  have hb := World.block_lt_of_cell? w (a.add j) this
  rw [add_block] at hb
  exact hb
/-- A call over a part of what is owned: R tells the answer and what the part has become. -/
def Tri (P : Program) (f : FuncId) (args : Array Value) (k : Ctx) (w : World) (R : Value → List HP → Prop) : Prop := Ret P f args w fun v w' => ∃ m, R v m ∧ Own k w' m
theorem Tri.mono {P : Program} {f : FuncId} {args : Array Value} {R R' : Value → List HP → Prop} (h : Tri P f args k w R) (hr : ∀ v m, R v m → R' v m) : Tri P f args k w R' :=
  Ret.mono h fun _ _ ⟨m, h1, h2⟩ => ⟨m, hr _ _ h1, h2⟩
end
section
variable {P : Program} {ops : Array Oper} {Q : Exit → Act → World → Prop} {n : Nat} {ds : List Deferred} {E E' : Env} {w w' : World}
variable {rest : List Oper} {d : Option Tmp} {ty : TypeId} {pos : String} {aft : Array Edge} {g : Option (Nat × Bool)}
variable {k : Ctx} {l l' rl As : List HP} {A A' : HP}
theorem Ret.framed {f : FuncId} {vs : Array Value} {R : Value → List HP → Prop} (hO : Own k w l) (hp : Pulls l As rl)
    (hc : ∀ k', Ext k k' w → (∀ A ∈ rl, ∀ a cs, Has A a cs → Ro k' a cs) → Own k' w As → Tri P f vs k' w R) : Ret P f vs w fun v w' => ∃ m, R v m ∧ Own k w' (m ++ rl) := by
  obtain ⟨k', he, hA, hr, back⟩ := (hO.pulls hp).frame
  refine Ret.mono (hc k' he (fun A hAm a cs hh j v hv => ?_) hA) fun v w' ⟨m, h1, h2⟩ => ⟨m, h1, back w' m h2⟩
  obtain ⟨hp', h1, h2⟩ := hr A hAm
  obtain ⟨hs, hc⟩ := hh
  obtain ⟨c, T, fz, h3, h4⟩ := hc hp' h1
  have h5 := h2 _ _ h3
  refine ⟨h5.1, ?_⟩
  rw [he.w0, add_at hs]
  simp only [World.cell?, h5.2, Option.isSome_none, Bool.false_eq_true, if_false]
  exact h4 j v hv
theorem s_callO {f : FuncId} [hf : Fun P f] {xs : List Operand} {tys : Array TypeId} {vs : List Value} {R : Value → List HP → Prop} (hO : Own k w l) (hp : Pulls l As rl) (hg : gd ops E g = some true) (hd : dok n d = true)
    (hx : evl E xs = some vs) (hc : ∀ k', Ext k k' w → (∀ A ∈ rl, ∀ a cs, Has A a cs → Ro k' a cs) → Own k' w As → Tri P f vs.toArray k' w R)
    (h : ∀ v m w', R v m → Own k w' (m ++ rl) → LW P ops Q n ds rest (E.put d v) w') :
    LW P ops Q n ds (⟨d, .call ⟨.value (.func f), xs.toArray, tys⟩, ty, pos, aft, g⟩ :: rest) E w :=
  s_call hg hd hx (Ret.framed hO hp hc) fun v w' ⟨m, h1, h2⟩ => h v m w' h1 h2
theorem s_callvO {f : FuncId} [hf : Fun P f] {x : Operand} {xs : List Operand} {tys : Array TypeId} {first captured vs : List Value} {R : Value → List HP → Prop} (hO : Own k w l) (hp : Pulls l As rl) (hg : gd ops E g = some true) (hd : dok n d = true)
    (hv : ev E x = some (.func (.func f) first.toArray captured.toArray))
    (hx : evl E xs = some vs) (hc : ∀ k', Ext k k' w → (∀ A ∈ rl, ∀ a cs, Has A a cs → Ro k' a cs) → Own k' w As → Tri P f (first ++ vs ++ captured).toArray k' w R)
    (h : ∀ v m w', R v m → Own k w' (m ++ rl) → LW P ops Q n ds rest (E.put d v) w') :
    LW P ops Q n ds (⟨d, .call ⟨.value x, xs.toArray, tys⟩, ty, pos, aft, g⟩ :: rest) E w :=
  s_callv hg hd hv hx (Ret.framed hO hp hc) fun v w' ⟨m, h1, h2⟩ => h v m w' h1 h2
end
section
variable {P : Program} {k : Ctx} {w w' : World} {l l' : List HP}
/-- x gives the cells of news, of which there are m -/
structure Src (P : Program) (w : World) (sz : Nat) (x : Value) (m : Nat) (news : List Value) : Prop where
  len : ∀ d, (Builtin.lenOf x).run P { w with drawn := d } = .ok m { w with drawn := d }
  cells : ∀ d, (Builtin.firstCells sz m x).run P { w with drawn := d } = .ok news.toArray { w with drawn := d }
  size : news.length = m * sz
  one : ∀ v ∈ news, v.oneCell' = true
theorem Src.slice {sz m c : Nat} {a : Addr} {news : List Value} (hl : news.length = m * sz) (hh : Holds w a news) (h1 : ∀ v ∈ news, v.oneCell' = true) : Src P w sz (.slice (some a) m c) m news :=
  ⟨fun d => rfl, fun d => run_firstCells_some (P := P) { w with drawn := d } sz m a m c news hl (fun j v hv => hh j v hv), hl, h1⟩
theorem not_int {d : TypeDesc} (h : ∀ kk, d ≠ .int kk) : (match d with | .int _ => true | _ => false) = false := by cases d <;> first | rfl | exact absurd rfl (h _)
theorem zeros_rows {z : Value} {sz m : Nat} (hz : z.cells.size = sz) : (Builtin.zeroCells z.cells m).size = m * sz := by rw [size_zeroCells, hz]
section
variable {T : TypeId} {i : TypeInfo} {z : Value} {t u ty : TypeId} {d : TypeDesc} (hu : P.underlying t = some (.slice T)) (hd : P.underlying u = some d) (hdi : ∀ kk, d ≠ .int kk) (hi : P.info? T = some i) (hz0 : i.zero = some z)
variable {x : Value} {m : Nat} {news : List Value} (hx : Src P w i.size x m news)
include hu hd hdi hi hx
theorem run_app_room {b o n cap : Nat} {w' : World} (hroom : n + m ≤ cap) (hst : (storeCells ⟨b, o + n * i.size, none⟩ news).run P w = .ok () w') :
    (Builtin.append_ #[t, u] ty #[.slice (some ⟨b, o, none⟩) n cap, x]).run P w = .ok (.slice (some ⟨b, o, none⟩) (n + m) cap) w' := by
  have hdi' := not_int hdi
  have hlen : (Builtin.lenOf x).run P w = .ok m w := hx.len w.drawn
  have hcells : (Builtin.firstCells i.size m x).run P w = .ok news.toArray w := hx.cells w.drawn
  simp [Builtin.append_, run_underlying hu, run_underlying hd, sizeOf, typeInfo, hi, hdi', hlen, hroom, hcells, Addr.add_lit, hst]
theorem run_app_none (h0 : m = 0) : (Builtin.append_ #[t, u] ty #[.slice none 0 0, x]).run P w = .ok (.slice none 0 0) w := by
  subst h0
  have hdi' := not_int hdi
  have hlen : (Builtin.lenOf x).run P w = .ok 0 w := hx.len w.drawn
  have hcells : (Builtin.firstCells i.size 0 x).run P w = .ok news.toArray w := hx.cells w.drawn
  simp [Builtin.append_, run_underlying hu, run_underlying hd, sizeOf, typeInfo, hi, hdi', hlen, hcells]
include hz0 in
theorem run_app_grow {a : Option Addr} {n cap : Nat} {olds : List Value} (hold : (Builtin.firstCells i.size n (.slice a n cap)).run P w.drew = .ok olds.toArray w.drew) (hg : cap < n + m) (h63 : n + m ≤ 4611686018427387904) (hb : (n + m) * i.bytes ≤ 140737488355328) :
    (Builtin.append_ #[t, u] ty #[.slice a n cap, x]).run P w = .ok (.slice (some ⟨w.heap.size, 0, none⟩) (n + m) (grownCap w (n + m) cap T))
      (w.drew.alloc (.cells (olds.toArray ++ news.toArray ++ Builtin.zeroCells z.cells (grownCap w (n + m) cap T - (n + m))) T)) := by
  have hdi' := not_int hdi
  have hlen : (Builtin.lenOf x).run P w = .ok m w := hx.len w.drawn
  have hcells : (Builtin.firstCells i.size m x).run P w.drew = .ok news.toArray w.drew := hx.cells _
  have hn' : ¬ (n + m ≤ cap) := by omega
  have h63' : ¬ (9223372036854775807 < ((n : Int) + (m : Int))) := by omega
  have hfit := growslice_fits hg hb
  have h48' : ¬ (281474976710656 < Builtin.nextslicecap (n + m) cap * i.bytes) := by omega
  simp [Builtin.append_, run_underlying hu, run_underlying hd, sizeOf, typeInfo, zeroValue, hi, hz0, hdi', hlen, hn', h63', h48', Question.forced, hcells, hold, newRow, grownCap]
  congr 2
  apply Array.ext'
  simp
end
/-- v' is v with m more: new, or where it stood; nil only if nothing came to nil -/
structure Grew (v v' : Value) (m : Nat) : Prop where
  at_ : ∀ a n c, v' = .slice (some a) n c → a = ⟨a.block, 0, none⟩ ∨ ∃ n' c', v = .slice (some a) n' c'
  nil : v' = .slice none 0 0 ↔ v = .slice none 0 0 ∧ m = 0
theorem Own.append {T : TypeId} {sz bytes : Nat} {z : Value} [he : Elt P T sz bytes z] {t u ty : TypeId} {d : TypeDesc} [hu : Und P t (.slice T)] [hd : Und P u d] (hdi : ∀ kk, d ≠ .int kk)
    {v x : Value} {rows news : List (List Value)} (hO : Own k w (sl v T sz rows :: l)) (hx : Src P w sz x news.length news.flatten) (hn : ∀ r ∈ news, r.length = sz)
    (h63 : rows.length + news.length ≤ 4611686018427387904) (hb : (rows.length + news.length) * bytes ≤ 140737488355328) :
    ∃ v' w', (Builtin.append_ #[t, u] ty #[v, x]).run P w = .ok v' w' ∧ Own k w' (sl v' T sz (rows ++ news) :: l) ∧ Grew v v' news.length := by
  have hz := he.cells
  obtain ⟨i, hi, rfl, rfl, hz0⟩ := he.info
  -- a new row
  have fresh : ∀ (need old : Nat) (olds : List (List Value)), (∀ r ∈ olds, r.length = i.size) → need = olds.length + news.length → need ≤ 4611686018427387904 →
      sl (.slice (some ⟨w.heap.size, 0, none⟩) need (grownCap w need old T)) T i.size (olds ++ news) (one w.heap.size (.cells (olds.flatten.toArray ++ news.flatten.toArray ++ Builtin.zeroCells z.cells (grownCap w need old T - need)) T)) := by
    intro need old olds ho hneed hle
    have hge := grownCap_ge w need old T
    have hcm : grownCap w need old T ≤ maxLen := grownCap_le_maxLen w need old T (by simp only [maxLen]; omega)
    have hr : ∀ r ∈ olds ++ news, r.length = i.size := fun r hr => by
      rcases List.mem_append.1 hr with h | h
      · exact ho r h
      · exact hn r h
    refine .inr ⟨w.heap.size, 0, grownCap w need old T, by rw [List.length_append, ← hneed], [], (Builtin.zeroCells z.cells (grownCap w need old T - need)).toList, rfl, hr, ?_, by rw [List.length_append, ← hneed]; exact hge, hcm, ?_⟩
    · rw [List.length_append, ← hneed, Array.length_toList, zeros_rows hz, ← Nat.add_mul]
      exact Nat.mul_le_mul_right _ (by omega)
    · rw [one_self]
      congr 2
      apply Array.ext'
      simp
  rcases hO.heap (p := (v = .slice none 0 0 ∧ rows = []) ∨ ∃ b o cap pre spare, v = .slice (some ⟨b, o, none⟩) rows.length cap ∧ pre.length = o ∧ (∀ r ∈ rows, r.length = i.size) ∧ cap * i.size ≤ rows.length * i.size + spare.length ∧ rows.length ≤ cap ∧ cap ≤ maxLen ∧ w.heap[b]? = some (.cells (pre ++ rows.flatten ++ spare).toArray T (0, 0)))
    (fun hp hA hw => by
      rcases hA with hA | ⟨b, o, cap, hv, pre, spare, h1, h2, h3, h4, h5, h6⟩
      · exact .inl hA
      · exact .inr ⟨b, o, cap, pre, spare, hv, h1, h2, h3, h4, h5, (hw _ _ h6).2⟩) with ⟨rfl, rfl⟩ | ⟨b, o, cap, pre, spare, rfl, h1, h2, h3, h4, h5, h6⟩
  · by_cases hm : news.length = 0
    · have hn0 : news = [] := List.eq_nil_of_length_eq_zero hm
      refine ⟨.slice none 0 0, w, run_app_none hu.eq hd.eq hdi hi hx hm, by simpa [hn0] using hO, ⟨fun a n c e => (by cases e), by simp [hm]⟩⟩
    · refine ⟨_, _, run_app_grow (a := none) (n := 0) (cap := 0) (olds := []) hu.eq hd.eq hdi hi hz0 hx (run_firstCells_none (P := P) w.drew i.size 0 0 0) (by omega) (by simpa using h63) (by simpa using hb), ?_, ⟨fun a n c e => (by cases e; exact .inl rfl), by simp [hm]⟩⟩
      exact (hO.drop.drew).alloc _ (by have := fresh (0 + news.length) 0 [] (by simp) (by simp) (by simpa using h63); exact this)
  · have hf := flatten_length h2
    by_cases hroom : rows.length + news.length ≤ cap
    · have hfl : news.flatten.length = news.length * i.size := hx.size
      have hmul : (rows.length + news.length) * i.size ≤ cap * i.size := Nat.mul_le_mul_right _ hroom
      rw [Nat.add_mul] at hmul
      have hst := run_storeCells_at P b (o + rows.length * i.size) T news.flatten 0 (pre ++ rows.flatten ++ spare).toArray w h6 (by rw [hfl]; simp only [List.size_toArray, List.length_append, hf, h1]; omega) hx.one
      simp only [Nat.add_zero] at hst
      refine ⟨_, _, run_app_room hu.eq hd.eq hdi hi hx hroom hst, ?_, ⟨fun a n c e => (by cases e; exact .inr ⟨_, _, rfl⟩), by simp⟩⟩
      refine hO.write (b := b) (.hd _ _ _) (A' := sl (.slice (some ⟨b, o, none⟩) (rows.length + news.length) cap) T i.size (rows ++ news)) (fun h hA => ?_) h6 (setRow_heap w b _ _ T (0, 0) h6) ⟨rfl, rfl, rfl, by simp, fun x hx => setRow_other w b x _ hx⟩ ?_
      · rcases hA with ⟨hA, _⟩ | ⟨b', o', cap', hv, pre', spare', _, _, _, _, _, h6'⟩
        · cases hA
        · have e := hv
          simp only [Value.slice.injEq, Option.some.injEq, Addr.mk.injEq] at e
          obtain ⟨⟨rfl, _⟩, _⟩ := e
          exact ⟨_, h6'⟩
      · intro h hA hb2
        refine .inr ⟨b, o, cap, by rw [List.length_append], pre, spare.drop (news.length * i.size), h1, ?_, ?_, by simpa using hroom, h5, ?_⟩
        · intro r hr
          rcases List.mem_append.1 hr with h' | h'
          · exact h2 r h'
          · exact hn r h'
        · simp only [List.length_append, List.length_drop, Nat.add_mul]; omega
        · simp only [if_true]
          congr 2
          have e1 : (pre ++ rows.flatten ++ spare).take (o + rows.length * i.size) = pre ++ rows.flatten := by
            rw [← h1, ← hf, ← List.length_append]; exact List.take_left
          have e2 : (pre ++ rows.flatten ++ spare).drop (o + rows.length * i.size + news.flatten.length) = spare.drop (news.length * i.size) := by
            rw [← h1, ← hf, ← List.length_append, hfl, List.drop_append, List.drop_of_length_le (by omega), List.nil_append]
            congr 1; omega
          rw [e1, e2]
          simp only [List.flatten_append, List.append_assoc]
    · have hold : Holds w ⟨b, o, none⟩ rows.flatten := fun j v hv => by
        have hj : j < rows.flatten.length := by
          rcases Nat.lt_or_ge j rows.flatten.length with h' | h'
          · exact h'
          · rw [List.getElem?_eq_none h'] at hv; cases hv
        rw [add_at rfl]
        simp only [World.cell?, h6, Option.isSome_none, Bool.false_eq_true, if_false, List.getElem?_toArray]
        rw [List.append_assoc, List.getElem?_append_right (by omega), List.getElem?_append_left (by omega), show o + j - pre.length = j from by omega]
        exact hv
      have hfo := run_firstCells_some (P := P) w.drew i.size rows.length ⟨b, o, none⟩ rows.length cap rows.flatten hf (fun j v hv => hold j v hv)
      refine ⟨_, _, run_app_grow hu.eq hd.eq hdi hi hz0 hx hfo (by omega) h63 hb, ?_, ⟨fun a n c e => (by cases e; exact .inl rfl), by simp⟩⟩
      exact (hO.drop.drew).alloc _ (fresh _ cap rows h2 rfl h63)
end
end Go.Hb
set_option linter.unusedVariables false
set_option linter.unusedSimpArgs false
namespace Go.Hb
open Go Go.RowKit
section
variable {P : Program} {ops : Array Oper} {Q : Exit → Act → World → Prop} {n : Nat} {ds : List Deferred} {E E' : Env} {w w' : World} {S : World → Prop} {fuel : Nat} {listed : Array Bool} {lo : List Oper}
def nthO : List Oper → Nat → Option Oper
  | [], _ => none
  | o :: _, 0 => some o
  | _ :: l, i + 1 => nthO l i
theorem nthO_eq : ∀ (l : List Oper) (i : Nat), nthO l i = l[i]?
  | [], _ => rfl
  | _ :: _, 0 => rfl
  | _ :: l, i + 1 => by simp [nthO, nthO_eq l i]
class Mixed (P : Program) : Prop where
  eq : P.follows .mixedOrders = true
/-- one operation of a region -/
def OW (P : Program) (ops : Array Oper) (Q : Exit → Act → World → Prop) (n : Nat) (ds : List Deferred) (o : Oper) (K : Env → World → Prop) (E : Env) (w : World) : Prop :=
  LW P ops (fun e a w => match e with | .normal => ∃ E', Fits n ds E' a ∧ K E' w | _ => False) n ds [o] E w
theorem o_end {K : Env → World → Prop} (h : K E w) : QW (fun e a w => match e with | .normal => ∃ E', Fits n ds E' a ∧ K E' w | _ => False) n ds .normal E w := fun a ha => ⟨E, ha, h⟩
end
/-- these parts are there, and nobody writes them -/
def SO (k : Ctx) (L : List HP) (w : World) : Prop := ∃ m, Own k w (L ++ m)
end Go.Hb
set_option linter.unusedVariables false
set_option linter.unusedSimpArgs false
namespace Go.Hb
open Go Go.RowKit
section
variable {P : Program} {ops : Array Oper} {Q : Exit → Act → World → Prop} {n : Nat} {ds : List Deferred} {E E' : Env} {w w' : World}
variable {rest : List Oper} {d : Option Tmp} {ty : TypeId} {pos : String} {aft : Array Edge} {g : Option (Nat × Bool)}
variable {k : Ctx} {l l' : List HP} {A A' : HP}
theorem pt_eq {t e : TypeId} (h : P.underlying t = some (.pointer e)) : P.underlying t = some (.pointer (P.pointee t)) := by simp [Program.pointee, h]
theorem y_eqPnil {t e u : TypeId} [hu : Und P t (.pointer e)] {x y : Operand} {p : Option Addr} {c : Bool} (hx : ev E x = some (.pointer p)) (hy : ev E y = some (.pointer none)) (hc : p.isNone = c) :
    Yld P n ds E w ⟨d, .binOp .eql t x y u, ty, pos, aft, g⟩ (.bool c) :=
  ⟨fun a ha => by simp [execOp, ha.eval hx, ha.eval hy, eqGuard, run_eql_pointer_nil _ t p (pt_eq hu.eq), hc]⟩
theorem y_convert {s t : TypeId} {x : Operand} {v v' : Value} (hx : ev E x = some v) (hr : (convert s t v).run P w = .ok v' w) : Yld P n ds E w ⟨d, .convert s t x, ty, pos, aft, g⟩ v' :=
  ⟨fun a ha => by simp [execOp, ha.eval hx, hr]⟩
theorem y_convI {s t : TypeId} {ds' : TypeDesc} {kd kd' : IntKind} [hs : Und P s ds'] [ht : Und P t (.int kd)] {x : Operand} {i r : Int} (hx : ev E x = some (.int kd' i)) (hr : kd.wrap i = r) :
    Yld P n ds E w ⟨d, .convert s t x, ty, pos, aft, g⟩ (.int kd r) :=
  y_convert hx (by subst hr; simp [convert, run_underlying hs.eq, run_underlying ht.eq, Conv.intToInt])
theorem y_built {b : Builtin} {xs : List Operand} {tys : Array TypeId} {vs : List Value} {v : Value} (hx : evl E xs = some vs) (hr : ∀ cs, (builtin b tys ty cs vs.toArray).run P w = .ok (.value v) w) :
    Yld P n ds E w ⟨d, .call ⟨.builtin b, xs.toArray, tys⟩, ty, pos, aft, g⟩ v :=
  ⟨fun a ha => by
    have := evl_sound ha xs vs hx
    simp [execOp, resolve, invoke, this, hr]⟩
theorem y_makeFunc {fn : Fn} {f c : List Operand} {vf vc : List Value} (hf : evl E f = some vf) (hc : evl E c = some vc) :
    Yld P n ds E w ⟨d, .makeFunc fn f.toArray c.toArray, ty, pos, aft, g⟩ (.func fn vf.toArray vc.toArray) :=
  ⟨fun a ha => by
    have h1 := evl_sound ha f vf hf
    have h2 := evl_sound ha c vc hc
    simp [execOp, Instr.makeFunc, h1, h2]⟩
theorem Own.setObj {b : Nat} {o o' : Obj} (hO : Own k w (obj b o :: l)) : ∃ w', w' = { w with heap := w.heap.setIfInBounds b o' } ∧ w.heap[b]? = some o ∧ Own k w' (obj b o' :: l) := by
  have hb : w.heap[b]? = some o := hO.heap fun hp hA hw => (hw b o hA).2
  have hlt : b < w.heap.size := (Array.getElem?_eq_some_iff.1 hb).1
  refine ⟨_, rfl, hb, hO.write (b := b) (o' := o') (.hd _ _ _) (fun h hA => ⟨o, hA⟩) hb (by simp [hlt]) ⟨rfl, rfl, rfl, by simp, fun c hc => ?_⟩ (fun h hA hb2 => by simp [obj])⟩
  simp [Array.getElem?_setIfInBounds_ne (fun e => hc e.symm)]
theorem s_append {t u T : TypeId} {sz bytes : Nat} {z : Value} {dd : TypeDesc} [hu : Und P t (.slice T)] [he : Elt P T sz bytes z] [hd' : Und P u dd] {x y : Operand} {v vy : Value} {rows news : List (List Value)} (hdi : ∀ kk, dd ≠ .int kk)
    (hO : Own k w l) (hp : Pull l (sl v T sz rows) l') (hg : gd ops E g = some true) (hd : dok n d = true) (hx : ev E x = some v) (hy : ev E y = some vy) (hs : Src P w sz vy news.length news.flatten) (hn : ∀ r ∈ news, r.length = sz)
    (h63 : rows.length + news.length ≤ 4611686018427387904) (hb : (rows.length + news.length) * bytes ≤ 140737488355328)
    (h : ∀ v' w', Own k w' (sl v' T sz (rows ++ news) :: l') → Grew v v' news.length → LW P ops Q n ds rest (E.put d v') w') : LW P ops Q n ds (⟨d, .call ⟨.builtin .append, #[x, y], #[t, u]⟩, ty, pos, aft, g⟩ :: rest) E w := by
  obtain ⟨v', w', hr, hO', hgr⟩ := Own.append (P := P) (t := t) (u := u) (ty := ty) hdi (hO.pull hp) hs hn h63 hb
  refine l_val (o := ⟨d, .call ⟨.builtin .append, #[x, y], #[t, u]⟩, ty, pos, aft, g⟩) hg hd (fun c hc => ?_) (h v' w' hO' hgr)
  simp [execOp, resolve, hc.eval hx, hc.eval hy, invoke, builtin, hr]
end
theorem sl_shape {k : Ctx} {w : World} {l : List HP} {v : Value} {T : TypeId} {sz : Nat} {rows : List (List Value)} (hO : Own k w (sl v T sz rows :: l)) : ∃ a cap, v = .slice a rows.length cap :=
  hO.fact fun h hA => by
    rcases hA with ⟨rfl, rfl⟩ | ⟨b, o, cap, rfl, _⟩
    · exact ⟨none, 0, rfl⟩
    · exact ⟨_, _, rfl⟩
theorem sl_open {k : Ctx} {w : World} {l : List HP} {v : Value} {T : TypeId} {sz : Nat} {rows : List (List Value)} (hO : Own k w (sl v T sz rows :: l)) :
    (v = .slice none 0 0 ∧ rows = [] ∧ Own k w l) ∨ ∃ b o cap, v = .slice (some ⟨b, o, none⟩) rows.length cap ∧ Own k w (arr b o cap T sz rows :: l) := by
  obtain ⟨hb, hh, h1, a, c, dd, s1, s2, hA, hl⟩ := hO
  rcases hA with ⟨rfl, rfl⟩ | ⟨b, o, cap, rfl, hA⟩
  · exact .inl ⟨rfl, rfl, hb, c, fun x o e => h1 x o (s2 x o e), hl⟩
  · exact .inr ⟨b, o, cap, rfl, hb, hh, h1, a, c, dd, s1, s2, hA, hl⟩
theorem sl_shut {k : Ctx} {w : World} {l : List HP} {b o cap m : Nat} {T : TypeId} {sz : Nat} {rows : List (List Value)} (hO : Own k w (arr b o cap T sz rows :: l)) (hm : m = rows.length) : Own k w (sl (.slice (some ⟨b, o, none⟩) m cap) T sz rows :: l) :=
  hO.tell fun h hA => .inr ⟨b, o, cap, by rw [hm], hA⟩
theorem sl_nil {k : Ctx} {w : World} {l : List HP} (T : TypeId) (sz : Nat) (hO : Own k w l) : Own k w (sl (.slice none 0 0) T sz [] :: l) := by
  obtain ⟨hb, hh, h1, hl⟩ := hO
  exact ⟨hb, hh, h1, fun _ => none, hh, fun _ => .inl rfl, fun _ _ e => (by cases e), Sub.refl _, .inl ⟨rfl, rfl⟩, hl⟩
theorem Has.whole {b o cap : Nat} {T : TypeId} {sz : Nat} {rows : List (List Value)} : Has (arr b o cap T sz rows) ⟨b, o, none⟩ rows.flatten :=
  ⟨rfl, fun hp hA => by
    obtain ⟨pre, spare, h1, h2, h3, h4, h5, h6⟩ := hA
    refine ⟨_, T, (0, 0), h6, fun j v hv => ?_⟩
    have hj : j < rows.flatten.length := by
      rcases Nat.lt_or_ge j rows.flatten.length with h' | h'
      · exact h'
      · rw [List.getElem?_eq_none h'] at hv; cases hv
    simp only [List.getElem?_toArray]
    rw [List.append_assoc, List.getElem?_append_right (by omega), List.getElem?_append_left (by omega), show o + j - pre.length = j from by omega]
    exact hv⟩
end Go.Hb
set_option linter.unusedVariables false
set_option linter.unusedSimpArgs false
namespace Go.Hb
open Go Go.RowKit
theorem Own.none {k : Ctx} {w : World} : ∀ {l : List HP}, Own k w l → Own k w []
  | [], h => h
  | _ :: _, h => Own.none h.drop
theorem Own.front {k : Ctx} {w : World} {m : List HP} : ∀ {l : List HP}, Own k w (l ++ m) → Own k w l := fun {l} h => by
  have := h.perm (List.perm_append_comm (l₁ := l) (l₂ := m))
  clear h
  induction m with
  | nil => exact this
  | cons A m ih => exact ih this.drop
theorem Own.snoc {k : Ctx} {w : World} {l m : List HP} {A : HP} (h : Own k w (sep l :: A :: m)) : Own k w (sep (l ++ [A]) :: m) := by
  have h2 : Own k w (l ++ (A :: m)) := Own.open h
  refine Own.shut ?_
  rw [List.append_assoc]
  exact h2
class AtB (l : List HP) (b : Nat) (T : outParam TypeId) (vs : outParam (List Value)) (L : outParam (HP → List HP)) : Prop where
  nth : ∀ A', Nth l (blk b T vs) A' (L A')
instance (priority := high) AtB.hd (b : Nat) (T : TypeId) (vs : List Value) (l : List HP) : AtB (blk b T vs :: l) b T vs (fun A => A :: l) := ⟨fun A' => .hd _ A' l⟩
instance AtB.tl (b : Nat) (T : TypeId) (vs : List Value) (l : List HP) (C : HP) (L : HP → List HP) [h : AtB l b T vs L] : AtB (C :: l) b T vs (fun A => C :: L A) := ⟨fun A' => .tl C (h.nth A')⟩
instance AtB.app (b : Nat) (T : TypeId) (vs : List Value) (m l : List HP) (C : HP) (L : HP → List HP) [h : AtB (C :: (m ++ l)) b T vs L] : AtB ((C :: m) ++ l) b T vs L := h
instance AtB.app0 (b : Nat) (T : TypeId) (vs : List Value) (l : List HP) (L : HP → List HP) [h : AtB l b T vs L] : AtB ([] ++ l) b T vs L := h
theorem AtB.self {l : List HP} {b : Nat} {T : TypeId} {vs : List Value} {L : HP → List HP} (h : AtB l b T vs L) : ∃ m, Nth l (blk b T vs) (blk b T vs) m := ⟨_, h.nth _⟩
section
variable {P : Program} {ops : Array Oper} {Q : Exit → Act → World → Prop} {n : Nat} {ds : List Deferred} {E E' : Env} {w w' : World}
variable {rest : List Oper} {d : Option Tmp} {ty : TypeId} {pos : String} {aft : Array Edge} {g : Option (Nat × Bool)}
variable {k : Ctx} {l l' : List HP} {A A' : HP}
theorem Y1 {t : TypeId} {x y : Operand} {b o : Nat} {T : TypeId} {vs : List Value} {v : Value} {L : HP → List HP} (hO : Own k w l) (hx : ev E x = some (.pointer (some ⟨b, o, none⟩))) (hy : ev E y = some v) [hl : Lay P t false 1] [ha : AtB l b T vs L]
    (h : ∀ w', Own k w' (L (blk b T (vs.set o v))) → LW P ops Q n ds rest (E.put d undef) w') (hg : gd ops E g = some true := by rfl) (hd : dok n d = true := by rfl) (h1 : v.oneCell' = true := by rfl) (ho : Nat.blt o vs.length = true := by rfl) :
    LW P ops Q n ds (⟨d, .store t x y, ty, pos, aft, g⟩ :: rest) E w :=
  s_store1 hO hg hd hx hy h1 (ha.nth _) (.ofBlk1 ho) h
theorem Y3 {t : TypeId} {m : Nat} {x y : Operand} {b : Nat} {T : TypeId} {vs us : List Value} {L : HP → List HP} (hO : Own k w l) (hx : ev E x = some (.pointer (some ⟨b, 0, none⟩))) (hy : ev E y = some (.agg us.toArray)) [hl : Lay P t true m] [ha : AtB l b T vs L]
    (h : ∀ w', Own k w' (L (blk b T us)) → LW P ops Q n ds rest (E.put d undef) w') (hg : gd ops E g = some true := by rfl) (hd : dok n d = true := by rfl) (hm : us.length = m := by rfl) (h1 : us.all (·.oneCell') = true := by rfl) (ho : us.length = vs.length := by rfl) :
    LW P ops Q n ds (⟨d, .store t x y, ty, pos, aft, g⟩ :: rest) E w :=
  s_storeA hO hg hd hx hy hm h1 (ha.nth _) (.ofBlkAll ho) h
def done (j m : Nat) : Array Bool := (List.replicate j true ++ List.replicate (m - j) false).toArray
theorem run_slices {t T : TypeId} {sz bytes : Nat} {z : Value} [hu : Und P t (.slice T)] [he : Elt P T sz bytes z] (w : World) (vs : List Value) (hv : ∀ v ∈ vs, v.cells.size = sz) (h0 : 0 < sz) (hn : vs ≠ []) (hs : vs.length * sz ≤ 16777216) :
    (Instr.buildSlice t vs.length ((vs.zipIdx 0).map fun x => (x.2, x.1)).toArray).run P w = .ok (.slice (some ⟨w.heap.size, 0, none⟩) vs.length vs.length) (w.alloc (.cells (vs.map fun v => v.cells.toList).flatten.toArray T)) := by
  obtain ⟨i, hi, hi2, hi3, hi4⟩ := he.info
  subst hi2
  have hlen : 0 < vs.length := List.length_pos_iff.2 hn
  have hpos : 0 < vs.length * i.size := Nat.mul_pos hlen h0
  refine run_buildSlice (P := P) w t T vs.length _ _ i z hu.eq hi hi4 (by omega) (by omega) ?_
  have hf := Great.fill_whole (s := i.size) h0 vs ((Array.range (vs.length * i.size)).map (z.cells[· % z.cells.size]!)) hv (by simp)
  rw [show (vs.map fun v => v.cells.toList).flatten = vs.flatMap fun v => v.cells.toList from by rw [List.flatMap_def]]
  exact hf
theorem s_slices {t T : TypeId} {sz bytes len : Nat} {z : Value} [hu : Und P t (.slice T)] [he : Elt P T sz bytes z] {parts : List (Nat × Operand)} (vs : List Value) (hO : Own k w l) (hg : gd ops E g = some true) (hd : dok n d = true) (hlen : vs.length = len)
    (hp : partsOf E parts = some ((vs.zipIdx 0).map fun x => (x.2, x.1))) (hv : ∀ v ∈ vs, v.cells.size = sz) (h0 : 0 < sz) (hn : vs ≠ []) (hs : vs.length * sz ≤ 16777216)
    (h : ∀ b w', Own k w' (arr b 0 len T sz (vs.map fun v => v.cells.toList) :: l) → LW P ops Q n ds rest (E.put d (.slice (some ⟨b, 0, none⟩) len len)) w') : LW P ops Q n ds (⟨d, .buildSlice t len parts.toArray, ty, pos, aft, g⟩ :: rest) E w := by
  subst hlen
  have hr := run_slices (P := P) (t := t) w vs hv h0 hn hs
  refine l_val (o := ⟨d, .buildSlice t vs.length parts.toArray, ty, pos, aft, g⟩) hg hd (fun c hc => ?_) (h w.heap.size _ ?_) (w' := w.alloc (.cells (vs.map fun v => v.cells.toList).flatten.toArray T))
  · have e := partsOf_sound hc parts _ hp
    simp only [execOp, List.map_toArray]
    rw [show (parts.map fun x => match x with | (i, x) => (i, c.eval x)) = (vs.zipIdx 0).map fun x => (x.2, x.1) from e]
    simp [hr]
  · have hrow : ∀ r ∈ (vs.map fun v => v.cells.toList), r.length = sz := by
      intro r hr
      obtain ⟨v, hv1, rfl⟩ := List.mem_map.1 hr
      simpa using hv v hv1
    refine hO.alloc _ ⟨[], [], rfl, hrow, by simp, by simp, ?_, by simp [one]⟩
    have : vs.length ≤ vs.length * sz := Nat.le_mul_of_pos_right _ h0
    simp only [maxLen]; omega
theorem y_rem {t u : TypeId} {x y : Operand} {kd : IntKind} {a b : Int} (hx : ev E x = some (.int kd a)) (hy : ev E y = some (.int kd b)) (hb : b ≠ 0) : Yld P n ds E w ⟨d, .binOp .rem t x y u, ty, pos, aft, g⟩ (.int kd (a.tmod b)) :=
  ⟨fun c hc => by simp [execOp, hc.eval hx, hc.eval hy, eqGuard, binOp, Op.intDiv, hb]⟩
theorem y_remN {t u : TypeId} {x y : Operand} {kd : IntKind} {a b : Int} (hx : ev E x = some (.int kd a)) (hy : ev E y = some (.int kd b)) (ha : 0 ≤ a) (hb : b ≠ 0) : Yld P n ds E w ⟨d, .binOp .rem t x y u, ty, pos, aft, g⟩ (.int kd (a % b)) := by
  rw [← Int.tmod_eq_emod_of_nonneg ha]
  exact y_rem hx hy hb
theorem y_quoN {t u : TypeId} {x y : Operand} {kd : IntKind} {a b : Int} (hx : ev E x = some (.int kd a)) (hy : ev E y = some (.int kd b)) (ha : 0 ≤ a) (hb : b ≠ 0) (hw : kd.wrap (a / b) = a / b) : Yld P n ds E w ⟨d, .binOp .quo t x y u, ty, pos, aft, g⟩ (.int kd (a / b)) :=
  ⟨fun c hc => by simp [execOp, hc.eval hx, hc.eval hy, eqGuard, binOp, Op.intDiv, hb, Int.tdiv_eq_ediv_of_nonneg ha, hw]⟩
end
end Go.Hb
set_option linter.unusedVariables false
set_option linter.unusedSimpArgs false
namespace Go.Hb
open Go Go.RowKit Go.ChangeShapes Go.WideShapes Go.ChangeAt
theorem trodAll_below {H : Type} {enc : TypeId × Value → H} {P : Program} (hl : laidOutB P = true) {W W' : World} (hb : Below W.heap.size W W') : ∀ (ts : List TypeId) (vs : List Value) (ds : List (DataW H)) (ps : List MemPlace),
    (∀ t ∈ ts, P.readableRec t = true ∧ t < P.types.size) → DataW.TrodAll enc P W 0 (fun _ => true) true ts vs ds ps → (∀ x ∈ ps, x.block < W.heap.size) →
    DataW.TrodAll enc P W' 0 (fun b => decide (b < W.heap.size)) true ts vs ds ps
  | [], [], [], ps, _, h, _ => h
  | t :: ts, v :: vs, d :: ds, ps, hr, h, hlt => by
    obtain ⟨p, q, h1, h2, rfl⟩ := h
    exact ⟨p, q, Below.trod hl (hr t (by simp)).1 (hr t (by simp)).2 h1 hb (fun x hx => hlt x (by simp [hx])), trodAll_below hl hb ts vs ds q (fun t ht => hr t (by simp [ht])) h2 (fun x hx => hlt x (by simp [hx])), rfl⟩
  | [], [], _ :: _, _, _, h, _ => h.elim
  | [], _ :: _, _, _, _, h, _ => h.elim
  | _ :: _, [], _, _, _, h, _ => h.elim
  | _ :: _, _ :: _, [], _, _, h, _ => h.elim
def rowsOk (P : Program) (f : Func) : Bool := f.params.toList.all fun t => P.readableRec t && Nat.blt t P.types.size
/-- the end of a law's proof: true, and nothing that was there has turned -/
theorem post_law {H : Type} {enc : TypeId × Value → H} {P : Program} {f : Func} {s : ChangeSpec} {W W' : World} {args : Array Value} {ds : List (DataW H)} {before : List MemPlace} {tb : TypeId}
    (hl : laidOutB P = true) (hrs : rowsOk P f = true) (hv : s.vars = []) (hW : DataW.Whole enc P f.params.toList s.vars false W args.toList ds [] before) (hb : Below W.heap.size W W')
    (hres : f.resultTypes = #[tb]) (hub : P.underlying tb = some .bool) (hfn : s.fn H (ds ++ []) = { results := [.lit (.bool true)], args := ds }) : s.post enc P f false true false false W args (.bool true) W' := by
  have hW' := hW
  obtain ⟨p, q, hA, hV, hpq, hfz, hnd⟩ := hW
  have hlt := hW'.lt
  refine ⟨ds, [], before, [], p, [], hW', ?_, ?_, ?_, hb.frame _, fun h => by cases h⟩
  · rw [hfn, hres]
    exact trodAll_mk1 (shut_bool hub true)
  · rw [hfn]
    have hrs' : ∀ t ∈ f.params.toList, P.readableRec t = true ∧ t < P.types.size := fun t ht => by
      have := List.all_eq_true.1 hrs t ht
      simpa [Nat.blt_eq] using this
    exact trodAll_below hl hb _ _ _ _ hrs' hA (fun x hx => hlt x (by rw [hpq]; simp [hx]))
  · rw [hfn, hv]
    rfl
/-- a law's walk, as the row wants it -/
theorem law_calls {P : Program} {f : FuncId} {args : Array Value} {W : World} (h : Tri P f args (all W) W fun r m => r = .bool true) :
    Calls P f args W fun e W' => e = .returned (.bool true) ∧ Below W.heap.size W W' :=
  Calls.mono h fun e W' ⟨v, he, m, hr, hO⟩ => ⟨by rw [he, hr], hO.below⟩
theorem wf_int {k : IntKind} {n : Int} (h : (Lit.int k n).wf = true) : k.min ≤ n ∧ n ≤ k.max := by simpa [Lit.wf] using h
theorem lit_u8 {n : Int} (h : (Lit.int .u8 n).wf = true) : 0 ≤ n ∧ n ≤ 255 := wf_int h
end Go.Hb
set_option linter.unusedVariables false
set_option linter.unusedSimpArgs false
namespace Go.Hb
open Go Go.RowKit Go.ChangeShapes Go.WideShapes Go.ChangeAt
/-- a slice that is read: rows of sz cells; Q tells of each row and what stands for it -/
structure ArgSl {H : Type} (k : Ctx) (sz : Nat) (Q : List Value → DataW H → Prop) (v : Value) (d : DataW H) (rows : List (List Value)) (ds : List (DataW H)) : Prop where
  shape : ∃ p cap, v = .slice p rows.length cap ∧ (rows ≠ [] → ∃ b o, p = some ⟨b, o, none⟩ ∧ Ro k ⟨b, o, none⟩ rows.flatten)
  len : ds.length = rows.length
  data : (d = .nil ∧ ds = []) ∨ ∃ rest, d = .slice ds rest
  row : ∀ r ∈ rows, r.length = sz
  each : ∀ (i : Nat) r x, rows[i]? = some r → ds[i]? = some x → Q r x
  room : ∀ p n cap, v = .slice p n cap → n ≤ cap
  max : rows.length ≤ 9223372036854775807
theorem mem_row {rows : List (List Value)} {sz : Nat} (h : ∀ r ∈ rows, r.length = sz) (j : Nat) (v : Value) (hj : rows.flatten[j]? = some v) : ∃ i x r, j = i * sz + x ∧ rows[i]? = some r ∧ r[x]? = some v := by
  induction rows generalizing j with
  | nil => simp at hj
  | cons r rows ih =>
    have hr : r.length = sz := h r (by simp)
    rw [List.flatten_cons] at hj
    by_cases hlt : j < sz
    · rw [List.getElem?_append_left (by omega)] at hj
      exact ⟨0, j, r, by omega, rfl, hj⟩
    · rw [List.getElem?_append_right (by omega), hr] at hj
      obtain ⟨i, x, r', h1, h2, h3⟩ := ih (fun r hm => h r (by simp [hm])) _ hj
      exact ⟨i + 1, x, r', by rw [Nat.add_mul]; omega, h2, h3⟩
theorem open_sl {H : Type} {enc : TypeId × Value → H} {P : Program} {W : World} {t e : TypeId} {sz bytes : Nat} {z : Value} [hu : Und P t (.slice e)] [he : Elt P e sz bytes z] {Q : List Value → DataW H → Prop} {fuel : Nat} {v : Value} {x : DataW H × List MemPlace} (hsz : 0 < sz)
    (hQ : ∀ fuel cs x, DataW.trod enc P W 0 (fun _ => true) true fuel e cs = some x → Q cs x.1) (h : DataW.trod enc P W 0 (fun _ => true) true fuel t [v] = some x) :
    ∃ rows ds, ArgSl (all W) sz Q v x.1 rows ds := by
  obtain ⟨i, hi, hi2, hi3, hi4⟩ := he.info
  have hc : P.cellsOf e = sz := by simp [Program.cellsOf, hi, hi2]
  rcases DataW.trod_slice hu.eq h with ⟨h0, rfl⟩ | ⟨a, len, cap, elems, rest, n, _, h0, rfl, hb, hl, hm, hlen, hel, hsp, hns⟩
  · obtain rfl : v = .slice none 0 0 := by simpa using h0
    exact ⟨[], [], ⟨⟨none, 0, rfl, fun h => absurd rfl h⟩, rfl, .inl ⟨rfl, rfl⟩, by simp, by simp, fun p n c h => (by cases h; exact Nat.le_refl _), by simp⟩⟩
  · obtain rfl : v = .slice (some a) len cap := by simpa using h0
    have key : ∀ j, j < len → ∃ cs y, W.cells? 0 (a.add (j * sz)) sz = some cs ∧ DataW.trod enc P W 0 (fun _ => true) true n e cs = some y ∧ elems[j]? = some y := by
      intro j hj
      have h1 := hel j hj
      rw [hc, List.getElem?_eq_getElem (by omega)] at h1
      obtain ⟨cs, h2, h3⟩ := Option.bind_eq_some_iff.1 h1
      exact ⟨cs, _, h2, h3, List.getElem?_eq_getElem (by omega)⟩
    let row : Nat → List Value := fun j => (W.cells? 0 (a.add (j * sz)) sz).getD []
    have hrow : ∀ j, j < len → ∃ y, W.cells? 0 (a.add (j * sz)) sz = some (row j) ∧ DataW.trod enc P W 0 (fun _ => true) true n e (row j) = some y ∧ elems[j]? = some y := by
      intro j hj
      obtain ⟨cs, y, h1, h2, h3⟩ := key j hj
      have : row j = cs := by simp [row, h1]
      exact ⟨y, by rw [this]; exact h1, by rw [this]; exact h2, h3⟩
    have hat : ∀ j r, ((List.range len).map row)[j]? = some r → j < len ∧ r = row j := by
      intro j r hj
      rw [List.getElem?_map, Option.map_eq_some_iff] at hj
      obtain ⟨q, h1, h2⟩ := hj
      have h3 := List.getElem?_eq_some_iff.1 h1
      obtain ⟨h4, h5⟩ := h3
      simp at h4 h5
      subst h5
      exact ⟨h4, h2.symm⟩
    have hl1 : ∀ r ∈ (List.range len).map row, r.length = sz := by
      intro r hr
      obtain ⟨j, hj⟩ := List.getElem?_of_mem hr
      obtain ⟨h1, rfl⟩ := hat j r hj
      obtain ⟨y, h2, _⟩ := hrow j h1
      exact (World.cells?_some h2).2.1
    refine ⟨(List.range len).map row, elems.map (·.1), ⟨some a, cap, by simp, fun hne => ?_⟩, by simp [hlen], .inr ⟨_, rfl⟩, hl1, ?_, fun p n c h => (by cases h; exact hl), by simp; have : cap ≤ 9223372036854775807 := hm; omega⟩
    · have h0 : 0 < len := by
        rcases Nat.eq_zero_or_pos len with h | h
        · subst h; simp at hne
        · exact h
      have hcell : ∀ j x, j < len → x < sz → W.cell? ((a.add (j * sz)).add x) = (row j)[x]? := fun j x hj hx => by
        obtain ⟨y, h2, _⟩ := hrow j hj
        exact (World.cells?_some h2).2.2 x hx
      have hspot : a.spot = none := by
        obtain ⟨y, h2, _⟩ := hrow 0 h0
        have h3 := hcell 0 0 h0 hsz
        have h4 := (World.cells?_some h2).2.1
        rw [List.getElem?_eq_getElem (by omega)] at h3
        cases hs : a.spot with
        | none => rfl
        | some q =>
          exfalso
          have h5 : ((a.add (0 * sz)).add 0).spot ≠ none := by
            unfold Addr.add
            simp [hs]
          unfold World.cell? at h3
          cases h6 : ((a.add (0 * sz)).add 0).spot with
          | none => exact h5 h6
          | some q' =>
            have h7 : ((a.add (0 * sz)).add 0).spot.isSome = true := by rw [h6]; rfl
            simp only [h7, if_true] at h3
            split at h3 <;> simp at h3
      obtain ⟨b, o, sp⟩ := a
      simp only at hspot
      subst hspot
      refine ⟨b, o, rfl, Ro.start W fun j v hv => ?_⟩
      obtain ⟨i', x', r, h1, h2, h3⟩ := mem_row hl1 j v hv
      obtain ⟨h4, rfl⟩ := hat i' r h2
      have hx : x' < sz := by
        have := (List.getElem?_eq_some_iff.1 h3).1
        rw [hl1 _ (List.mem_of_getElem? h2)] at this
        exact this
      have := hcell i' x' h4 hx
      rw [h3] at this
      rw [← this, h1, Addr.add_lit, Addr.add_lit, Addr.add_lit, Nat.add_assoc]
    · intro j r x hr hx
      obtain ⟨h1, rfl⟩ := hat j r hr
      obtain ⟨y, h2, h3, h4⟩ := hrow j h1
      rw [List.getElem?_map, h4] at hx
      simp at hx
      subst hx
      exact hQ _ _ _ h3
theorem open_slT {H : Type} {enc : TypeId × Value → H} {P : Program} {W : World} {t e : TypeId} {sz bytes : Nat} {z : Value} [hu : Und P t (.slice e)] [he : Elt P e sz bytes z] {Q : List Value → DataW H → Prop} {v : Value} {d : DataW H} {ps : List MemPlace} {r : Reach} {b0 : Nat}
    (hsz : 0 < sz) (hv : Value.okWide P W r b0 t v) (hQ : ∀ fuel cs x, DataW.trod enc P W 0 (fun _ => true) true fuel e cs = some x → Q cs x.1) (h : DataW.Trod enc P W 0 (fun _ => true) true t v d ps) :
    ∃ rows ds, ArgSl (all W) sz Q v d rows ds := by
  obtain ⟨fuel, h⟩ := h
  obtain ⟨a, l, c, rfl⟩ := okWide_slice hu.eq hv
  exact open_sl hsz hQ h
theorem ArgSl.all {H : Type} {k : Ctx} {sz : Nat} {Q : List Value → DataW H → Prop} {v : Value} {d : DataW H} {rows : List (List Value)} {ds : List (DataW H)} (A : ArgSl k sz Q v d rows ds) (r : List Value) (hr : r ∈ rows) : ∃ x ∈ ds, Q r x := by
  obtain ⟨i, hi⟩ := List.getElem?_of_mem hr
  have hlt := (List.getElem?_eq_some_iff.1 hi).1
  have hd : ds[i]? = some (ds[i]'(by rw [A.len]; exact hlt)) := List.getElem?_eq_getElem _
  exact ⟨_, List.mem_of_getElem? hd, A.each i r _ hi hd⟩
/-- an int that is read -/
def QInt {H : Type} (k : IntKind) (cs : List Value) (d : DataW H) : Prop := ∃ n, cs = [.int k n] ∧ d = .lit (.int k n) ∧ (Lit.int k n).wf = true
theorem q_int {H : Type} {enc : TypeId × Value → H} {P : Program} {W : World} {e : TypeId} {k : IntKind} [hu : Und P e (.int k)] (fuel : Nat) (cs : List Value) (x : DataW H × List MemPlace) (h : DataW.trod enc P W 0 (fun _ => true) true fuel e cs = some x) : QInt k cs x.1 := by
  obtain ⟨n, h1, rfl, h3⟩ := DataW.trod_int hu.eq h
  exact ⟨n, h1, rfl, h3⟩
end Go.Hb
set_option linter.unusedVariables false
set_option linter.unusedSimpArgs false
namespace Go.Hb
open Go Go.RowKit
def iv (kd : IntKind) (l : List Int) : List (List Value) := l.map fun x => [.int kd x]
theorem iv_length (kd : IntKind) (l : List Int) : (iv kd l).length = l.length := by simp [iv]
theorem rows_iv {kd : IntKind} {Q : Int → Prop} {rows : List (List Value)} (h : ∀ r ∈ rows, ∃ n : Int, r = [.int kd n] ∧ Q n) : ∃ l : List Int, rows = iv kd l ∧ ∀ x ∈ l, Q x := by
  induction rows with
  | nil => exact ⟨[], rfl, by simp⟩
  | cons r rows ih =>
    obtain ⟨l, rfl, hl⟩ := ih fun r hr => h r (by simp [hr])
    obtain ⟨n, rfl, hn⟩ := h r (by simp)
    exact ⟨n :: l, rfl, fun x hx => (List.mem_cons.1 hx).elim (fun e => e ▸ hn) (hl x)⟩
/-- v shows these rows; H tells what lies where -/
def Sli (H : Addr → List Value → Prop) (v : Value) (rows : List (List Value)) : Prop :=
  ∃ p cap, v = .slice p rows.length cap ∧ rows.length ≤ cap ∧ (rows ≠ [] → ∃ b o, p = some ⟨b, o, none⟩ ∧ H ⟨b, o, none⟩ rows.flatten)
theorem Sli.nil {H : Addr → List Value → Prop} {v : Value} {p : Option Addr} {c : Nat} (h : v = .slice p 0 c) : Sli H v [] := ⟨p, c, h, Nat.zero_le _, fun h => absurd rfl h⟩
theorem Sli.fits {H : Addr → List Value → Prop} {p : Option Addr} {n cap : Nat} {rows : List (List Value)} (h : Sli H (.slice p n cap) rows) : n = rows.length ∧ n ≤ cap := by
  obtain ⟨_, _, h1, h2, _⟩ := h
  simp only [Value.slice.injEq] at h1
  obtain ⟨_, h3, h4⟩ := h1
  omega
theorem Sli.mono {H H' : Addr → List Value → Prop} {v : Value} {rows : List (List Value)} (h : Sli H v rows) (hh : ∀ b o cs, H ⟨b, o, none⟩ cs → H' ⟨b, o, none⟩ cs) : Sli H' v rows := by
  obtain ⟨p, cap, h1, h2, h3⟩ := h
  exact ⟨p, cap, h1, h2, fun hne => by obtain ⟨b, o, h4, h5⟩ := h3 hne; exact ⟨b, o, h4, hh _ _ _ h5⟩⟩
theorem Sli.ext {k k' : Ctx} {w : World} {l : List HP} {v : Value} {rows : List (List Value)} (h : Sli (Ro k) v rows) (hO : Own k w l) (he : Ext k k' w) : Sli (Ro k') v rows := h.mono fun b o cs hh => hh.ext hO he
theorem Sli.holds {k : Ctx} {w : World} {l : List HP} {v : Value} {rows : List (List Value)} (h : Sli (Ro k) v rows) (hO : Own k w l) : Sli (Holds w) v rows := h.mono fun b o cs hh => hh.holds hO
theorem Sli.src {P : Program} {w : World} {v : Value} {rows : List (List Value)} {sz : Nat} (h : Sli (Holds w) v rows) (hr : ∀ r ∈ rows, r.length = sz) (h1 : ∀ r ∈ rows, ∀ v ∈ r, v.oneCell' = true) : Src P w sz v rows.length rows.flatten := by
  obtain ⟨p, cap, rfl, h2, h3⟩ := h
  cases rows with
  | nil =>
    cases p with
    | none => exact ⟨fun d => rfl, fun d => by simp [Builtin.firstCells], by simp, by simp⟩
    | some a => exact Src.slice (by simp) (fun j v h => by simp at h) (by simp)
  | cons r rows =>
    obtain ⟨b, o, rfl, hR⟩ := h3 (by simp)
    exact Src.slice (flatten_length hr) hR (fun v hv => by
      obtain ⟨r, hr1, hr2⟩ := List.mem_flatten.1 hv
      exact h1 r hr1 v hr2)
theorem ArgSl.sli {H : Type} {k : Ctx} {sz : Nat} {Q : List Value → DataW H → Prop} {v : Value} {d : DataW H} {rows : List (List Value)} {ds : List (DataW H)} (A : ArgSl k sz Q v d rows ds) : Sli (Ro k) v rows := by
  obtain ⟨p, cap, rfl, h⟩ := A.shape
  exact ⟨p, cap, rfl, A.room _ _ _ rfl, h⟩
/-- what H must allow -/
def Cuts (H : Addr → List Value → Prop) : Prop := ∀ b o cs cs' i, H ⟨b, o, none⟩ cs → (∀ j v, cs'[j]? = some v → cs[i + j]? = some v) → H ⟨b, o + i, none⟩ cs'
theorem cuts_holds (w : World) : Cuts (Holds w) := fun b o cs cs' i h hs j v hj => by
  have := h _ _ (hs j v hj)
  rw [Addr.add_lit] at this ⊢
  rw [Nat.add_assoc]; exact this
theorem Sli.get {H : Addr → List Value → Prop} (hH : Cuts H) {p : Option Addr} {n cap sz : Nat} {rows : List (List Value)} (hr : ∀ r ∈ rows, r.length = sz) (h : Sli H (.slice p n cap) rows) {i : Nat} {r : List Value} (hi : rows[i]? = some r) :
    ∃ b o, p = some ⟨b, o, none⟩ ∧ H ⟨b, o + (i * sz + 0), none⟩ r := by
  obtain ⟨p', cap', he, h2, h3⟩ := h
  cases he
  obtain ⟨b, o, rfl, h4⟩ := h3 (by rintro rfl; simp at hi)
  refine ⟨b, o, rfl, hH _ _ _ _ _ h4 fun j v hj => ?_⟩
  have hrl := hr r (List.mem_of_getElem? hi)
  have hlt : j < sz := by rw [← hrl]; exact (List.getElem?_eq_some_iff.1 hj).1
  rw [Nat.add_zero, flatten_get hr i j r hi hlt]
  exact hj
variable {P : Program} {ops : Array Oper} {Q : Exit → Act → World → Prop} {n : Nat} {ds : List Deferred} {E E' : Env} {w w' : World}
variable {rest : List Oper} {d : Option Tmp} {ty : TypeId} {pos : String} {aft : Array Edge} {g : Option (Nat × Bool)}
variable {k : Ctx} {l l' : List HP} {A A' : HP}
def bnd (x : Option Value) (dflt i : Nat) : Prop := match x with
  | none => i = dflt
  | some v => ∃ kd, ∃ z : Int, v = .int kd z ∧ z = (i : Int)
def bndE (E : Env) (x : Option Operand) (dflt i : Nat) : Prop := match x with
  | none => i = dflt
  | some x => ∃ kd, ∃ z : Int, ev E x = some (.int kd z) ∧ z = (i : Int)
theorem bnd_of {x : Option Operand} {dflt i : Nat} {a : Act} (ha : Fits n ds E a) (h : bndE E x dflt i) : bnd (x.map a.eval) dflt i := by
  cases x with
  | none => exact h
  | some x => obtain ⟨kd, z, h1, h2⟩ := h; exact ⟨kd, z, ha.eval h1, h2⟩
theorem run_bnd {y i : Nat} {kd : IntKind} {z : Int} {code : BoundsCode} (hz : z = (i : Int)) (h : i ≤ y) : (Instr.sliceBound (.int kd z) y code).run P w = .ok i w := by
  subst hz
  simp [Instr.sliceBound, asIntOf, h]
theorem run_bnds {lo hi mx : Option Value} {len cap i j m : Nat} (h1 : bnd lo 0 i) (h2 : bnd hi len j) (h3 : bnd mx cap m) (hmx : mx.isSome = true → hi.isSome = true) (hij : i ≤ j) (hjm : j ≤ m) (hm : m ≤ cap) :
    (Instr.sliceBounds true len cap lo hi mx).run P w = .ok (i, j, m) w := by
  cases lo with
  | none =>
    cases hi with
    | none =>
      cases mx with
      | none => simp only [bnd] at h1 h2 h3; subst h1 h2 h3; simp [Instr.sliceBounds]
      | some v => exact absurd (hmx rfl) (by simp)
    | some v =>
      obtain ⟨k2, z2, rfl, f2⟩ := h2
      cases mx with
      | none => simp only [bnd] at h1 h3; subst h1 h3; simp [Instr.sliceBounds, run_bnd f2 hjm]
      | some v => obtain ⟨k3, z3, rfl, f3⟩ := h3; simp only [bnd] at h1; subst h1; simp [Instr.sliceBounds, run_bnd f2 hjm, run_bnd f3 hm]
  | some v =>
    obtain ⟨k1, z1, rfl, f1⟩ := h1
    cases hi with
    | none =>
      cases mx with
      | none => simp only [bnd] at h2 h3; subst h2 h3; simp [Instr.sliceBounds, run_bnd f1 hij]
      | some v => exact absurd (hmx rfl) (by simp)
    | some v =>
      obtain ⟨k2, z2, rfl, f2⟩ := h2
      cases mx with
      | none => simp only [bnd] at h3; subst h3; simp [Instr.sliceBounds, run_bnd f1 hij, run_bnd f2 hjm]
      | some v => obtain ⟨k3, z3, rfl, f3⟩ := h3; simp [Instr.sliceBounds, run_bnd f1 hij, run_bnd f2 hjm, run_bnd f3 hm]
/-- x[lo:hi:max] of a slice -/
theorem y_part {t e : TypeId} {agg : Bool} {sz : Nat} [hu : Und P t (.slice e)] [hl : Lay P e agg sz] {x : Operand} {lo hi mx : Option Operand} {p : Option Addr} {len cap : Nat} (i j m : Nat)
    (hx : ev E x = some (.slice p len cap)) (h1 : bndE E lo 0 i) (h2 : bndE E hi len j) (h3 : bndE E mx cap m) (hmx : mx.isSome = true → hi.isSome = true) (hij : i ≤ j) (hjm : j ≤ m) (hm : m ≤ cap) :
    Yld P n ds E w ⟨d, .slice t x lo hi mx, ty, pos, aft, g⟩ (.slice (if m = i then p else p.map (·.add (i * sz))) (j - i) (m - i)) := by
  constructor
  intro a ha
  have hb := run_bnds (P := P) (w := w) (bnd_of ha h1) (bnd_of ha h2) (bnd_of ha h3) (by simpa using hmx) hij hjm hm
  simp [execOp, ha.eval hx, Instr.sliceAt, Instr.slice, run_underlying hu.eq, hb, hl.size]
theorem made_rows {z : Value} {sz : Nat} (hz : z.cells.size = sz) (c : Nat) : (madeCells z.cells (c * sz)).toList = (List.replicate c z.cells.toList).flatten := by
  apply List.ext_getElem?
  intro j
  by_cases hs : sz = 0
  · have h0 : z.cells.toList = [] := by apply List.eq_nil_of_length_eq_zero; simp [hz, hs]
    subst hs
    simp [madeCells, h0, Array.range_zero']
  have hrl : ∀ r ∈ List.replicate c z.cells.toList, r.length = sz := by intro r hr; rw [(List.mem_replicate.1 hr).2]; simpa using hz
  by_cases hj : j < c * sz
  · have hd := Nat.div_add_mod j sz
    have hq : j / sz < c := Nat.div_lt_of_lt_mul (by rw [Nat.mul_comm]; exact hj)
    have hm : j % sz < sz := Nat.mod_lt _ (by omega)
    have h1 : (List.replicate c z.cells.toList)[j / sz]? = some z.cells.toList := by simp [hq]
    have h2 := flatten_get hrl (j / sz) (j % sz) _ h1 hm
    rw [show j / sz * sz + j % sz = j by rw [Nat.mul_comm]; exact hd] at h2
    rw [h2]
    simp [madeCells, hj, hz, hm]
  · rw [List.getElem?_eq_none (by simp [madeCells]; omega), List.getElem?_eq_none (by rw [flatten_length hrl]; simp; omega)]
theorem s_make {t T : TypeId} {sz bytes : Nat} {z : Value} [hu : Und P t (.slice T)] [he : Elt P T sz bytes z] {x y : Operand} {m c : Nat} {kl kc : IntKind} {zl zc : Int} (hO : Own k w l) (hg : gd ops E g = some true) (hd : dok n d = true)
    (hx : ev E x = some (.int kl zl)) (hy : ev E y = some (.int kc zc)) (hzl : zl = (m : Int)) (hzc : zc = (c : Int)) (hmc : m ≤ c) (hby : bytes * c ≤ 281474976710656) (h63 : c ≤ maxLen)
    (h : ∀ b w', Own k w' (sl (.slice (some ⟨b, 0, none⟩) m c) T sz (List.replicate m z.cells.toList) :: l) → LW P ops Q n ds rest (E.put d (.slice (some ⟨b, 0, none⟩) m c)) w') : LW P ops Q n ds (⟨d, .makeSlice t x y, ty, pos, aft, g⟩ :: rest) E w := by
  obtain ⟨i, hi, hi2, hi3, hi4⟩ := he.info
  subst hzl hzc
  have h63' : (c : Int) ≤ 9223372036854775807 := by have : c ≤ 9223372036854775807 := h63; omega
  have hr := run_make (P := P) w t T i z hu.eq hi hi4 kl kc (m : Int) (c : Int) (by omega) (by omega) (by rw [hi3]; have : bytes * c ≤ 281474976710656 := hby; exact Int.ofNat_le.2 this) h63'
  rw [hi2] at hr
  simp only [Int.toNat_natCast] at hr
  refine l_val (o := ⟨d, .makeSlice t x y, ty, pos, aft, g⟩) hg hd (fun a ha => ?_) (h w.heap.size _ ?_) (w' := w.alloc (.cells (madeCells z.cells (c * sz)) T))
  · simp [execOp, ha.eval hx, ha.eval hy, hr]
  · refine hO.alloc _ (.inr ⟨w.heap.size, 0, c, by simp, [], (List.replicate (c - m) z.cells.toList).flatten, rfl, ?_, ?_, ?_, h63, ?_⟩)
    · intro r hr; rw [(List.mem_replicate.1 hr).2]; simpa using he.cells
    · rw [flatten_length (sz := sz) (by intro r hr; rw [(List.mem_replicate.1 hr).2]; simpa using he.cells)]
      simp only [List.length_replicate]
      rw [← Nat.add_mul]; exact Nat.mul_le_mul_right _ (by omega)
    · simp; omega
    · have := made_rows he.cells c
      simp only [one, if_true, Option.some.injEq, Obj.cells.injEq, and_true, List.nil_append]
      apply Array.ext'
      rw [this]
      simp only [List.toList_toArray]
      rw [← List.flatten_append, List.replicate_append_replicate]
      congr 2; omega
theorem splice_rows {sz : Nat} {rows news : List (List Value)} (hr : ∀ r ∈ rows, r.length = sz) (hn : ∀ r ∈ news, r.length = sz) (i : Nat) (hi : i + news.length ≤ rows.length) :
    splice rows.flatten (i * sz) news.flatten = (rows.take i ++ news ++ rows.drop (i + news.length)).flatten := by
  have e1 : rows.flatten.take (i * sz) = (rows.take i).flatten := by
    have h1 : (rows.take i).flatten.length = i * sz := by
      rw [flatten_length (fun r h => hr r (List.mem_of_mem_take h)), List.length_take]; congr 1; omega
    conv => lhs; rw [← List.take_append_drop i rows, List.flatten_append]
    rw [← h1, List.take_left]
  have e2 : ∀ q, q ≤ rows.length → rows.flatten.drop (q * sz) = (rows.drop q).flatten := by
    intro q hq
    have h1 : (rows.take q).flatten.length = q * sz := by
      rw [flatten_length (fun r h => hr r (List.mem_of_mem_take h)), List.length_take]; congr 1; omega
    conv => lhs; rw [← List.take_append_drop q rows, List.flatten_append]
    rw [← h1, List.drop_left]
  unfold splice
  rw [e1, flatten_length hn, ← Nat.add_mul, e2 _ hi]
  simp
theorem Upd.ofRows {b o cap i : Nat} {T : TypeId} {sz : Nat} {rows news : List (List Value)} (hn : ∀ r ∈ news, r.length = sz) (hi : i + news.length ≤ rows.length) :
    Upd (arr b o cap T sz rows) b (o + i * sz) news.flatten (arr b o cap T sz (rows.take i ++ news ++ rows.drop (i + news.length))) := by
  refine ⟨fun h ⟨pre, spare, _, _, _, _, _, hb⟩ => ⟨_, hb⟩, fun h hA => ?_⟩
  obtain ⟨pre, spare, h1, h2, h3, h4, h5, hb⟩ := hA
  have hfl := flatten_length h2
  have hnl := flatten_length hn
  have hmul : (i + news.length) * sz ≤ rows.length * sz := Nat.mul_le_mul_right _ hi
  rw [Nat.add_mul] at hmul
  refine ⟨_, T, hb, by simp [hfl, hnl]; omega, pre, spare, h1, ?_, ?_, ?_, h5, ?_⟩
  · intro r hr
    simp only [List.mem_append] at hr
    rcases hr with (hr | hr) | hr
    · exact h2 r (List.mem_of_mem_take hr)
    · exact hn r hr
    · exact h2 r (List.mem_of_mem_drop hr)
  · rw [show (rows.take i ++ news ++ rows.drop (i + news.length)).length = rows.length by simp; omega]; exact h3
  · rw [show (rows.take i ++ news ++ rows.drop (i + news.length)).length = rows.length by simp; omega]; exact h4
  · simp only [if_true]
    rw [← h1, splice_mid _ _ _ _ _ (by rw [hfl, hnl]; omega), splice_rows h2 hn i hi]
/-- copy into a part of what is owned; what is copied fits -/
theorem s_copy {t u e : TypeId} {agg : Bool} {sz : Nat} [hu : Und P t (.slice e)] [hl : Lay P e agg sz] {T : TypeId} {x y : Operand} {b o cap i dl dc : Nat} {p : Option Addr} {vy : Value} {rows news : List (List Value)} (hO : Own k w l) (hp : Pull l (arr b o cap T sz rows) l') (hg : gd ops E g = some true) (hd : dok n d = true)
    (hx : ev E x = some (.slice p dl dc)) (hy : ev E y = some vy) (hs : Src P w sz vy news.length news.flatten) (hn : ∀ r ∈ news, r.length = sz) (hlen : news.length ≤ dl) (hi : i + news.length ≤ rows.length) (hat : news ≠ [] → p = some ⟨b, o + i * sz, none⟩)
    (h : ∀ w', Own k w' (arr b o cap T sz (rows.take i ++ news ++ rows.drop (i + news.length)) :: l') → LW P ops Q n ds rest (E.put d (.int .i64 news.length)) w') : LW P ops Q n ds (⟨d, .call ⟨.builtin .copy, #[x, y], #[t, u]⟩, ty, pos, aft, g⟩ :: rest) E w := by
  have hlen2 : Nat.min news.length dl = news.length := Nat.min_eq_left hlen
  have hO1 := hO.pull hp
  have hL := hs.len w.drawn
  have hC := hs.cells w.drawn
  by_cases hne : news = []
  · subst hne
    have hr : (Builtin.copy_ #[t, u] ty #[.slice p dl dc, vy]).run P w = .ok (.int .i64 0) w := by
      cases p <;> simp [Builtin.copy_, run_underlying hu.eq, hL, hl.size, storeCells] <;> simp at hC <;> simp [hC, storeCells, goInt]
    refine l_val (o := ⟨d, .call ⟨.builtin .copy, #[x, y], #[t, u]⟩, ty, pos, aft, g⟩) hg hd (fun a ha => ?_) (h w (by simpa using hO1))
    simp [execOp, resolve, ha.eval hx, ha.eval hy, invoke, builtin, hr]
  · obtain rfl := hat hne
    obtain ⟨w', hst, hO2⟩ := hO1.store (P := P) (.hd _ _ _) (Upd.ofRows (i := i) hn hi) hs.one
    have hr : (Builtin.copy_ #[t, u] ty #[.slice (some ⟨b, o + i * sz, none⟩) dl dc, vy]).run P w = .ok (.int .i64 news.length) w' := by
      simp [Builtin.copy_, run_underlying hu.eq, hL, hl.size, hlen2, hC, hst, goInt]
    refine l_val (o := ⟨d, .call ⟨.builtin .copy, #[x, y], #[t, u]⟩, ty, pos, aft, g⟩) hg hd (fun a ha => ?_) (h w' hO2)
    simp [execOp, resolve, ha.eval hx, ha.eval hy, invoke, builtin, hr]
end Go.Hb
set_option linter.unusedVariables false
set_option linter.unusedSimpArgs false
namespace Go.Hb
open Go Go.RowKit Go.ChangeShapes Go.WideShapes Go.ChangeAt
/-- how a type is read: the fuel does not matter -/
def Reads {H : Type} (enc : TypeId × Value → H) (P : Program) (W : World) (e : TypeId) (Q : List Value → DataW H → Prop) : Prop := ∀ fuel cs x, DataW.trod enc P W 0 (fun _ => true) true fuel e cs = some x → Q cs x.1
theorem r_int {H : Type} {enc : TypeId × Value → H} {P : Program} {W : World} {e : TypeId} {k : IntKind} [hu : Und P e (.int k)] : Reads enc P W e (QInt k) := q_int
end Go.Hb
set_option linter.unusedVariables false
set_option linter.unusedSimpArgs false
namespace Go.Hb
open Go Go.RowKit
section
variable {P : Program} {md : Region.Mode} {ops : Array Oper} {Q : Exit → Act → World → Prop} {S : World → Prop}
/-- operation c waits for operation i -/
def waits (md : Region.Mode) (ops : Array Oper) (c i : Nat) : Bool := match ops[c]? with
  | some o => o.after.toList.any fun e => Region.binds md e && Nat.beq e.on i
  | none => false
end
section
variable {P : Program} {ops : Array Oper} {Q : Exit → Act → World → Prop} {n : Nat} {ds : List Deferred} {E E' : Env} {w w' : World} {S : World → Prop} {rest : List Oper}
/-- one operation, of a region in which only it may come up -/
theorem op_of {lo : List Oper} {i : Nat} {o : Oper} {K : Env → World → Prop} {K' : Act → World → Prop} (hi : nthO lo i = some o) (h : OW P lo.toArray Q n ds o K E w) (hK : ∀ E' a w, Fits n ds E' a → K E' w → K' a w) {a : Act} (ha : Fits n ds E a) : wpOp P lo.toArray Q i K' a w := by
  have := h a ha
  unfold wpOp
  rw [show lo.toArray[i]? = some o from by simpa [nthO_eq] using hi]
  simp only [wpList] at this ⊢
  split at this
  · rename_i hw
    rw [if_pos hw]
    rcases this with h1 | ⟨_, _, _, h1⟩
    · left
      unfold Oper.wp Oper.upon at *
      revert h1
      generalize (execOp a.eval o).run P w = r
      intro h1
      cases r with
      | ok x w1 =>
        cases x <;> simp only [LetsOut] at h1 ⊢ <;> first
          | (obtain ⟨E', hf, hk⟩ := h1; exact hK _ _ _ hf hk)
          | (refine Calls.mono h1 fun e w2 he => ?_
             cases e <;> simp only at he ⊢ <;> first
               | (obtain ⟨E', hf, hk⟩ := he; exact hK _ _ _ hf hk)
               | exact he.elim
               | (obtain ⟨_, _, he⟩ := he; exact he.elim))
          | (refine Rows.mono h1 fun v w2 he => ?_
             obtain ⟨E', hf, hk⟩ := he
             exact hK _ _ _ hf hk)
          | exact h1.elim
      | halt x w1 => cases x <;> exact h1.elim
    · exact h1.elim
  · rename_i hw
    rw [if_neg hw]
    obtain ⟨E', hf, hk⟩ := this
    exact hK _ _ _ hf hk
end
section
variable {P : Program} {md : Region.Mode} {ops : Array Oper} {Q : Exit → Act → World → Prop} {S S2 : World → Prop} {n : Nat} {ds : List Deferred} {E : Env} {w : World}
end
theorem part0 {p : Option Addr} {m sz : Nat} : (if m = 0 then p else p.map (·.add (0 * sz))) = p := by
  split
  · rfl
  · cases p with
    | none => rfl
    | some a => simp [Addr.add]
section
variable {P : Program} {ops : Array Oper} {Q : Exit → Act → World → Prop} {n : Nat} {ds : List Deferred} {E E' : Env} {w w' : World}
variable {rest : List Oper} {d : Option Tmp} {ty : TypeId} {pos : String} {aft : Array Edge} {g : Option (Nat × Bool)}
variable {k : Ctx} {l l' : List HP} {A A' : HP}
/-- x[:hi] -/
theorem y_head {t e : TypeId} {agg : Bool} {sz : Nat} [hu : Und P t (.slice e)] [hl : Lay P e agg sz] {x hi : Operand} {p : Option Addr} {len cap : Nat} {kd : IntKind} {z : Int} (j : Nat)
    (hx : ev E x = some (.slice p len cap)) (hh : ev E hi = some (.int kd z)) (hz : z = (j : Int)) (hj : j ≤ cap) : Yld P n ds E w ⟨d, .slice t x none (some hi) none, ty, pos, aft, g⟩ (.slice p j cap) := by
  have := y_part (P := P) (n := n) (ds := ds) (E := E) (w := w) (d := d) (ty := ty) (pos := pos) (aft := aft) (g := g) (t := t) (lo := none) (hi := some hi) (mx := none) 0 j cap hx rfl ⟨kd, z, hh, hz⟩ rfl (fun _ => rfl) (Nat.zero_le _) hj (Nat.le_refl _)
  rwa [part0] at this
/-- x[:hi:max] -/
theorem y_head3 {t e : TypeId} {agg : Bool} {sz : Nat} [hu : Und P t (.slice e)] [hl : Lay P e agg sz] {x hi mx : Operand} {p : Option Addr} {len cap : Nat} {kd kd' : IntKind} {z z' : Int} (j m : Nat)
    (hx : ev E x = some (.slice p len cap)) (hh : ev E hi = some (.int kd z)) (hz : z = (j : Int)) (hh' : ev E mx = some (.int kd' z')) (hz' : z' = (m : Int)) (hj : j ≤ m) (hm : m ≤ cap) : Yld P n ds E w ⟨d, .slice t x none (some hi) (some mx), ty, pos, aft, g⟩ (.slice p j m) := by
  have := y_part (P := P) (n := n) (ds := ds) (E := E) (w := w) (d := d) (ty := ty) (pos := pos) (aft := aft) (g := g) (t := t) (lo := none) (hi := some hi) (mx := some mx) 0 j m hx rfl ⟨kd, z, hh, hz⟩ ⟨kd', z', hh', hz'⟩ (fun _ => rfl) (Nat.zero_le _) hj hm
  rwa [part0] at this
end
theorem three {α : Type} (z A B C : List α) (h : z.length = A.length + B.length + C.length) :
    (((z.take 0 ++ A ++ z.drop (0 + A.length)).take A.length ++ B ++ (z.take 0 ++ A ++ z.drop (0 + A.length)).drop (A.length + B.length)).take (A.length + B.length) ++ C ++ ((z.take 0 ++ A ++ z.drop (0 + A.length)).take A.length ++ B ++ (z.take 0 ++ A ++ z.drop (0 + A.length)).drop (A.length + B.length)).drop (A.length + B.length + C.length)) = A ++ B ++ C := by
  simp only [List.take_zero, List.nil_append, Nat.zero_add, List.take_left]
  rw [show A.length + B.length = (A ++ B).length by simp, List.take_left, List.drop_append, List.drop_append]
  rw [List.drop_of_length_le (by simp; omega), List.nil_append, List.drop_of_length_le (by simp [h]; omega)]
  simp [h]
end Go.Hb
set_option linter.unusedVariables false
namespace Go.Hb
open Go Go.RowKit
section
variable {P : Program} {ops : Array Oper} {Q : Exit → Act → World → Prop} {n : Nat} {ds : List Deferred} {E E' : Env} {w w' : World}
variable {rest : List Oper} {d : Option Tmp} {ty : TypeId} {pos : String} {aft : Array Edge} {g : Option (Nat × Bool)}
theorem K0 {x y : Code} (h : CW P (Exit.then (y.wp P Q) Q) n ds x E w) : CW P Q n ds (.seq x y) E w := c_seq h
theorem K1 {id : Nat} {l : List Oper} (h : LW P l.toArray Q n ds l E w) : CW P Q n ds (.region id l.toArray false) E w := c_region h
theorem K2 (h : QW Q n ds .normal E w) : LW P ops Q n ds [] E w := l_nil h
theorem K3 {y : Code} (h : CW P Q n ds y E w) : QW (Exit.then (y.wp P Q) Q) n ds .normal E w := q_normal h
theorem K4 {id : Nat} {c : Code} (h : CW P (Exit.inBlock id Q) n ds c E w) : CW P Q n ds (.block id c) E w := c_block h
theorem K5 (h : QW Q n ds .normal E w) : CW P Q n ds .skip E w := c_skip h
theorem K6 (h : QW Q n ds .ret E w) : CW P Q n ds .ret E w := c_ret h
theorem K7 {id : Nat} (h : QW Q n ds (.exit id) E w) : CW P Q n ds (.exit id) E w := c_exit h
theorem K8 {id : Nat} (h : QW Q n ds .normal E w) : QW (Exit.inBlock id Q) n ds .normal E w := qb_normal h
theorem K9 {K : Act → World → Prop} (h : QW Q n ds .ret E w) : QW (Exit.then K Q) n ds .ret E w := q_ret h
theorem L0 {id : Nat} (h : QW Q n ds .ret E w) : QW (Exit.inBlock id Q) n ds .ret E w := qb_ret h
theorem L1 {K : Act → World → Prop} {id : Nat} (h : QW Q n ds (.exit id) E w) : QW (Exit.then K Q) n ds (.exit id) E w := q_exit h
theorem L2 {id : Nat} (h : QW Q n ds .normal E w) : QW (Exit.inBlock id Q) n ds (.exit id) E w := qb_here h
theorem L4 (h : QW Q n ds .ret E w) : QW (Exit.noGoto Q) n ds .ret E w := qs_ret h
theorem L5 {l : Nat} (h : QW Q n ds .normal E w) : CW P Q n ds (.label l) E w := c_label h
theorem L6 {c : Code} (h : CW P (Exit.noGoto Q) n ds c E w) : CW P Q n ds (.scope c) E w := c_scope h
theorem L7 {id id' : Nat} (h : QW Q n ds (.exit id') E w) (hne : Nat.beq id' id = false := by rfl) : QW (Exit.inBlock id Q) n ds (.exit id') E w := qb_other hne h
theorem L8 {c : Operand} {x y : Code} (h : CW P Q n ds x E w) (hc : ev E c = some (.bool true) := by rfl) : CW P Q n ds (.cond c x y) E w := c_true hc h
theorem L9 {c : Operand} {x y : Code} (h : CW P Q n ds y E w) (hc : ev E c = some (.bool false) := by rfl) : CW P Q n ds (.cond c x y) E w := c_false hc h
theorem M0 {x : Operand} {v : Value} (h : LW P ops Q n ds rest (E.put d v) w) (hg : gd ops E g = some true := by rfl) (hd : dok n d = true := by rfl) (hx : ev E x = some v := by rfl) :
    LW P ops Q n ds (⟨d, .move x, ty, pos, aft, g⟩ :: rest) E w := s_move hg hd hx h
theorem M2 {o : Oper} (h : LW P ops Q n ds rest (E.put o.dst undef) w) (hg : gd ops E o.guard = some false := by rfl) (hd : dok n o.dst = true := by rfl) : LW P ops Q n ds (o :: rest) E w := l_pass hg hd h
theorem M3 {c x y : Operand} {v : Value} (h : LW P ops Q n ds rest (E.put d v) w) (hg : gd ops E g = some true := by rfl) (hd : dok n d = true := by rfl) (hc : ev E c = some (.bool true) := by rfl) (hx : ev E x = some v := by rfl) :
    LW P ops Q n ds (⟨d, .pick c x y, ty, pos, aft, g⟩ :: rest) E w := s_pick_t hg hd hc hx h
theorem N2 {op : BinOp} {t u : TypeId} {x y : Operand} {k : IntKind} {a b : Int} {p : Prop} [Decidable p] (h : LW P ops Q n ds rest (E.put d (.bool true)) w) (hg : gd ops E g = some true := by rfl) (hd : dok n d = true := by rfl) (hx : ev E x = some (.int k a) := by rfl) (hy : ev E y = some (.int k b) := by rfl)
    (hr : cmpI op a b = some (decide p) := by rfl) (hp : p := by omega) : LW P ops Q n ds (⟨d, .binOp op t x y u, ty, pos, aft, g⟩ :: rest) E w := s_cmpI hg hd hx hy (hr.trans (congrArg some (decide_eq_true hp))) h
theorem N3 {op : BinOp} {t u : TypeId} {x y : Operand} {k : IntKind} {a b : Int} {p : Prop} [Decidable p] (h : LW P ops Q n ds rest (E.put d (.bool false)) w) (hg : gd ops E g = some true := by rfl) (hd : dok n d = true := by rfl) (hx : ev E x = some (.int k a) := by rfl) (hy : ev E y = some (.int k b) := by rfl)
    (hr : cmpI op a b = some (decide p) := by rfl) (hp : ¬ p := by omega) : LW P ops Q n ds (⟨d, .binOp op t x y u, ty, pos, aft, g⟩ :: rest) E w := s_cmpI hg hd hx hy (hr.trans (congrArg some (decide_eq_false hp))) h
theorem N4 {op : BinOp} {t u : TypeId} {x y : Operand} {k : IntKind} {a b : Int} {p : Prop} [Decidable p] (h : LW P ops Q n ds rest (E.put d (.bool false)) w) (hg : gd ops E g = some true := by rfl) (hd : dok n d = true := by rfl) (hx : ev E x = some (.int k a) := by rfl) (hy : ev E y = some (.int k b) := by rfl)
    (hr : cmpI op a b = some (!decide p) := by rfl) (hp : p := by omega) : LW P ops Q n ds (⟨d, .binOp op t x y u, ty, pos, aft, g⟩ :: rest) E w := s_cmpI hg hd hx hy (hr.trans (congrArg (fun b => some (!b)) (decide_eq_true hp))) h
theorem R0 {t u : TypeId} [hu : Und P t .bool] {x y : Operand} {a b c : Bool} (h : LW P ops Q n ds rest (E.put d (.bool c)) w) (hg : gd ops E g = some true := by rfl) (hd : dok n d = true := by rfl) (hx : ev E x = some (.bool a) := by rfl) (hy : ev E y = some (.bool b) := by rfl)
    (hc : (a == b) = c := by rfl) : LW P ops Q n ds (⟨d, .binOp .eql t x y u, ty, pos, aft, g⟩ :: rest) E w := s_eqB hg hd hx hy hc h
theorem Z0 {op : BinOp} {t u : TypeId} {x y : Operand} {k : IntKind} {a b : Int} {p : Prop} [Decidable p] (h1 : p → LW P ops Q n ds rest (E.put d (.bool true)) w) (h2 : ¬ p → LW P ops Q n ds rest (E.put d (.bool false)) w) (hg : gd ops E g = some true := by rfl) (hd : dok n d = true := by rfl) (hx : ev E x = some (.int k a) := by rfl) (hy : ev E y = some (.int k b) := by rfl)
    (hr : cmpI op a b = some (decide p) := by rfl) : LW P ops Q n ds (⟨d, .binOp op t x y u, ty, pos, aft, g⟩ :: rest) E w := s_cmpI_split hg hd hx hy hr h1 h2
theorem Z1 {op : BinOp} {t u : TypeId} {x y : Operand} {k : IntKind} {a b : Int} {p : Prop} [Decidable p] (h1 : ¬ p → LW P ops Q n ds rest (E.put d (.bool true)) w) (h2 : p → LW P ops Q n ds rest (E.put d (.bool false)) w) (hg : gd ops E g = some true := by rfl) (hd : dok n d = true := by rfl) (hx : ev E x = some (.int k a) := by rfl) (hy : ev E y = some (.int k b) := by rfl)
    (hr : cmpI op a b = some (!decide p) := by rfl) : LW P ops Q n ds (⟨d, .binOp op t x y u, ty, pos, aft, g⟩ :: rest) E w := s_cmpI_splitn hg hd hx hy hr h1 h2
theorem Z2 {t u : TypeId} {x y : Operand} {a b : ByteArray} (h1 : a = b → LW P ops Q n ds rest (E.put d (.bool true)) w) (h2 : a ≠ b → LW P ops Q n ds rest (E.put d (.bool false)) w) (hg : gd ops E g = some true := by rfl) (hd : dok n d = true := by rfl) (hx : ev E x = some (.string a) := by rfl) (hy : ev E y = some (.string b) := by rfl) :
    LW P ops Q n ds (⟨d, .binOp .eql t x y u, ty, pos, aft, g⟩ :: rest) E w := s_eqS_split hg hd hx hy h1 h2
theorem Z3 {t u : TypeId} {x y : Operand} {a b : ByteArray} (h1 : a ≠ b → LW P ops Q n ds rest (E.put d (.bool true)) w) (h2 : a = b → LW P ops Q n ds rest (E.put d (.bool false)) w) (hg : gd ops E g = some true := by rfl) (hd : dok n d = true := by rfl) (hx : ev E x = some (.string a) := by rfl) (hy : ev E y = some (.string b) := by rfl) :
    LW P ops Q n ds (⟨d, .binOp .neq t x y u, ty, pos, aft, g⟩ :: rest) E w := s_neS_split hg hd hx hy h1 h2
theorem D0 {op : BinOp} {t u : TypeId} {x y : Operand} {k : IntKind} {a b : Int} {p : Prop} [Decidable p] (hx : ev E x = some (.int k a) := by rfl) (hy : ev E y = some (.int k b) := by rfl) (hr : cmpI op a b = some (decide p) := by rfl) (hp : p := by omega) :
    Yld P n ds E w ⟨d, .binOp op t x y u, ty, pos, aft, g⟩ (.bool true) := y_cmpI hx hy (hr.trans (congrArg some (decide_eq_true hp)))
theorem D1 {op : BinOp} {t u : TypeId} {x y : Operand} {k : IntKind} {a b : Int} {p : Prop} [Decidable p] (hx : ev E x = some (.int k a) := by rfl) (hy : ev E y = some (.int k b) := by rfl) (hr : cmpI op a b = some (decide p) := by rfl) (hp : ¬ p := by omega) :
    Yld P n ds E w ⟨d, .binOp op t x y u, ty, pos, aft, g⟩ (.bool false) := y_cmpI hx hy (hr.trans (congrArg some (decide_eq_false hp)))
theorem D4 {op : BinOp} {t u : TypeId} {x y : Operand} {a b r : Int} (hx : ev E x = some (.int .i64 a) := by rfl) (hy : ev E y = some (.int .i64 b) := by rfl) (hr : arith op a b = some r := by rfl) (h1 : -9223372036854775808 ≤ r := by omega) (h2 : r ≤ 9223372036854775807 := by omega) :
    Yld P n ds E w ⟨d, .binOp op t x y u, ty, pos, aft, g⟩ (.int .i64 r) := y_arith hx hy hr (w64 h1 h2)
theorem D5 {k : Ctx} {l : List HP} {t : TypeId} {x : Operand} {b o : Nat} {T : TypeId} {vs : List Value} {v : Value} {L : HP → List HP} (hO : Own k w l) (hx : ev E x = some (.pointer (some ⟨b, o, none⟩))) [hl : Lay P t false 1] [ha : AtB l b T vs L] (hv : vs[o]? = some v := by rfl) :
    Yld P n ds E w ⟨d, .load t x, ty, pos, aft, g⟩ v := by
  obtain ⟨m, hm⟩ := ha.self
  exact y_load1 hx (hO.holds hm (.ofBlk1 hv))
theorem D7 {s t : TypeId} {dd : TypeDesc} {kd' : IntKind} [hs : Und P s dd] [ht : Und P t (.int .i64)] {x : Operand} {i : Int} (hx : ev E x = some (.int kd' i) := by rfl) (h1 : -9223372036854775808 ≤ i := by omega) (h2 : i ≤ 9223372036854775807 := by omega) :
    Yld P n ds E w ⟨d, .convert s t x, ty, pos, aft, g⟩ (.int .i64 i) := y_convI hx (w64 h1 h2)
theorem D8 {k : Ctx} {l : List HP} {t : TypeId} {m : Nat} {x : Operand} {b o : Nat} {T : TypeId} {vs cs : List Value} {L : HP → List HP} (hO : Own k w l) (hx : ev E x = some (.pointer (some ⟨b, o, none⟩))) [hl : Lay P t true m] [ha : AtB l b T vs L] (hv : (vs.drop o).take m = cs := by rfl) (hm : cs.length = m := by rfl) :
    Yld P n ds E w ⟨d, .load t x, ty, pos, aft, g⟩ (.agg cs.toArray) := by
  obtain ⟨q, hq⟩ := ha.self
  exact y_loadA hx hm (hO.holds hq (.ofBlkA m hv))
end
end Go.Hb
end
section
set_option linter.unusedVariables false
set_option linter.unusedSimpArgs false
namespace Go.Hb
open Go Go.RowKit
def at_ {α : Type} [Inhabited α] (xs : List α) (i : Nat) : α := xs.getD i default
section
variable {α β : Type} [Inhabited α] [Inhabited β]
theorem at_get {xs : List α} {i : Nat} (h : i < xs.length) : xs[i]? = some (at_ xs i) := by
  simp [at_, List.getD_eq_getElem?_getD, List.getElem?_eq_getElem h]
theorem at_eq {xs : List α} {i : Nat} {x : α} (h : xs[i]? = some x) : at_ xs i = x := by
  simp [at_, List.getD_eq_getElem?_getD, h]
theorem at_mem {xs : List α} {i : Nat} (h : i < xs.length) : at_ xs i ∈ xs := List.mem_of_getElem? (at_get h)
theorem at_set_eq {xs : List α} {i : Nat} (h : i < xs.length) (x : α) : at_ (xs.set i x) i = x := at_eq (by simp [h])
theorem at_set_ne {xs : List α} {i j : Nat} (h : i ≠ j) (x : α) : at_ (xs.set i x) j = at_ xs j := by
  simp [at_, List.getD_eq_getElem?_getD, List.getElem?_set_ne h]
theorem at_set {xs : List α} {i j : Nat} (h : i < xs.length) (x : α) : at_ (xs.set i x) j = if i = j then x else at_ xs j := by
  by_cases e : i = j
  · subst e; rw [if_pos rfl, at_set_eq h]
  · rw [if_neg e, at_set_ne e]
theorem at_app_l {xs ys : List α} {i : Nat} (h : i < xs.length) : at_ (xs ++ ys) i = at_ xs i := by
  simp [at_, List.getD_eq_getElem?_getD, List.getElem?_append_left h]
theorem at_app_r {xs ys : List α} {i : Nat} (h : xs.length ≤ i) : at_ (xs ++ ys) i = at_ ys (i - xs.length) := by
  simp [at_, List.getD_eq_getElem?_getD, List.getElem?_append_right h]
theorem at_app_new {xs : List α} {x : α} : at_ (xs ++ [x]) xs.length = x := at_eq (by simp)
theorem at_take {xs : List α} {i j : Nat} (h : j < i) : at_ (xs.take i) j = at_ xs j := by simp [at_, List.getD_eq_getElem?_getD, h]
theorem at_ext {xs ys : List α} (hl : xs.length = ys.length) (h : ∀ i, i < xs.length → at_ xs i = at_ ys i) : xs = ys := by
  apply List.ext_getElem? ; intro i
  by_cases hi : i < xs.length
  · rw [at_get hi, at_get (by omega), h i hi]
  · rw [List.getElem?_eq_none (by omega), List.getElem?_eq_none (by omega)]
theorem set_at {xs : List α} {i : Nat} (h : i < xs.length) : xs.set i (at_ xs i) = xs := by
  apply at_ext (by simp)
  intro j hj
  rw [at_set h]; split
  · next e => rw [e]
  · rfl
theorem mem_at {xs : List α} {x : α} (h : x ∈ xs) : ∃ i, i < xs.length ∧ at_ xs i = x := by
  obtain ⟨i, hi⟩ := List.getElem?_of_mem h
  exact ⟨i, (List.getElem?_eq_some_iff.1 hi).1, at_eq hi⟩
theorem take_succ_at {xs : List α} {i : Nat} (h : i < xs.length) : xs.take (i + 1) = xs.take i ++ [at_ xs i] := by
  rw [List.take_add_one, at_get h]; rfl
theorem drop_at {xs : List α} {i : Nat} (h : i < xs.length) : xs.drop i = at_ xs i :: xs.drop (i + 1) := by
  rw [List.drop_eq_getElem_cons h]
  congr 1
  exact (at_eq (List.getElem?_eq_getElem h)).symm
end
def adr (p : Option Addr) (j : Nat) : Addr := match p with
  | some a => ⟨a.block, a.off + j, none⟩
  | none => ⟨0, j, none⟩
def Gs (p : Option Addr) (n : Nat) : Prop := 0 < n → ∃ b o, p = some ⟨b, o, none⟩
theorem Gs.zero (p : Option Addr) : Gs p 0 := fun h => by omega
theorem Gs.some (b o n : Nat) : Gs (some ⟨b, o, none⟩) n := fun _ => ⟨b, o, rfl⟩
theorem adr_add (p : Option Addr) (i j : Nat) : (adr p i).add j = adr p (i + j) := by
  cases p <;> simp [adr, Addr.add_lit, Nat.add_assoc]
theorem adr_none (p : Option Addr) (i : Nat) : (adr p i).spot = none := by cases p <;> rfl
/-- what a value of a type looks like, cell by cell, where one cell is written -/
class FUpd {α : Type} (enc : α → List Value) (x : Nat) (v : Value) (u : outParam (α → α)) : Prop where
  eq : ∀ a, (enc a).set x v = enc (u a)
  lt : ∀ a, x < (enc a).length
def eI (kd : IntKind) (x : Int) : List Value := [.int kd x]
def eS (s : ByteArray) : List Value := [.string s]
def sls (p : Option Addr) (c : Nat) (T : TypeId) (sz : Nat) {α : Type} (enc : α → List Value) (xs : List α) : HP := sl (.slice p xs.length c) T sz (xs.map enc)
theorem sls_mk {k : Ctx} {w : World} {l : List HP} {p : Option Addr} {n c : Nat} {T : TypeId} {sz : Nat} {α : Type} {enc : α → List Value} {xs : List α} {rows : List (List Value)} (hO : Own k w (sl (.slice p n c) T sz rows :: l)) (hn : n = xs.length) (hr : rows = xs.map enc) : Own k w (sls p c T sz enc xs :: l) := by
  subst hn hr; exact hO
theorem sls_len {k : Ctx} {w : World} {l : List HP} {p : Option Addr} {n c : Nat} {T : TypeId} {sz : Nat} {rows : List (List Value)} (hO : Own k w (sl (.slice p n c) T sz rows :: l)) : n = rows.length ∧ n ≤ c ∧ Gs p n := hO.fact fun h hA => by
  rcases hA with ⟨he, rfl⟩ | ⟨b, o, cap, he, hA⟩
  · cases he; exact ⟨rfl, Nat.le_refl _, Gs.zero _⟩
  · cases he
    obtain ⟨_, _, _, _, _, h4, _⟩ := hA
    exact ⟨rfl, h4, Gs.some _ _ _⟩
class AtP (l : List HP) (p : Option Addr) (T : outParam TypeId) (α : outParam Type) (c sz : outParam Nat) (enc : outParam (α → List Value)) (xs : outParam (List α)) (L : outParam (HP → List HP)) : Prop where
  nth : ∀ A', Nth l (sls p c T sz enc xs) A' (L A')
instance (priority := high) AtP.hd (p : Option Addr) (T : TypeId) (α : Type) (c sz : Nat) (enc : α → List Value) (xs : List α) (l : List HP) : AtP (sls p c T sz enc xs :: l) p T α c sz enc xs (fun A => A :: l) := ⟨fun A' => .hd _ A' l⟩
instance AtP.tl (p : Option Addr) (T : TypeId) (α : Type) (c sz : Nat) (enc : α → List Value) (xs : List α) (l : List HP) (C : HP) (L : HP → List HP) [h : AtP l p T α c sz enc xs L] : AtP (C :: l) p T α c sz enc xs (fun A => C :: L A) := ⟨fun A' => .tl C (h.nth A')⟩
instance AtP.app (p : Option Addr) (T : TypeId) (α : Type) (c sz : Nat) (enc : α → List Value) (xs : List α) (m l : List HP) (C : HP) (L : HP → List HP) [h : AtP (C :: (m ++ l)) p T α c sz enc xs L] : AtP ((C :: m) ++ l) p T α c sz enc xs L := h
theorem AtP.self {l : List HP} {p : Option Addr} {T : TypeId} {α : Type} {c sz : Nat} {enc : α → List Value} {xs : List α} {L : HP → List HP} (h : AtP l p T α c sz enc xs L) : ∃ m, Nth l (sls p c T sz enc xs) (sls p c T sz enc xs) m := ⟨_, h.nth _⟩
theorem Has.sls {p : Option Addr} {c sz i x : Nat} {T : TypeId} {α : Type} [Inhabited α] {enc : α → List Value} {xs : List α} {cs : List Value} (hi : i < xs.length) (h : ∀ j v, cs[j]? = some v → (enc (at_ xs i))[x + j]? = some v) : Has (sls p c T sz enc xs) (adr p (i * sz + x)) cs :=
  ⟨adr_none _ _, fun hp hA => by
    rcases hA with ⟨he, h0⟩ | ⟨b, o, cap, he, hA⟩
    · have : xs = [] := by simpa using h0
      subst this; simp at hi
    · injection he with e1 e2 e3
      subst e1 e3
      exact (Has.ofArr (i := i) (x := x) (r := enc (at_ xs i)) (by simp [at_get hi]) h).2 hp hA⟩
theorem Has.sls1 {p : Option Addr} {c sz i x : Nat} {T : TypeId} {α : Type} [Inhabited α] {enc : α → List Value} {xs : List α} {v : Value} (hi : i < xs.length) (h : (enc (at_ xs i))[x]? = some v) : Has (Hb.sls p c T sz enc xs) (adr p (i * sz + x)) [v] :=
  Has.sls hi fun j u hu => by
    cases j with
    | zero => simp at hu; subst hu; simpa using h
    | succ j => simp at hu
theorem Has.slsA {p : Option Addr} {c sz i x : Nat} {T : TypeId} {α : Type} [Inhabited α] {enc : α → List Value} {xs : List α} {cs : List Value} (n : Nat) (hi : i < xs.length) (h : ((enc (at_ xs i)).drop x).take n = cs) : Has (Hb.sls p c T sz enc xs) (adr p (i * sz + x)) cs :=
  Has.sls hi fun j v hv => by
    subst h
    rw [List.getElem?_take] at hv
    split at hv
    · simpa using hv
    · cases hv
theorem Has.slsW {p : Option Addr} {b o c sz : Nat} {T : TypeId} {α : Type} {enc : α → List Value} {xs : List α} (hp : p = some ⟨b, o, none⟩) : Has (Hb.sls p c T sz enc xs) ⟨b, o, none⟩ (xs.map enc).flatten :=
  ⟨rfl, fun h hA => by
    subst hp
    rcases hA with ⟨he, h0⟩ | ⟨b', o', cap, he, hA⟩
    · cases he
    · injection he with e1 e2 e3
      cases e1; subst e3
      exact Has.whole.2 h hA⟩
theorem Upd.sls {p : Option Addr} {c sz i x : Nat} {T : TypeId} {α : Type} [Inhabited α] {enc : α → List Value} {xs : List α} {vs : List Value} {y : α} (hi : i < xs.length) (hx : x + vs.length ≤ (enc (at_ xs i)).length) (h : splice (enc (at_ xs i)) x vs = enc y) (hg : Gs p xs.length) :
    Upd (Hb.sls p c T sz enc xs) (adr p (i * sz + x)).block (adr p (i * sz + x)).off vs (Hb.sls p c T sz enc (xs.set i y)) := by
  obtain ⟨b, o, rfl⟩ := hg (by omega)
  show Upd _ b (o + (i * sz + x)) vs _
  have hu := Upd.ofArr (b := b) (o := o) (cap := c) (T := T) (sz := sz) (rows := xs.map enc) (i := i) (x := x) (r := enc (at_ xs i)) (vs := vs) (by simp [at_get hi]) hx h
  have key : ∀ h, Hb.sls (some ⟨b, o, none⟩) c T sz enc xs h → arr b o c T sz (xs.map enc) h := fun h hA => by
    rcases hA with ⟨he, h0⟩ | ⟨b', o', cap, he, hA⟩
    · cases he
    · injection he with e1 e2 e3
      cases e1; subst e3; exact hA
  refine ⟨fun h hA => hu.1 h (key h hA), fun h hA => ?_⟩
  obtain ⟨c', T', h1, h2, h3⟩ := hu.2 h (key h hA)
  refine ⟨c', T', h1, h2, .inr ⟨b, o, c, by simp, ?_⟩⟩
  rw [List.map_set]
  exact h3
section
variable {P : Program} {ops : Array Oper} {Q : Exit → Act → World → Prop} {n : Nat} {ds : List Deferred} {E E' : Env} {w w' : World}
variable {rest : List Oper} {d : Option Tmp} {ty : TypeId} {pos : String} {aft : Array Edge} {g : Option (Nat × Bool)}
variable {k : Ctx} {l l' : List HP} {A A' : HP}
theorem y_idx {t e : TypeId} {agg : Bool} {sz : Nat} [hu : Und P t (.slice e)] [hl : Lay P e agg sz] {x y : Operand} {p : Option Addr} {m c : Nat} {i : Int} {kd : IntKind} (hx : ev E x = some (.slice p m c)) (hy : ev E y = some (.int kd i)) (hp : Gs p m := by assumption) (h0 : 0 ≤ i := by omega) (h1 : i < m := by omega) :
    Yld P n ds E w ⟨d, .indexAddr t x y, ty, pos, aft, g⟩ (.pointer (some (adr p (i.toNat * sz + 0)))) :=
  ⟨fun a ha => by
    obtain ⟨b, o, rfl⟩ := hp (by omega)
    simp [execOp, ha.eval hx, ha.eval hy, Instr.indexAt, asIntOf, run_underlying hu.eq, h0, h1, hl.size, Addr.add_lit, adr]⟩
theorem y_fld {s : TypeId} {f off : Nat} [hf : Fld P s f off] {x : Operand} {p : Option Addr} {i j j' : Nat} (hx : ev E x = some (.pointer (some (adr p (i + j))))) (hj : j + off = j' := by rfl) :
    Yld P n ds E w ⟨d, .fieldAddr s x f, ty, pos, aft, g⟩ (.pointer (some (adr p (i + j')))) :=
  ⟨fun a ha => by subst hj; simp [execOp, ha.eval hx, hf.run, adr_add, Nat.add_assoc]⟩
theorem y_fldb {s : TypeId} {f off : Nat} [hf : Fld P s f off] {x : Operand} {b o o' : Nat} (hx : ev E x = some (.pointer (some ⟨b, o, none⟩))) (hj : o + off = o' := by rfl) :
    Yld P n ds E w ⟨d, .fieldAddr s x f, ty, pos, aft, g⟩ (.pointer (some ⟨b, o', none⟩)) := by subst hj; exact y_fieldAddr hx
theorem y_e1 {t : TypeId} {x : Operand} {p : Option Addr} {T : TypeId} {α : Type} [Inhabited α] {i x0 c sz : Nat} {enc : α → List Value} {xs : List α} {v : Value} {L : HP → List HP} (hO : Own k w l) (hx : ev E x = some (.pointer (some (adr p (i * sz + x0))))) [hl : Lay P t false 1] [ha : AtP l p T α c sz enc xs L]
    (hi : i < xs.length := by first | omega | (simp only [List.length_set]; omega) | (simp; omega)) (hv : (enc (at_ xs i))[x0]? = some v := by rfl) : Yld P n ds E w ⟨d, .load t x, ty, pos, aft, g⟩ v := by
  obtain ⟨m, hm⟩ := ha.self
  exact y_load1 hx (hO.holds hm (.sls1 hi hv))
theorem y_eA {t : TypeId} {x : Operand} {p : Option Addr} {T : TypeId} {α : Type} [Inhabited α] {i x0 c sz m : Nat} {enc : α → List Value} {xs : List α} {cs : List Value} {L : HP → List HP} (hO : Own k w l) (hx : ev E x = some (.pointer (some (adr p (i * sz + x0))))) [hl : Lay P t true m] [ha : AtP l p T α c sz enc xs L]
    (hi : i < xs.length := by first | omega | (simp only [List.length_set]; omega) | (simp; omega)) (hv : ((enc (at_ xs i)).drop x0).take m = cs := by rfl) (hm : cs.length = m := by rfl) : Yld P n ds E w ⟨d, .load t x, ty, pos, aft, g⟩ (.agg cs.toArray) := by
  obtain ⟨q, hq⟩ := ha.self
  exact y_loadA hx hm (hO.holds hq (.slsA m hi hv))
theorem adr_eta (p : Option Addr) (j : Nat) : adr p j = ⟨(adr p j).block, (adr p j).off, none⟩ := by cases p <;> rfl
/-- one field of an element is written -/
theorem s_e1 {t : TypeId} {x y : Operand} {p : Option Addr} {T : TypeId} {α : Type} [Inhabited α] {i x0 c sz : Nat} {enc : α → List Value} {xs : List α} {v : Value} {L : HP → List HP} {u : α → α} (hO : Own k w l) (hx : ev E x = some (.pointer (some (adr p (i * sz + x0))))) (hy : ev E y = some v) [hl : Lay P t false 1] [ha : AtP l p T α c sz enc xs L] [hu : FUpd enc x0 v u]
    (h : ∀ w', Own k w' (L (sls p c T sz enc (xs.set i (u (at_ xs i))))) → LW P ops Q n ds rest (E.put d undef) w') (hg : gd ops E g = some true := by rfl) (hd : dok n d = true := by rfl) (h1 : v.oneCell' = true := by rfl)
    (hi : i < xs.length := by first | omega | (simp only [List.length_set]; omega) | (simp; omega)) (hp : Gs p xs.length := by first | assumption | (simp only [List.length_set]; assumption)) : LW P ops Q n ds (⟨d, .store t x y, ty, pos, aft, g⟩ :: rest) E w := by
  rw [adr_eta] at hx
  exact s_store1 hO hg hd hx hy h1 (ha.nth _) (.sls hi (by have := hu.lt (at_ xs i); simp; omega) (by rw [splice_one _ _ _ (hu.lt _)]; exact hu.eq _) hp) h
theorem sls_fct {p : Option Addr} {T : TypeId} {α : Type} {c sz : Nat} {enc : α → List Value} {xs : List α} {L : HP → List HP} (hO : Own k w l) [ha : AtP l p T α c sz enc xs L] : xs.length ≤ c ∧ Gs p xs.length := by
  obtain ⟨m, hm⟩ := ha.self
  refine hO.nth_heap hm fun hp hA hw => ?_
  rcases hA with ⟨he, h0⟩ | ⟨b, o, cap, he, hA⟩
  · have : xs = [] := by simpa using h0
    subst this; exact ⟨by simp, Gs.zero _⟩
  · injection he with e1 e2 e3
    subst e1 e3
    obtain ⟨_, _, _, _, _, h4, _⟩ := hA
    exact ⟨by simpa using h4, Gs.some _ _ _⟩
/-- what a slice shows: of what is owned, -/
theorem sls_sli {p : Option Addr} {T : TypeId} {α : Type} {c sz : Nat} {enc : α → List Value} {xs : List α} {L : HP → List HP} (hO : Own k w l) [ha : AtP l p T α c sz enc xs L] : Sli (Holds w) (.slice p xs.length c) (xs.map enc) := by
  obtain ⟨m, hm⟩ := ha.self
  have h1 := sls_fct hO (ha := ha)
  refine ⟨p, c, by simp, by simpa using h1.1, fun hne => ?_⟩
  obtain ⟨b, o, rfl⟩ := h1.2 (by cases xs with | nil => simp at hne | cons => simp)
  exact ⟨b, o, rfl, hO.holds hm (.slsW rfl)⟩
/-- .. and to a callee, of what its caller keeps -/
theorem sls_ro {p : Option Addr} {T : TypeId} {α : Type} {c sz : Nat} {enc : α → List Value} {xs : List α} {k' : Ctx} {rl : List HP} (hr : ∀ A ∈ rl, ∀ a cs, Has A a cs → Ro k' a cs) (hm : sls p c T sz enc xs ∈ rl) (h1 : xs.length ≤ c ∧ Gs p xs.length) : Sli (Ro k') (.slice p xs.length c) (xs.map enc) := by
  refine ⟨p, c, by simp, by simpa using h1.1, fun hne => ?_⟩
  obtain ⟨b, o, rfl⟩ := h1.2 (by cases xs with | nil => simp at hne | cons => simp)
  exact ⟨b, o, rfl, hr _ hm _ _ (.slsW rfl)⟩
/-- an element of what is only read -/
theorem y_r1 {t : TypeId} {x : Operand} {p : Option Addr} {α : Type} [Inhabited α] {i x0 m c sz : Nat} {enc : α → List Value} {xs : List α} {v : Value} (hO : Own k w l) (hx : ev E x = some (.pointer (some (adr p (i * sz + x0))))) (hs : Sli (Ro k) (.slice p m c) (xs.map enc) := by assumption) [hl : Lay P t false 1]
    (hi : i < xs.length := by omega) (hv : (enc (at_ xs i))[x0]? = some v := by rfl) (hz : ∀ a, (enc a).length = sz := by intro a; rfl) : Yld P n ds E w ⟨d, .load t x, ty, pos, aft, g⟩ v := by
  obtain ⟨b, o, rfl, hH⟩ := (hs.holds hO).get (cuts_holds w) (sz := sz) (by intro r hr; obtain ⟨a, _, rfl⟩ := List.mem_map.1 hr; exact hz a) (i := i) (r := enc (at_ xs i)) (by simp [at_get hi])
  refine y_load1 hx ?_
  intro j u hu
  cases j with
  | zero => simp at hu; subst hu; have := hH x0 v hv; rw [Addr.add_lit] at this; simp only [adr, Addr.add_lit]; rw [← this]; congr 2; omega
  | succ j => simp at hu
theorem y_rA {t : TypeId} {x : Operand} {p : Option Addr} {α : Type} [Inhabited α] {i x0 m q c sz : Nat} {enc : α → List Value} {xs : List α} {cs : List Value} (hO : Own k w l) (hx : ev E x = some (.pointer (some (adr p (i * sz + x0))))) (hs : Sli (Ro k) (.slice p q c) (xs.map enc) := by assumption) [hl : Lay P t true m]
    (hi : i < xs.length := by omega) (hv : ((enc (at_ xs i)).drop x0).take m = cs := by rfl) (hm : cs.length = m := by rfl) (hz : ∀ a, (enc a).length = sz := by intro a; rfl) : Yld P n ds E w ⟨d, .load t x, ty, pos, aft, g⟩ (.agg cs.toArray) := by
  obtain ⟨b, o, rfl, hH⟩ := (hs.holds hO).get (cuts_holds w) (sz := sz) (by intro r hr; obtain ⟨a, _, rfl⟩ := List.mem_map.1 hr; exact hz a) (i := i) (r := enc (at_ xs i)) (by simp [at_get hi])
  refine y_loadA hx hm ?_
  intro j u hu
  have h2 : (enc (at_ xs i))[x0 + j]? = some u := by
    subst hv
    rw [List.getElem?_take] at hu
    split at hu
    · simpa using hu
    · cases hu
  have := hH _ _ h2
  rw [Addr.add_lit] at this; simp only [adr, Addr.add_lit]; rw [← this]; congr 2; omega
theorem sli_gs {H : Addr → List Value → Prop} {p : Option Addr} {m c : Nat} {rows : List (List Value)} (h : Sli H (.slice p m c) rows) : Gs p m := by
  obtain ⟨p', cap, he, h2, h3⟩ := h
  cases he
  intro h0
  obtain ⟨b, o, rfl, _⟩ := h3 (by rintro rfl; simp at h0)
  exact ⟨b, o, rfl⟩
/-- a call to which nothing is given -/
theorem C0 {f : FuncId} [hf : Fun P f] {xs : List Operand} {tys : Array TypeId} {vs : List Value} {R : Value → List HP → Prop} (hO : Own k w l) (hx : evl E xs = some vs)
    (hc : ∀ k', Ext k k' w → (∀ A ∈ l, ∀ a cs, Has A a cs → Ro k' a cs) → Own k' w [] → Tri P f vs.toArray k' w R)
    (h : ∀ v m w', R v m → Own k w' (m ++ l) → LW P ops Q n ds rest (E.put d v) w') (hg : gd ops E g = some true := by rfl) (hd : dok n d = true := by rfl) :
    LW P ops Q n ds (⟨d, .call ⟨.value (.func f), xs.toArray, tys⟩, ty, pos, aft, g⟩ :: rest) E w := s_callO hO (.nil _) hg hd hx hc h
end
end Go.Hb
set_option linter.unusedVariables false
set_option linter.unusedSimpArgs false
namespace Go.Hb
open Go Go.RowKit
/-- what an encoding of elements is: sz cells each, each of them one -/
class OneC {α : Type} (enc : α → List Value) (sz : outParam Nat) : Prop where
  len : ∀ a, (enc a).length = sz
  one : ∀ a, ∀ v ∈ enc a, v.oneCell' = true
instance (kd : IntKind) : OneC (eI kd) 1 := ⟨fun _ => rfl, fun a v hv => by simp [eI] at hv; subst hv; rfl⟩
instance : OneC eS 1 := ⟨fun _ => rfl, fun a v hv => by simp [eS] at hv; subst hv; rfl⟩
theorem OneC.rows {α : Type} {enc : α → List Value} {sz : Nat} [ho : OneC enc sz] (xs : List α) : ∀ r ∈ xs.map enc, r.length = sz := by
  intro r hr; obtain ⟨a, _, rfl⟩ := List.mem_map.1 hr; exact ho.len a
theorem OneC.cells {α : Type} {enc : α → List Value} {sz : Nat} [ho : OneC enc sz] (xs : List α) : ∀ r ∈ xs.map enc, ∀ v ∈ r, v.oneCell' = true := by
  intro r hr; obtain ⟨a, _, rfl⟩ := List.mem_map.1 hr; exact ho.one a
class PkP (l : List HP) (p : Option Addr) (T : TypeId) (α : outParam Type) (c sz : outParam Nat) (enc : outParam (α → List Value)) (xs : outParam (List α)) (rl : outParam (List HP)) : Prop where
  pull : Pull l (sls p c T sz enc xs) rl
instance (priority := high) PkP.hd (p : Option Addr) (T : TypeId) (α : Type) (c sz : Nat) (enc : α → List Value) (xs : List α) (l : List HP) : PkP (sls p c T sz enc xs :: l) p T α c sz enc xs l := ⟨.hd _ l⟩
instance PkP.tl (p : Option Addr) (T : TypeId) (α : Type) (c sz : Nat) (enc : α → List Value) (xs : List α) (l rl : List HP) (C : HP) [h : PkP l p T α c sz enc xs rl] : PkP (C :: l) p T α c sz enc xs (C :: rl) := ⟨.tl C h.pull⟩
section
variable {P : Program} {ops : Array Oper} {Q : Exit → Act → World → Prop} {n : Nat} {ds : List Deferred} {E E' : Env} {w w' : World}
variable {rest : List Oper} {d : Option Tmp} {ty : TypeId} {pos : String} {aft : Array Edge} {g : Option (Nat × Bool)}
variable {k : Ctx} {l l' : List HP} {A A' : HP}
theorem src_sli {p : Option Addr} {m c sz : Nat} {α : Type} {enc : α → List Value} {xs : List α} [ho : OneC enc sz] (hs : Sli (Holds w) (.slice p m c) (xs.map enc)) : Src P w sz (.slice p m c) xs.length (xs.map enc).flatten := by
  have := hs.src (P := P) (OneC.rows xs) (OneC.cells xs)
  rwa [List.length_map] at this
theorem src_own {p : Option Addr} {T : TypeId} {α : Type} {c sz sz' : Nat} {enc : α → List Value} {xs : List α} {L : HP → List HP} (hO : Own k w l) [ha : AtP l p T α c sz' enc xs L] [ho : OneC enc sz] : Src P w sz (.slice p xs.length c) xs.length (xs.map enc).flatten := src_sli (sls_sli hO)
theorem src_ro {p : Option Addr} {m c sz : Nat} {α : Type} {enc : α → List Value} {xs : List α} [ho : OneC enc sz] (hO : Own k w l) (hs : Sli (Ro k) (.slice p m c) (xs.map enc)) : Src P w sz (.slice p m c) xs.length (xs.map enc).flatten := src_sli (hs.holds hO)
/-- a literal of one's own values -/
theorem s_lit {t T : TypeId} {sz bytes len : Nat} {z : Value} [hu : Und P t (.slice T)] [he : Elt P T sz bytes z] {α : Type} {enc : α → List Value} [ho : OneC enc sz] {parts : List (Nat × Operand)} (ys : List α) (vs : List Value) (hO : Own k w l)
    (hp : partsOf E parts = some ((vs.zipIdx 0).map fun x => (x.2, x.1)))
    (h : ∀ b w', Own k w' (sls (some ⟨b, 0, none⟩) ys.length T sz enc ys :: l) → LW P ops Q n ds rest (E.put d (.slice (some ⟨b, 0, none⟩) ys.length ys.length)) w') (hv : (vs.map fun v => v.cells.toList) = ys.map enc := by rfl) (hl : ys.length = len := by rfl) (h0 : 0 < sz := by decide) (hn : ys ≠ [] := by simp) (hs : ys.length * sz ≤ 16777216 := by simp)
    (hg : gd ops E g = some true := by rfl) (hd : dok n d = true := by rfl) : LW P ops Q n ds (⟨d, .buildSlice t len parts.toArray, ty, pos, aft, g⟩ :: rest) E w := by
  have hlen : vs.length = ys.length := by have := congrArg List.length hv; simpa using this
  subst hl
  refine s_slices vs hO hg hd hlen hp (fun v hv' => ?_) h0 (by intro e; subst e; simp at hlen; exact hn (List.eq_nil_of_length_eq_zero hlen.symm)) (by rw [hlen]; exact hs) fun b w' hO' => ?_
  · have : v.cells.toList ∈ ys.map enc := by rw [← hv]; exact List.mem_map_of_mem hv'
    have := OneC.rows ys _ this
    simpa using this
  · rw [hv] at hO'
    refine h b w' (sl_shut hO' (by simp))
/-- append to what is owned -/
theorem s_app {t u T : TypeId} {sz bytes : Nat} {z : Value} {dd : TypeDesc} [hu : Und P t (.slice T)] [he : Elt P T sz bytes z] [hd' : Und P u dd] {x y : Operand} {p : Option Addr} {c sz' : Nat} {α : Type} {enc : α → List Value} {xs ys : List α} {vy : Value} {rl : List HP} (hO : Own k w l) (hx : ev E x = some (.slice p xs.length c)) (hy : ev E y = some vy) [hp : PkP l p T α c sz' enc xs rl] [ho : OneC enc sz] (hs : Src P w sz vy ys.length (ys.map enc).flatten)
    (h : ∀ p' c' w', Own k w' (sls p' c' T sz enc (xs ++ ys) :: rl) → Gs p' (xs ++ ys).length → LW P ops Q n ds rest (E.put d (.slice p' (xs ++ ys).length c')) w') (hsz : sz' = sz := by rfl) (h63 : xs.length + ys.length ≤ 4611686018427387904 := by simp; omega) (hb : (xs.length + ys.length) * bytes ≤ 140737488355328 := by simp; omega)
    (hg : gd ops E g = some true := by rfl) (hd : dok n d = true := by rfl) (hdi : ∀ kk, dd ≠ .int kk := by intro kk h; cases h) : LW P ops Q n ds (⟨d, .call ⟨.builtin .append, #[x, y], #[t, u]⟩, ty, pos, aft, g⟩ :: rest) E w := by
  subst hsz
  refine s_append (news := ys.map enc) hdi hO hp.pull hg hd hx hy (by rw [List.length_map]; exact hs) (OneC.rows ys) (by simpa using h63) (by simpa using hb) fun v' w' hO' hgr => ?_
  rw [← List.map_append] at hO'
  obtain ⟨p', c', rfl⟩ := sl_shape hO'
  rw [List.length_map] at hO' ⊢
  exact h p' c' w' hO' (sls_len hO').2.2
/-- make -/
theorem s_mk {t T : TypeId} {sz bytes : Nat} {z : Value} [hu : Und P t (.slice T)] [he : Elt P T sz bytes z] {α : Type} {enc : α → List Value} {x y : Operand} {m c : Nat} {kl kc : IntKind} {zl zc : Int} (a0 : α) (hO : Own k w l) (hx : ev E x = some (.int kl zl)) (hy : ev E y = some (.int kc zc)) (hzl : zl = (m : Int)) (hzc : zc = (c : Int)) (hmc : m ≤ c) (hby : bytes * c ≤ 281474976710656) (h63 : c ≤ maxLen)
    (h : ∀ b w', Own k w' (sls (some ⟨b, 0, none⟩) c T sz enc (List.replicate m a0) :: l) → LW P ops Q n ds rest (E.put d (.slice (some ⟨b, 0, none⟩) m c)) w') (hz : z.cells.toList = enc a0 := by rfl) (hg : gd ops E g = some true := by rfl) (hd : dok n d = true := by rfl) : LW P ops Q n ds (⟨d, .makeSlice t x y, ty, pos, aft, g⟩ :: rest) E w :=
  s_make hO hg hd hx hy hzl hzc hmc hby h63 fun b w' hO' => h b w' (sls_mk hO' (by simp) (by rw [hz]; simp))
theorem arr_sls {p : Option Addr} {c sz : Nat} {T : TypeId} {α : Type} {enc : α → List Value} {xs : List α} {b o : Nat} (hO : Own k w (sls p c T sz enc xs :: l)) (hp : p = some ⟨b, o, none⟩) : Own k w (arr b o c T sz (xs.map enc) :: l) := by
  subst hp
  rcases sl_open hO with ⟨hv, _⟩ | ⟨b', o', c', hv, hO⟩
  · cases hv
  · injection hv with e1 e2 e3
    cases e1; subst e3
    exact hO
/-- copy to the beginning of a made slice -/
theorem s_cp {t u e : TypeId} {agg : Bool} {sz sz' c : Nat} [hu : Und P t (.slice e)] [hl : Lay P e agg sz] {x y : Operand} {b : Nat} {vy : Value} {α : Type} {enc : α → List Value} {xs ys : List α} {rl : List HP} {m : Nat} (hO : Own k w l) (hx : ev E x = some (.slice (some ⟨b, 0, none⟩) m c)) (hy : ev E y = some vy) [hp : PkP l (some ⟨b, 0, none⟩) e α c sz' enc xs rl] [ho : OneC enc sz] (hs : Src P w sz vy ys.length (ys.map enc).flatten)
    (h : ∀ w', Own k w' (sls (some ⟨b, 0, none⟩) c e sz enc (ys ++ xs.drop ys.length) :: rl) → LW P ops Q n ds rest (E.put d (.int .i64 ys.length)) w') (hm : m = xs.length := by simp) (hlen : ys.length ≤ xs.length := by simp) (hsz : sz' = sz := by rfl) (hg : gd ops E g = some true := by rfl) (hd : dok n d = true := by rfl) : LW P ops Q n ds (⟨d, .call ⟨.builtin .copy, #[x, y], #[t, u]⟩, ty, pos, aft, g⟩ :: rest) E w := by
  subst hsz hm
  have hO1 := arr_sls (hO.pull hp.pull) rfl
  refine s_copy (i := 0) (news := ys.map enc) hO1 (.hd _ _) hg hd hx hy (by rw [List.length_map]; exact hs) (OneC.rows ys) (by simpa using hlen) (by simpa using hlen) (fun _ => by simp) fun w' hO2 => ?_
  rw [List.length_map] at hO2 ⊢
  refine h w' ?_
  have e : (xs.map enc).take 0 ++ ys.map enc ++ (xs.map enc).drop (0 + ys.length) = (ys ++ xs.drop ys.length).map enc := by simp
  rw [e] at hO2
  exact sls_mk (sl_shut hO2 rfl) (by simp) rfl
end
section
variable {P : Program} {ops : Array Oper} {Q : Exit → Act → World → Prop} {n : Nat} {ds : List Deferred} {E E' : Env} {w w' : World}
variable {rest : List Oper} {d : Option Tmp} {ty : TypeId} {pos : String} {aft : Array Edge} {g : Option (Nat × Bool)}
variable {k : Ctx} {l l' : List HP} {A A' : HP}
end
end Go.Hb
set_option linter.unusedVariables false
set_option linter.unusedSimpArgs false
namespace Go.Hb
open Go Go.RowKit
section
variable {P : Program} {md : Region.Mode} {ops : Array Oper} {Q : Exit → Act → World → Prop} {S : World → Prop}
/-- operation c waits for operation i, at once or through others -/
def waitsT (md : Region.Mode) (ops : Array Oper) : Nat → Nat → Nat → Bool
  | 0, _, _ => false
  | n + 1, c, i => match ops[c]? with
    | some o => o.after.toList.any fun e => Region.binds md e && (Nat.beq e.on i || waitsT md ops n e.on i)
    | none => false
/-- what is listed waits for nothing that is not -/
def Shut (md : Region.Mode) (ops : Array Oper) (listed : Array Bool) : Prop := ∀ (j : Nat) (o : Oper), ops[j]? = some o → listed.getD j true = true → ∀ e ∈ o.after, Region.binds md e = true → listed.getD e.on false = true
def shutB (md : Region.Mode) (ops : Array Oper) (listed : Array Bool) : Bool := Nat.beq listed.size ops.size && (List.range ops.size).all fun j => !listed.getD j true || match ops[j]? with
  | some o => o.after.toList.all fun e => !Region.binds md e || listed.getD e.on false
  | none => true
theorem shutB_spec {listed : Array Bool} (h : shutB md ops listed = true) : Shut md ops listed := by
  intro j o ho hl e he hb
  simp only [shutB, Bool.and_eq_true, List.all_eq_true] at h
  have hj : j < ops.size := (Array.getElem?_eq_some_iff.1 ho).1
  have h1 := h.2 j (List.mem_range.2 hj)
  rw [ho, hl] at h1
  simp only [Bool.not_true, Bool.false_or, List.all_eq_true] at h1
  have := h1 e (by simpa using he)
  simpa [hb] using this
theorem waitsT_listed {listed : Array Bool} (hs : Shut md ops listed) {i : Nat} : ∀ (n c : Nat) (o : Oper), ops[c]? = some o → (∀ e ∈ o.after, Region.binds md e = true → listed.getD e.on false = true) → waitsT md ops n c i = true → listed.getD i false = true
  | 0, _, _, _, _, h => by simp [waitsT] at h
  | n + 1, c, o, ho, hl, h => by
    simp only [waitsT, ho, List.any_eq_true, Bool.and_eq_true, Bool.or_eq_true] at h
    obtain ⟨e, he, hb, h2⟩ := h
    have he' : e ∈ o.after := by simpa using he
    have h3 := hl e he' hb
    rcases h2 with h2 | h2
    · rw [← Nat.eq_of_beq_eq_true h2]; exact h3
    · cases hoj : ops[e.on]? with
      | none => cases n <;> simp [waitsT, hoj] at h2
      | some o2 =>
        have h4 : listed.getD e.on true = true := by
          rcases Nat.lt_or_ge e.on listed.size with hs' | hs'
          · simpa [hs'] using h3
          · simp [Array.getElem?_eq_none hs'] at h3
        exact waitsT_listed hs n e.on o2 hoj (hs e.on o2 hoj h4) h2
theorem waitsT_not {n c i : Nat} {listed : Array Bool} (hs : Shut md ops listed) (h : waitsT md ops n c i = true) (hi : i ∈ Region.ready md ops listed) (hc : c ∈ Region.ready md ops listed) : False := by
  obtain ⟨_, oc, hoc, hall⟩ := mem_ready.1 hc
  have h1 := waitsT_listed hs n c oc hoc hall h
  have h0 := (mem_ready.1 hi).1
  rcases Nat.lt_or_ge i listed.size with hs | hs
  · simp [hs] at h0 h1; rw [h0] at h1; cases h1
  · simp [Array.getElem?_eq_none hs] at h1
theorem shut_set {j : Nat} {listed : Array Bool} (hs : Shut md ops listed) (hj : j ∈ Region.ready md ops listed) : Shut md ops (listed.setIfInBounds j true) := by
  intro q o ho hl e he hb
  obtain ⟨_, oj, hoj, hall⟩ := mem_ready.1 hj
  have key : listed.getD e.on false = true := by
    by_cases hq : q = j
    · subst hq; rw [hoj] at ho; cases ho; exact hall e he hb
    · rw [getD_set_ne true (Ne.symm hq)] at hl; exact hs q o ho hl e he hb
  by_cases hq : j = e.on
  · rw [← hq] at key ⊢
    rcases Nat.lt_or_ge j listed.size with h | h
    · simp [h]
    · simp [Array.getElem?_eq_none h] at key
  · rw [getD_set_ne false hq]; exact key
/-- C: the closing operations; S holds behind all others, until one of these has run -/
def wpD (P : Program) (md : Region.Mode) (ops : Array Oper) (Q : Exit → Act → World → Prop) (S : World → Prop) (C : List Nat) : Nat → Array Bool → Act → World → Prop
  | 0, listed, a, w => Region.ready md ops listed = [] ∧ Q .normal a w
  | f + 1, listed, a, w => (Region.ready md ops listed = [] → Q .normal a w) ∧
      ∀ i ∈ Region.ready md ops listed, wpOp P ops Q i (fun a' w' => (C.contains i = true → wpAny P md ops Q f (listed.setIfInBounds i true) a' w') ∧ (C.contains i = false → S w' ∧ wpD P md ops Q S C f (listed.setIfInBounds i true) a' w')) a w
theorem wpD_any {C : List Nat} : ∀ (f : Nat) (listed : Array Bool) (a : Act) (w : World), wpD P md ops Q S C f listed a w → wpAny P md ops Q f listed a w
  | 0, _, _, _, h => h
  | f + 1, listed, a, w, h => ⟨h.1, fun i hi => wpOp_mono (fun a' w' hk => by
      cases hc : C.contains i with
      | true => exact hk.1 hc
      | false => exact wpD_any f _ _ _ (hk.2 hc).2) (h.2 i hi)⟩
theorem wpD_take {C : List Nat} {N i : Nat} {o : Oper} {v : Value} (ho : ops[i]? = some o) (hsel : ∀ (j : Nat) (o : Oper) cs b, ops[j]? = some o → o.op ≠ .select cs b) (hw : ∀ c, C.contains c = true → waitsT md ops N c i = true)
    (hQ : ∀ c a w, Q (.panic c) (a.put o.dst v) w → Q (.panic c) a w) : ∀ (f : Nat) (listed : Array Bool) (a : Act) (w : World), Shut md ops listed →
      (∀ j oj, ops[j]? = some oj → j ≠ i → listed.getD j true = false → (∀ e ∈ oj.after, Region.binds md e = true → e.on ≠ i) → o.apart ops oj = true) →
      i ∈ Region.ready md ops listed → YieldsIf P ops S o v a → S w → wpD P md ops Q S C f (listed.setIfInBounds i true) (a.put o.dst v) w → wpD P md ops Q S C (f + 1) listed a w
  | f, listed, a, w, hsh, hfree, hr, hy, hS, H => by
    have hic : C.contains i = false := by
      cases hc : C.contains i with
      | false => rfl
      | true => exact (waitsT_not hsh (hw i hc) hr hr).elim
    refine ⟨fun h => (by rw [h] at hr; cases hr), fun j hj => ?_⟩
    by_cases hji : j = i
    · subst hji
      exact hy.wpOp ho hS ⟨fun h => (by rw [hic] at h; cases h), fun _ => ⟨hS, H⟩⟩
    · have hjc : C.contains j = false := by
        cases hc : C.contains j with
        | false => rfl
        | true => exact (waitsT_not hsh (hw j hc) hr hj).elim
      cases f with
      | zero =>
        have := ready_mono hj hji
        rw [H.1] at this
        cases this
      | succ f =>
        have h1 := H.2 j (ready_mono hj hji)
        obtain ⟨hjun, oj, hoj, hall⟩ := mem_ready.1 hj
        have hnot : ∀ e ∈ oj.after, Region.binds md e = true → e.on ≠ i := fun e he hb heq => by
          have h1 := hall e he hb
          have h0 := (mem_ready.1 hr).1
          rw [heq] at h1
          rcases Nat.lt_or_ge i listed.size with hs | hs
          · simp [hs] at h0 h1; rw [h0] at h1; cases h1
          · simp [Array.getElem?_eq_none hs] at h1
        have h2 := wpOp_putIf hoj (hfree j oj hoj hji hjun hnot) (fun cs b => hsel i o cs b ho) (fun cs b => hsel j oj cs b hoj) hQ hy h1
        refine wpOp_mono (fun a' w' h3 => ⟨fun h => (by rw [hjc] at h; cases h), fun _ => ?_⟩) h2
        obtain ⟨hS3, h4⟩ := h3.2.2 hjc
        refine ⟨hS3, wpD_take ho hsel hw hQ f (listed.setIfInBounds j true) a' w' (shut_set hsh hj) (fun q oq hq hqi hun hno => hfree q oq hq hqi ?_ hno) (ready_mono hr (Ne.symm hji)) h3.1 hS3 ?_⟩
        · by_cases hjq : j = q
          · subst hjq; exact hjun
          · rw [getD_set_ne true hjq] at hun; exact hun
        · rw [Array.setIfInBounds_comm _ _ hji]
          exact h4
theorem yields_of {o : Oper} {v : Value} {a : Act} (h : YieldsIf P ops (fun _ => True) o v a) : Yields P ops o v a := h.imp (fun ⟨hw, hv⟩ => ⟨hw, fun w => hv w trivial⟩) id
/-- the same of what yields in whatever world: C need not wait for it -/
theorem wpD_takeU {C : List Nat} {i : Nat} {o : Oper} {v : Value} (ho : ops[i]? = some o) (hsel : ∀ (j : Nat) (o : Oper) cs b, ops[j]? = some o → o.op ≠ .select cs b) (hic : C.contains i = false)
    (hQ : ∀ c a w, Q (.panic c) (a.put o.dst v) w → Q (.panic c) a w) : ∀ (f : Nat) (listed : Array Bool) (a : Act) (w : World),
      (∀ j oj, ops[j]? = some oj → j ≠ i → listed.getD j true = false → (∀ e ∈ oj.after, Region.binds md e = true → e.on ≠ i) → o.apart ops oj = true) →
      i ∈ Region.ready md ops listed → YieldsIf P ops (fun _ => True) o v a → S w → wpD P md ops Q S C f (listed.setIfInBounds i true) (a.put o.dst v) w → wpD P md ops Q S C (f + 1) listed a w
  | f, listed, a, w, hfree, hr, hy, hS, H => by
    refine ⟨fun h => (by rw [h] at hr; cases hr), fun j hj => ?_⟩
    by_cases hji : j = i
    · subst hji
      exact hy.wpOp ho trivial ⟨fun h => (by rw [hic] at h; cases h), fun _ => ⟨hS, H⟩⟩
    · cases f with
      | zero =>
        have := ready_mono hj hji
        rw [H.1] at this
        cases this
      | succ f =>
        have h1 := H.2 j (ready_mono hj hji)
        obtain ⟨hjun, oj, hoj, hall⟩ := mem_ready.1 hj
        have hnot : ∀ e ∈ oj.after, Region.binds md e = true → e.on ≠ i := fun e he hb heq => by
          have h1 := hall e he hb
          have h0 := (mem_ready.1 hr).1
          rw [heq] at h1
          rcases Nat.lt_or_ge i listed.size with hs | hs
          · simp [hs] at h0 h1; rw [h0] at h1; cases h1
          · simp [Array.getElem?_eq_none hs] at h1
        have h2 := wpOp_putIf hoj (hfree j oj hoj hji hjun hnot) (fun cs b => hsel i o cs b ho) (fun cs b => hsel j oj cs b hoj) hQ hy h1
        have hfree2 : ∀ q oq, ops[q]? = some oq → q ≠ i → (listed.setIfInBounds j true).getD q true = false → (∀ e ∈ oq.after, Region.binds md e = true → e.on ≠ i) → o.apart ops oq = true := fun q oq hq hqi hun hno => hfree q oq hq hqi (by
          by_cases hjq : j = q
          · subst hjq; exact hjun
          · rw [getD_set_ne true hjq] at hun; exact hun) hno
        refine wpOp_mono (fun a' w' h3 => ⟨fun hc => ?_, fun hc => ?_⟩) h2
        · have h4 := h3.2.1 hc
          rw [Array.setIfInBounds_comm _ _ (Ne.symm hji)] at h4
          exact wpAny_first ho hsel hQ f _ a' w' hfree2 (ready_mono hr (Ne.symm hji)) (yields_of h3.1) h4
        · obtain ⟨hS3, h4⟩ := h3.2.2 hc
          rw [Array.setIfInBounds_comm _ _ (Ne.symm hji)] at h4
          exact ⟨hS3, wpD_takeU ho hsel hic hQ f _ a' w' hfree2 (ready_mono hr (Ne.symm hji)) h3.1 hS3 h4⟩
end
section
variable {P : Program} {lo : List Oper} {Q : Exit → Act → World → Prop} {n : Nat} {ds : List Deferred} {E E' : Env} {w w' : World} {S : World → Prop} {C : List Nat} {f : Nat} {listed : Array Bool}
def PanOk (Q : Exit → Act → World → Prop) : Prop := ∀ c a d v w, Q (.panic c) (Act.put a d v) w → Q (.panic c) a w
/-- all that is still to do, in any order -/
def DA (P : Program) (lo : List Oper) (Q : Exit → Act → World → Prop) (n : Nat) (ds : List Deferred) (f : Nat) (listed : Array Bool) (E : Env) (w : World) : Prop :=
  PanOk Q → ∀ a, Fits n ds E a → wpAny P .any lo.toArray Q f listed a w
/-- the same, where S holds until an operation of C has run -/
def DX (P : Program) (lo : List Oper) (Q : Exit → Act → World → Prop) (n : Nat) (ds : List Deferred) (S : World → Prop) (C : List Nat) (f : Nat) (listed : Array Bool) (E : Env) (w : World) : Prop :=
  PanOk Q → S w → ∀ a, Fits n ds E a → wpD P .any lo.toArray Q S C f listed a w
theorem da_region [hm : Mixed P] {id : Nat} (hQ : PanOk Q) (h : DA P lo Q n ds lo.length (List.replicate lo.length false).toArray E w.drew) : CW P Q n ds (.region id lo.toArray true) E w := by
  intro a ha
  have := h hQ a ha
  refine wp_region_any hm.eq ?_
  rw [show Array.replicate lo.toArray.size false = (List.replicate lo.length false).toArray from by simp]
  exact this
/-- a phase begins -/
theorem da_phase (S : World → Prop) (C : List Nat) (hS : S w) (h : DX P lo Q n ds S C f listed E w) : DA P lo Q n ds f listed E w := fun hQ a ha => wpD_any _ _ _ _ (h hQ hS a ha)
def okX (lo : List Oper) (C : List Nat) (listed : Array Bool) (i : Nat) : Bool :=
  Region.noSelect lo.toArray && Region.free .any lo.toArray listed i && (Region.ready .any lo.toArray listed).contains i && shutB .any lo.toArray listed && C.all fun c => waitsT .any lo.toArray lo.length c i
theorem dx_y (i : Nat) {o : Oper} {v : Value} (hok : okX lo C listed i = true) (hi : nthO lo i = some o) (hg : gd lo.toArray E o.guard = some true) (hd : dok n o.dst = true) (hy : ∀ w, S w → Yld P n ds E w o v)
    (h : DX P lo Q n ds S C f (listed.setIfInBounds i true) (E.put o.dst v) w) : DX P lo Q n ds S C (f + 1) listed E w := fun hQ hS a ha => by
  simp only [okX, Bool.and_eq_true] at hok
  exact wpD_take (N := lo.length) (by simpa [nthO_eq] using hi) (Region.noSelect_spec hok.1.1.1.1) (fun c hc => List.all_eq_true.1 hok.2 c (by simpa using hc)) (fun c a w => hQ c a _ _ w) f _ a w (shutB_spec hok.1.2) (Region.free_spec (by simpa [nthO_eq] using hi) hok.1.1.1.2) (by simpa using hok.1.1.2) (.inl ⟨gd_sound ha hg, fun w hw => (hy w hw).run a ha⟩) hS (h hQ hS _ (ha.put hd v))
def okU (lo : List Oper) (C : List Nat) (listed : Array Bool) (i : Nat) : Bool :=
  Region.noSelect lo.toArray && Region.free .any lo.toArray listed i && (Region.ready .any lo.toArray listed).contains i && !C.contains i
/-- .. in whatever world -/
theorem dx_u (i : Nat) {o : Oper} {v : Value} (hok : okU lo C listed i = true) (hi : nthO lo i = some o) (hg : gd lo.toArray E o.guard = some true) (hd : dok n o.dst = true) (hy : ∀ w, Yld P n ds E w o v)
    (h : DX P lo Q n ds S C f (listed.setIfInBounds i true) (E.put o.dst v) w) : DX P lo Q n ds S C (f + 1) listed E w := fun hQ hS a ha => by
  simp only [okU, Bool.and_eq_true] at hok
  exact wpD_takeU (by simpa [nthO_eq] using hi) (Region.noSelect_spec hok.1.1.1) (by simpa using hok.2) (fun c a w => hQ c a _ _ w) f _ a w (Region.free_spec (by simpa [nthO_eq] using hi) hok.1.1.2) (by simpa using hok.1.2) (.inl ⟨gd_sound ha hg, fun w _ => (hy w).run a ha⟩) hS (h hQ hS _ (ha.put hd v))
theorem dx_pass (i : Nat) {o : Oper} (hok : okU lo C listed i = true) (hi : nthO lo i = some o) (hg : gd lo.toArray E o.guard = some false) (hd : dok n o.dst = true)
    (h : DX P lo Q n ds S C f (listed.setIfInBounds i true) (E.put o.dst undef) w) : DX P lo Q n ds S C (f + 1) listed E w := fun hQ hS a ha => by
  simp only [okU, Bool.and_eq_true] at hok
  exact wpD_takeU (by simpa [nthO_eq] using hi) (Region.noSelect_spec hok.1.1.1) (by simpa using hok.2) (fun c a w => hQ c a _ _ w) f _ a w (Region.free_spec (by simpa [nthO_eq] using hi) hok.1.1.2) (by simpa using hok.1.2) (.inr ⟨gd_sound ha hg, rfl⟩) hS (h hQ hS _ (ha.put hd undef))
/-- a bool that is not known yet -/
theorem dx_split (t : Nat) {b : Bool} (hb : look E t = some (.bool b)) (h1 : b = true → DX P lo Q n ds S C f listed ((t, .bool true) :: E) w) (h2 : b = false → DX P lo Q n ds S C f listed ((t, .bool false) :: E) w) : DX P lo Q n ds S C f listed E w := fun hQ hS a ha => by
  have key : ∀ c, b = c → Fits n ds ((t, .bool c) :: E) a := fun c e => ⟨ha.size, ha.defers, fun u v hu => by
    have := look_put E t (.bool c) u
    simp only [Env.put] at this
    rw [this] at hu
    split at hu
    · next e2 => subst e2; cases hu; rw [← e]; exact ha.at_ _ _ hb
    · exact ha.at_ _ _ hu⟩
  cases b
  · exact h2 rfl hQ hS a (key false rfl)
  · exact h1 rfl hQ hS a (key true rfl)
/-- only operation i may come up; S holds behind it -/
theorem dx_only (i : Nat) {o : Oper} (hr : Region.ready .any lo.toArray listed = [i]) (hi : nthO lo i = some o) (hc : C.contains i = false)
    (h : OW P lo.toArray Q n ds o (fun E w => S w ∧ DX P lo Q n ds S C f (listed.setIfInBounds i true) E w) E w) : DX P lo Q n ds S C (f + 1) listed E w := fun hQ hS a ha => by
  refine ⟨fun h0 => (by rw [hr] at h0; cases h0), fun j hj => ?_⟩
  rw [hr] at hj
  obtain rfl : j = i := by simpa using hj
  exact op_of hi h (fun E' a' w' hf' hk => ⟨fun e => (by rw [hc] at e; cases e), fun _ => ⟨hk.1, hk.2 hQ hk.1 a' hf'⟩⟩) ha
/-- only operation i may come up, and it closes -/
theorem dx_close (i : Nat) {o : Oper} (hr : Region.ready .any lo.toArray listed = [i]) (hi : nthO lo i = some o) (hc : C.contains i = true)
    (h : OW P lo.toArray Q n ds o (fun E w => DA P lo Q n ds f (listed.setIfInBounds i true) E w) E w) : DX P lo Q n ds S C (f + 1) listed E w := fun hQ hS a ha => by
  refine ⟨fun h0 => (by rw [hr] at h0; cases h0), fun j hj => ?_⟩
  rw [hr] at hj
  obtain rfl : j = i := by simpa using hj
  exact op_of hi h (fun E' a' w' hf' hk => ⟨fun _ => hk hQ a' hf', fun e => (by rw [hc] at e; cases e)⟩) ha
theorem da_only (i : Nat) {o : Oper} (hr : Region.ready .any lo.toArray listed = [i]) (hi : nthO lo i = some o)
    (h : OW P lo.toArray Q n ds o (fun E w => DA P lo Q n ds f (listed.setIfInBounds i true) E w) E w) : DA P lo Q n ds (f + 1) listed E w := fun hQ a ha => by
  refine ⟨fun h0 => (by rw [hr] at h0; cases h0), fun j hj => ?_⟩
  rw [hr] at hj
  obtain rfl : j = i := by simpa using hj
  exact op_of hi h (fun E' a' w' hf' hk => hk hQ a' hf') ha
/-- two may come up -/
theorem dx_two (i j : Nat) {o o' : Oper} (hr : Region.ready .any lo.toArray listed = [i, j]) (hi : nthO lo i = some o) (hj : nthO lo j = some o') (hci : C.contains i = false) (hcj : C.contains j = false)
    (h1 : OW P lo.toArray Q n ds o (fun E w => S w ∧ DX P lo Q n ds S C f (listed.setIfInBounds i true) E w) E w) (h2 : OW P lo.toArray Q n ds o' (fun E w => S w ∧ DX P lo Q n ds S C f (listed.setIfInBounds j true) E w) E w) : DX P lo Q n ds S C (f + 1) listed E w := fun hQ hS a ha => by
  refine ⟨fun h0 => (by rw [hr] at h0; cases h0), fun q hq => ?_⟩
  rw [hr] at hq
  rcases List.mem_cons.1 hq with rfl | hq
  · exact op_of hi h1 (fun E' a' w' hf' hk => ⟨fun e => (by rw [hci] at e; cases e), fun _ => ⟨hk.1, hk.2 hQ hk.1 a' hf'⟩⟩) ha
  · obtain rfl : q = j := by simpa using hq
    exact op_of hj h2 (fun E' a' w' hf' hk => ⟨fun e => (by rw [hcj] at e; cases e), fun _ => ⟨hk.1, hk.2 hQ hk.1 a' hf'⟩⟩) ha
theorem da_end (hr : Region.ready .any lo.toArray listed = []) (h : QW Q n ds .normal E w) : DA P lo Q n ds f listed E w := fun _ a ha => wpAny_done hr (h a ha) f
theorem dx_end (hr : Region.ready .any lo.toArray listed = []) (h : QW Q n ds .normal E w) : DX P lo Q n ds S C f listed E w := fun _ _ a ha => by
  cases f with
  | zero => exact ⟨hr, h a ha⟩
  | succ f => exact ⟨fun _ => h a ha, fun i hi => by rw [hr] at hi; cases hi⟩
/-- the end of one operation of a drawn region -/
theorem o_done {K : Env → World → Prop} (h : K E w) : LW P lo.toArray (fun e a w => match e with | .normal => ∃ E', Fits n ds E' a ∧ K E' w | _ => False) n ds [] E w := l_nil (o_end h)
/-- a bool that is not known yet -/
theorem l_split (t : Nat) {b : Bool} {ops : Array Oper} {l : List Oper} (hb : look E t = some (.bool b)) (h1 : b = true → LW P ops Q n ds l ((t, .bool true) :: E) w) (h2 : b = false → LW P ops Q n ds l ((t, .bool false) :: E) w) : LW P ops Q n ds l E w := fun a ha => by
  have key : ∀ c, b = c → Fits n ds ((t, .bool c) :: E) a := fun c e => ⟨ha.size, ha.defers, fun u v hu => by
    have := look_put E t (.bool c) u
    simp only [Env.put] at this
    rw [this] at hu
    split at hu
    · next e2 => subst e2; cases hu; rw [← e]; exact ha.at_ _ _ hb
    · exact ha.at_ _ _ hu⟩
  cases b
  · exact h2 rfl a (key false rfl)
  · exact h1 rfl a (key true rfl)
theorem ndt {p : Prop} [Decidable p] (h : (!decide p) = true) : ¬ p := by simpa using h
theorem ndf {p : Prop} [Decidable p] (h : (!decide p) = false) : p := by simpa using h
/-- results that lie in memory -/
theorem finC {k : Ctx} {l : List HP} {fn : Func} {T' : Value → World → Prop} {t b m : Nat} {ty T : TypeId} {vs : List Value} {L : HP → List HP} [hl : Lay P ty true m] (hO : Own k w l) (hrs : fn.results = #[.cell t ty]) (hv : look E t = some (.pointer (some ⟨b, 0, none⟩))) [ha : AtB l b T vs L] (hT : T' (.agg vs.toArray) w) (hm : vs.length = m := by rfl) :
    QW (bodyPost P fn fun e w' => ∃ v, e = .returned v ∧ T' v w') n [] .ret E w := by
  obtain ⟨q, hq⟩ := ha.self
  exact finc (m := m) hrs hv hm (hO.holds hq (.ofBlkA m (by rw [List.drop_zero]; exact List.take_of_length_le (by omega)))) hT
theorem finC1 {k : Ctx} {l : List HP} {fn : Func} {T' : Value → World → Prop} {t b m u : Nat} {x : Value} {ty T : TypeId} {vs : List Value} {L : HP → List HP} [hl : Lay P ty true m] (hO : Own k w l) (hrs : fn.results = #[.cell t ty, .tmp u]) (hv : look E t = some (.pointer (some ⟨b, 0, none⟩))) (hx : look E u = some x) [ha : AtB l b T vs L] (hT : T' (.tuple #[.agg vs.toArray, x]) w) (hm : vs.length = m := by rfl) :
    QW (bodyPost P fn fun e w' => ∃ v, e = .returned v ∧ T' v w') n [] .ret E w := by
  obtain ⟨q, hq⟩ := ha.self
  exact finc1 (m := m) hrs hv hx hm (hO.holds hq (.ofBlkA m (by rw [List.drop_zero]; exact List.take_of_length_le (by omega)))) hT
inductive Key
  | b (n : Nat)
  | p (a : Option Addr)
  | f
  | s
  | o (n : Nat)
class AtK (l : List HP) (q : Key) (A : outParam HP) (rl : outParam (List HP)) : Prop where
  pull : Pull l A rl
instance (priority := high) AtK.hb (b : Nat) (T : TypeId) (vs : List Value) (l : List HP) : AtK (blk b T vs :: l) (.b b) (blk b T vs) l := ⟨.hd _ l⟩
instance (priority := high) AtK.hp (p : Option Addr) (T : TypeId) (α : Type) (c sz : Nat) (enc : α → List Value) (xs : List α) (l : List HP) : AtK (sls p c T sz enc xs :: l) (.p p) (sls p c T sz enc xs) l := ⟨.hd _ l⟩
instance (priority := high) AtK.hs (m l : List HP) : AtK (sep m :: l) .s (sep m) l := ⟨.hd _ l⟩
instance (priority := high) AtK.hobj (b : Nat) (o : Obj) (l : List HP) : AtK (obj b o :: l) (.o b) (obj b o) l := ⟨.hd _ l⟩
instance AtK.tl (q : Key) (A C : HP) (l rl : List HP) [h : AtK l q A rl] : AtK (C :: l) q A (C :: rl) := ⟨.tl C h.pull⟩
instance AtK.app (q : Key) (A C : HP) (m l rl : List HP) [h : AtK (C :: (m ++ l)) q A rl] : AtK ((C :: m) ++ l) q A rl := h
instance AtK.app0 (q : Key) (A : HP) (l rl : List HP) [h : AtK l q A rl] : AtK ([] ++ l) q A rl := h
class AtKs (l : List HP) (qs : List Key) (As : outParam (List HP)) (rl : outParam (List HP)) (m : outParam (List HP)) : Prop where
  pulls : Pulls l As rl
  eq : As ++ rl = m
instance AtKs.nil (l : List HP) : AtKs l [] [] l l := ⟨.nil l, rfl⟩
instance AtKs.cons (l l' l'' m : List HP) (q : Key) (qs : List Key) (A : HP) (As : List HP) [h : AtK l q A l'] [hs : AtKs l' qs As l'' m] : AtKs l (q :: qs) (A :: As) l'' (A :: m) := ⟨.cons h.pull hs.pulls, by rw [List.cons_append, hs.eq]⟩
theorem SO.ks {k : Ctx} {l rl As m : List HP} (qs : List Key) [hp : AtKs l qs As rl m] (h : Own k w l) : SO k As w := ⟨rl, h.pulls hp.pulls⟩
theorem Own.ks {k : Ctx} {l rl As m : List HP} (qs : List Key) [hp : AtKs l qs As rl m] (h : Own k w l) : Own k w m := by
  have := h.pulls hp.pulls
  rwa [hp.eq] at this
theorem Own.only {k : Ctx} {l rl As m : List HP} (qs : List Key) [hp : AtKs l qs As rl m] (h : Own k w l) : Own k w As := Own.front (h.pulls hp.pulls)
theorem Own.one {k : Ctx} {w : World} {l : List HP} {A : HP} (h : Own k w (A :: l)) : Own k w [A] := Own.front (l := [_]) h
theorem Own.two {k : Ctx} {w : World} {l : List HP} {A B : HP} (h : Own k w (A :: B :: l)) : Own k w [A, B] := Own.front (l := [_, _]) h
end
end Go.Hb
set_option linter.unusedVariables false
set_option linter.unusedSimpArgs false
namespace Go.Hb
open Go Go.RowKit
section
variable {α β : Type} [Inhabited α] [Inhabited β]
/-- the place of the first that is p; -1 -/
def idx (p : α → Bool) (xs : List α) : Int := if xs.any p then ((xs.findIdx p : Nat) : Int) else -1
theorem idx_at {p : α → Bool} {xs : List α} {i : Nat} (hi : i < xs.length) (h : p (at_ xs i) = true) (hn : ∀ j, j < i → p (at_ xs j) = false) : idx p xs = i := by
  have h0 : xs.any p = true := List.any_eq_true.2 ⟨_, at_mem hi, h⟩
  rw [idx, if_pos h0]
  have e : ∀ j (hj : j < xs.length), xs[j] = at_ xs j := fun j hj => (at_eq (List.getElem?_eq_getElem hj)).symm
  have := (List.findIdx_eq hi (p := p)).2 ⟨by rw [e]; exact h, fun j hj => by rw [e]; exact hn j hj⟩
  rw [this]
theorem idx_none {p : α → Bool} {xs : List α} (hn : ∀ j, j < xs.length → p (at_ xs j) = false) : idx p xs = -1 := by
  have h0 : ¬ xs.any p = true := fun h => by
    obtain ⟨x, hx, hp⟩ := List.any_eq_true.1 h
    obtain ⟨i, hi, rfl⟩ := mem_at hx
    rw [hn i hi] at hp; cases hp
  rw [idx, if_neg h0]
theorem idx_cases (p : α → Bool) (xs : List α) : (idx p xs = -1 ∧ ∀ j, j < xs.length → p (at_ xs j) = false) ∨ ∃ i : Nat, idx p xs = i ∧ i < xs.length ∧ p (at_ xs i) = true ∧ ∀ j, j < i → p (at_ xs j) = false := by
  by_cases h : ∃ i, i < xs.length ∧ p (at_ xs i) = true
  · right
    have h1 : ∃ i, (i < xs.length ∧ p (at_ xs i) = true) := h
    let rec go : ∀ n, (∀ j, j < n → ¬ (j < xs.length ∧ p (at_ xs j) = true)) ∨ ∃ i, i < n ∧ i < xs.length ∧ p (at_ xs i) = true ∧ ∀ j, j < i → p (at_ xs j) = false := fun n => by
      induction n with
      | zero => exact .inl fun j hj => by omega
      | succ n ih =>
        rcases ih with h | ⟨i, h1, h2, h3, h4⟩
        · by_cases hn : n < xs.length ∧ p (at_ xs n) = true
          · exact .inr ⟨n, by omega, hn.1, hn.2, fun j hj => by
              have := h j hj
              cases hp : p (at_ xs j) with
              | false => rfl
              | true => exact absurd ⟨by omega, hp⟩ this⟩
          · left; intro j hj
            by_cases e : j = n
            · rw [e]; exact hn
            · exact h j (by omega)
        · exact .inr ⟨i, by omega, h2, h3, h4⟩
    obtain ⟨i, hi, hp⟩ := h
    rcases go (i + 1) with h | ⟨j, h1, h2, h3, h4⟩
    · exact absurd ⟨hi, hp⟩ (h i (by omega))
    · exact ⟨j, idx_at h2 h3 h4, h2, h3, h4⟩
  · left
    have hn : ∀ j, j < xs.length → p (at_ xs j) = false := fun j hj => by
      cases hp : p (at_ xs j) with
      | false => rfl
      | true => exact absurd ⟨j, hj, hp⟩ h
    exact ⟨idx_none hn, hn⟩
theorem map_set_same' {γ : Type} {f : α → γ} {xs : List α} {i : Nat} {u : α} (h : f u = f (at_ xs i)) : (xs.set i u).map f = xs.map f := by
  by_cases hi : i < xs.length
  · apply List.ext_getElem?
    intro j
    rw [List.getElem?_map, List.getElem?_map]
    by_cases e : i = j
    · subst e; rw [List.getElem?_set_self hi, at_get hi]; simp [h]
    · rw [List.getElem?_set_ne e]
  · rw [List.set_eq_of_length_le (by omega)]
theorem perm_at {xs : List α} {i : Nat} (hi : i < xs.length) : xs.Perm (at_ xs i :: xs.eraseIdx i) := by
  have e : xs = xs.take i ++ at_ xs i :: xs.drop (i + 1) := by rw [← drop_at hi, List.take_append_drop]
  rw [List.eraseIdx_eq_take_drop_succ]
  conv => lhs; rw [e]
  exact List.perm_middle
theorem perm_put {xs : List α} {i : Nat} (hi : i < xs.length) (y : α) : (xs.set i y).Perm (y :: xs.eraseIdx i) := by
  have := perm_at (xs := xs.set i y) (i := i) (by simpa using hi)
  rw [at_set_eq hi, List.eraseIdx_set_eq] at this
  exact this
theorem sep_pick {f : α → HP} {k : Ctx} {w : World} {l : List HP} {xs : List α} {i : Nat} (hi : i < xs.length) (hO : Own k w (sep (xs.map f) :: l)) : Own k w (f (at_ xs i) :: sep ((xs.eraseIdx i).map f) :: l) := by
  have h1 : Own k w ((f (at_ xs i) :: (xs.eraseIdx i).map f) ++ l) := (Own.open hO).perm (List.Perm.append ((perm_at hi).map f) (List.Perm.refl _))
  have h2 : Own k w ((xs.eraseIdx i).map f ++ (f (at_ xs i) :: l)) := h1.perm (by
    rw [List.cons_append]
    exact (List.perm_middle).symm)
  exact (Own.shut h2).swap
theorem sep_put {f : α → HP} {k : Ctx} {w : World} {l : List HP} {xs : List α} {i : Nat} {y : α} (hi : i < xs.length) (hO : Own k w (f y :: sep ((xs.eraseIdx i).map f) :: l)) : Own k w (sep ((xs.set i y).map f) :: l) := by
  have h1 : Own k w ((xs.eraseIdx i).map f ++ (f y :: l)) := Own.open hO.swap
  exact Own.shut (h1.perm (List.perm_middle.trans (List.Perm.append ((perm_put hi y).symm.map f) (List.Perm.refl l))))
end
section
variable {P : Program} {ops : Array Oper} {Q : Exit → Act → World → Prop} {n : Nat} {ds : List Deferred} {E E' : Env} {w w' : World}
variable {rest : List Oper} {d : Option Tmp} {ty : TypeId} {pos : String} {aft : Array Edge} {g : Option (Nat × Bool)}
variable {k : Ctx} {l l' : List HP} {A A' : HP}
theorem CK (qs : List Key) {As rl m0 : List HP} [hp : AtKs l qs As rl m0] {f : FuncId} [hf : Fun P f] {xs : List Operand} {tys : Array TypeId} {vs : List Value} {R : Value → List HP → Prop} (hO : Own k w l) (hx : evl E xs = some vs)
    (hc : ∀ k', Ext k k' w → (∀ A ∈ rl, ∀ a cs, Has A a cs → Ro k' a cs) → Own k' w As → Tri P f vs.toArray k' w R)
    (h : ∀ v m w', R v m → Own k w' (m ++ rl) → LW P ops Q n ds rest (E.put d v) w') (hg : gd ops E g = some true := by rfl) (hd : dok n d = true := by rfl) :
    LW P ops Q n ds (⟨d, .call ⟨.value (.func f), xs.toArray, tys⟩, ty, pos, aft, g⟩ :: rest) E w := s_callO hO hp.pulls hg hd hx hc h
theorem sls_roK {p : Option Addr} {T : TypeId} {α : Type} {c sz : Nat} {enc : α → List Value} {xs : List α} {k' : Ctx} {rl rl' : List HP} (hr : ∀ A ∈ rl, ∀ a cs, Has A a cs → Ro k' a cs) [hm : AtK rl (.p p) (sls p c T sz enc xs) rl'] (h1 : xs.length ≤ c ∧ Gs p xs.length) : Sli (Ro k') (.slice p xs.length c) (xs.map enc) :=
  sls_ro (T := T) (sz := sz) hr (hm.pull.perm.mem_iff.2 List.mem_cons_self) h1
end
end Go.Hb
namespace Go.Hb
open Go Go.RowKit
section
variable {P : Program} {ops : Array Oper} {Q : Exit → Act → World → Prop} {n : Nat} {ds : List Deferred} {E E' : Env} {w w' : World}
variable {rest : List Oper} {d : Option Tmp} {ty : TypeId} {pos : String} {aft : Array Edge} {g : Option (Nat × Bool)}
variable {k : Ctx} {l l' : List HP} {A A' : HP}
theorem y_hd {t e : TypeId} {agg : Bool} {sz : Nat} [hu : Und P t (.slice e)] [hl : Lay P e agg sz] {x hi : Operand} {p : Option Addr} {len cap : Nat} {kd : IntKind} {z : Int} (j : Nat)
    (hx : ev E x = some (.slice p len cap)) (hh : ev E hi = some (.int kd z)) (hz : z = (j : Int) := by omega) (hj : j ≤ cap := by omega) : Yld P n ds E w ⟨d, .slice t x none (some hi) none, ty, pos, aft, g⟩ (.slice p j cap) := y_head j hx hh hz hj
theorem y_hd3 {t e : TypeId} {agg : Bool} {sz : Nat} [hu : Und P t (.slice e)] [hl : Lay P e agg sz] {x hi mx : Operand} {p : Option Addr} {len cap : Nat} {kd kd' : IntKind} {z z' : Int} (j m : Nat)
    (hx : ev E x = some (.slice p len cap)) (hh : ev E hi = some (.int kd z)) (hh' : ev E mx = some (.int kd' z')) (hz : z = (j : Int) := by omega) (hz' : z' = (m : Int) := by omega) (hj : j ≤ m := by omega) (hm : m ≤ cap := by omega) : Yld P n ds E w ⟨d, .slice t x none (some hi) (some mx), ty, pos, aft, g⟩ (.slice p j m) := y_head3 j m hx hh hz hh' hz' hj hm
/-- of what is owned only the beginning is kept -/
theorem sls_cut {p : Option Addr} {c sz : Nat} {T : TypeId} {α : Type} {enc : α → List Value} {xs : List α} (hO : Own k w (sls p c T sz enc xs :: l)) (j m : Nat) (hj : j ≤ xs.length) (hjm : j ≤ m) (hm : m ≤ c) : Own k w (sls p m T sz enc (xs.take j) :: l) := by
  refine hO.tell fun h hA => ?_
  have hlen : (xs.take j).length = j := by simp; omega
  rcases hA with ⟨he, h0⟩ | ⟨b, o, cap, he, hA⟩
  · injection he with e1 e2 e3
    have : xs = [] := by simpa using h0
    subst this
    exact .inl ⟨by simp [e1]; omega, by simp⟩
  · injection he with e1 e2 e3
    subst e1 e3
    obtain ⟨pre, spare, h1, h2, h3, h4, h5, h6⟩ := hA
    rw [List.length_map] at h3 h4
    have h2' : ∀ r ∈ (xs.take j).map enc, r.length = sz := fun r hr => h2 r (by rw [List.map_take] at hr; exact List.mem_of_mem_take hr)
    have h2d : ∀ r ∈ (xs.drop j).map enc, r.length = sz := fun r hr => h2 r (by rw [List.map_drop] at hr; exact List.mem_of_mem_drop hr)
    refine .inr ⟨b, o, m, by simp, pre, ((xs.drop j).map enc).flatten ++ spare, h1, h2', ?_, by simp; omega, by omega, ?_⟩
    · rw [List.length_append, flatten_length h2d, List.length_map, List.length_map, hlen, List.length_drop, ← Nat.add_assoc, ← Nat.add_mul, show j + (xs.length - j) = xs.length by omega]
      exact Nat.le_trans (Nat.mul_le_mul_right _ hm) h3
    · rw [h6]
      congr 2
      have : xs.map enc = (xs.take j).map enc ++ (xs.drop j).map enc := by rw [← List.map_append, List.take_append_drop]
      rw [this]
      simp only [List.flatten_append, List.append_assoc]
end
end Go.Hb
set_option linter.unusedVariables false
set_option linter.unusedSimpArgs false
namespace Go.Hb
open Go Go.RowKit
def noDefer : List Oper → Bool
  | [] => true
  | o :: l => (match o.op with | .defer _ => false | _ => true) && noDefer l
section
variable {P : Program} {ops : Array Oper} {Q : Exit → Act → World → Prop} {n : Nat} {ds : List Deferred} {E E' : Env} {w w' : World} {L : Nat}
theorem callsIn_round {f : FuncId} {args : Array Value} {R : Ending → World → Prop} {N : Nat} (h : Calls P f args w R) : CallsIn (Fence.wide.inRound L) N P f args w R := (callsIn_wide (n := N)).2 h
theorem rowsIn_any {F : Fence} (hF : F = Fence.wide ∨ ∃ L, F = Fence.wide.inRound L) {row : String} {args : Array Value} {R : Value → World → Prop} {N : Nat} (h : Rows P row args w R) : RowsIn F N P row args w R := fun c cs _ => by
  obtain ⟨v, w', r, s⟩ := h c cs
  refine ⟨v, w', r, ?_⟩
  rcases hF with rfl | ⟨L, rfl⟩
  · exact stepsIn_wide.2 s
  · exact stepsIn_wide.2 s
theorem list_in (hQ : ¬ LetsOut Q) : ∀ (l : List Oper) (a : Act) (w : World), noDefer l = true → wpList P ops Q l a w → wpListIn (Fence.wide.inRound L) 0 P ops Q l a w
  | [], _, _, _, h => h
  | o :: l, a, w, hd, h => by
    simp only [noDefer, Bool.and_eq_true] at hd
    unfold wpList at h
    unfold wpListIn
    split
    · next hw =>
      rw [if_pos hw] at h
      rcases h with h | ⟨_, hout⟩
      · refine ⟨fun _ _ => trivial, ?_⟩
        rw [Oper.semAt_eq _ _ _ (fun c hc => by rw [hc] at hd; exact absurd hd.1 (by simp))]
        unfold Oper.wp at h
        generalize (execOp a.eval o).run P w = r at h ⊢
        cases r with
        | ok x w1 =>
          cases x with
          | value v => exact list_in hQ l _ _ hd.2 h
          | skip => exact list_in hQ l _ _ hd.2 h
          | defer d => exact list_in hQ l _ _ hd.2 h
          | enter f args =>
            refine ⟨fun _ => by simp_all [Fence.inRound, Fence.wide], callsIn_round (Calls.mono h fun e w2 he => ?_)⟩
            cases e with
            | returned v => exact list_in hQ l _ _ hd.2 he
            | panicked c => exact he
            | outgrown => exact he
          | row r args =>
            refine ⟨fun _ => by simp_all [Fence.inRound, Fence.wide], rowsIn_any (.inr ⟨L, rfl⟩) ?_⟩
            intro c cs
            obtain ⟨v, w', r, s⟩ := h c cs
            exact ⟨v, w', list_in hQ l _ _ hd.2 r, s⟩
          | _ => exact h.elim
        | halt x w1 => cases x <;> first | exact h | exact h.elim
      · exact absurd hout hQ
    · next hw =>
      rw [if_neg hw] at h
      exact ⟨fun _ _ => trivial, list_in hQ l _ _ hd.2 h⟩
/-- code of a round of the loop whose record is L -/
def CR (P : Program) (Q : Exit → Act → World → Prop) (n : Nat) (L : Nat) (c : Code) (E : Env) (w : World) : Prop := ∀ a, Fits n [] E a → c.wpIn (Fence.wide.inRound L) 0 P Q a w
theorem then_out {K : Act → World → Prop} (h : ¬ LetsOut Q) : ¬ LetsOut (Exit.then K Q) := fun ⟨a, w, h2⟩ => h ⟨a, w, h2⟩
theorem block_out {id : Nat} (h : ¬ LetsOut Q) : ¬ LetsOut (Exit.inBlock id Q) := fun ⟨a, w, h2⟩ => h ⟨a, w, h2⟩
class NoOut (Q : Exit → Act → World → Prop) : Prop where
  no : ¬ LetsOut Q
instance NoOut.then (K : Act → World → Prop) (Q : Exit → Act → World → Prop) [h : NoOut Q] : NoOut (Exit.then K Q) := ⟨then_out h.no⟩
instance NoOut.block (id : Nat) (Q : Exit → Act → World → Prop) [h : NoOut Q] : NoOut (Exit.inBlock id Q) := ⟨block_out h.no⟩
instance NoOut.none : NoOut (fun _ _ _ => False) := ⟨fun ⟨_, _, h⟩ => h⟩
theorem CR1 {id : Nat} {l : List Oper} [hQ : NoOut Q] (h : LW P l.toArray Q n [] l E w) (hd : noDefer l = true := by rfl) : CR P Q n L (.region id l.toArray false) E w := fun a ha => wpIn_region_lit (list_in hQ.no l a w hd (h a ha))
theorem CR4 {id : Nat} {c : Code} (h : CR P (Exit.inBlock id Q) n L c E w) : CR P Q n L (.block id c) E w := fun a ha => wpIn_block (h a ha)
end
def loopO (st : LoopState) (pe : Option Code) (fn : FuncId) (tmps : Array Value) (ps : Array Tmp) (assign body : Code) (D : Nat) : Obj := .loop { state := st, pending := pe, fn, tmps, params := ps, assign, body, defers := D }
section
variable {P : Program} {n : Nat} {E : Env} {w w' : World} {L : Nat} {k : Ctx} {l : List HP}
/-- the round's end: what is asked of the world then -/
def RP (k : Ctx) (L : Nat) (fn : FuncId) (tmps : Array Value) (ps : Array Tmp) (assign body : Code) (D : Nat) (post : List HP → Prop) (stop : Code → List HP → Prop) : Ending → World → Prop := fun e w =>
  (e = .returned (.bool true) ∧ ∃ M, post M ∧ Own k w (obj L (loopO .ready none fn tmps ps assign body D) :: M)) ∨
  (∃ c, e = .returned (.bool false) ∧ ∃ M, stop c M ∧ Own k w (obj L (loopO .done (some c) fn tmps ps assign body D) :: M))
/-- what the body of a round leads to -/
def RQ (k : Ctx) (L : Nat) (fn : FuncId) (tmps : Array Value) (ps : Array Tmp) (assign body : Code) (D : Nat) (post : List HP → Prop) (stop : Code → List HP → Prop) : Exit → Act → World → Prop := fun e _ w => match e with
  | .normal => ∃ M, post M ∧ Own k w (obj L (loopO .busy none fn tmps ps assign body D) :: M)
  | .ret => ∃ M, stop .ret M ∧ Own k w (obj L (loopO .busy none fn tmps ps assign body D) :: M)
  | .exit id => ∃ M, stop (.exit id) M ∧ Own k w (obj L (loopO .busy none fn tmps ps assign body D) :: M)
  | _ => False
theorem RQ_out {fn : FuncId} {tmps : Array Value} {ps : Array Tmp} {assign body : Code} {D : Nat} {post : List HP → Prop} {stop : Code → List HP → Prop} : ¬ LetsOut (RQ k L fn tmps ps assign body D post stop) := fun ⟨_, _, h⟩ => h
instance RQ_noOut (k : Ctx) (L : Nat) (fn : FuncId) (tmps : Array Value) (ps : Array Tmp) (assign body : Code) (D : Nat) (post : List HP → Prop) (stop : Code → List HP → Prop) : NoOut (RQ k L fn tmps ps assign body D post stop) := ⟨RQ_out⟩
theorem obj_at {b : Nat} {o : Obj} (hO : Own k w (obj b o :: l)) : w.heap[b]? = some o := hO.heap fun hp hA hw => (hw b o hA).2
theorem Own.putObj {b : Nat} {o o' : Obj} (hO : Own k w (obj b o :: l)) : Own k (w.putObj b o') (obj b o' :: l) := by
  obtain ⟨w', rfl, hb, hO'⟩ := hO.setObj (o' := o')
  exact hO'
theorem round_ok {fn : FuncId} {tmps tmps' : Array Value} {ps : Array Tmp} {assign body : Code} {D : Nat} {post : List HP → Prop} {stop : Code → List HP → Prop} (hF : Fits n [] E { tmps := tmps', defers := [] }) (hO : Own k w (obj L (loopO .ready none fn tmps ps assign body D) :: l))
    (h : CR P (Exit.then (fun a w1 => ∃ E' l', Fits n [] E' a ∧ Own k w1 (obj L (loopO .ready none fn tmps ps assign body D) :: l') ∧ ∀ w2, Own k w2 (obj L (loopO .busy none fn tmps ps assign body D) :: l') → CR P (RQ k L fn tmps ps assign body D post stop) n L body E' w2) (fun _ _ _ => False)) n L assign E w) :
    RoundIn Fence.wide 0 P L fn tmps' assign body w (RP k L fn tmps ps assign body D post stop) := by
  refine roundIn_of_wpIn trivial (Code.wpIn_mono (fun e a w1 hq => ?_) (h _ hF))
  cases e with
  | normal =>
    obtain ⟨E', l', hF', hO1, hb⟩ := hq
    have hl := obj_at hO1
    refine ⟨_, run_beginRound hl rfl, Code.wpIn_mono (fun e a w3 hq3 => ?_) (hb _ (hO1.putObj (o' := loopO .busy none fn tmps ps assign body D)) a hF')⟩
    cases e with
    | normal =>
      obtain ⟨M, hp, hO3⟩ := hq3
      exact ⟨_, _, run_endRound none (obj_at hO3), .inl ⟨rfl, M, hp, hO3.putObj (o' := loopO .ready none fn tmps ps assign body D)⟩⟩
    | ret =>
      obtain ⟨M, hp, hO3⟩ := hq3
      exact ⟨_, _, run_endRound (some .ret) (obj_at hO3), .inr ⟨.ret, rfl, M, hp, hO3.putObj (o' := loopO .done (some .ret) fn tmps ps assign body D)⟩⟩
    | exit id =>
      obtain ⟨M, hp, hO3⟩ := hq3
      exact ⟨_, _, run_endRound (some (.exit id)) (obj_at hO3), .inr ⟨.exit id, rfl, M, hp, hO3.putObj (o' := loopO .done (some (.exit id)) fn tmps ps assign body D)⟩⟩
    | _ => exact hq3.elim
  | _ => exact hq.elim
/-- the assignments are done: the body begins -/
theorem q_assign {fn : FuncId} {tmps : Array Value} {ps : Array Tmp} {assign body : Code} {D : Nat} {post : List HP → Prop} {stop : Code → List HP → Prop} (hO : Own k w (obj L (loopO .ready none fn tmps ps assign body D) :: l))
    (h : ∀ w2, Own k w2 (obj L (loopO .busy none fn tmps ps assign body D) :: l) → CR P (RQ k L fn tmps ps assign body D post stop) n L body E w2) :
    QW (Exit.then (fun a w1 => ∃ E' l', Fits n [] E' a ∧ Own k w1 (obj L (loopO .ready none fn tmps ps assign body D) :: l') ∧ ∀ w2, Own k w2 (obj L (loopO .busy none fn tmps ps assign body D) :: l') → CR P (RQ k L fn tmps ps assign body D post stop) n L body E' w2) (fun _ _ _ => False)) n [] .normal E w :=
  fun a ha => ⟨E, l, ha, hO, h⟩
theorem q_bodyend {fn : FuncId} {tmps : Array Value} {ps : Array Tmp} {assign body : Code} {D : Nat} {post : List HP → Prop} {stop : Code → List HP → Prop} {M : List HP} (hp : post M) (hO : Own k w (obj L (loopO .busy none fn tmps ps assign body D) :: M)) :
    QW (RQ k L fn tmps ps assign body D post stop) n [] .normal E w := fun a ha => ⟨M, hp, hO⟩
end
section
variable {P : Program} {ops : Array Oper} {Q : Exit → Act → World → Prop} {n : Nat} {ds : List Deferred} {E E' : Env} {w w' : World} {rest : List Oper}
variable {d : Option Tmp} {ty : TypeId} {pos : String} {aft : Array Edge} {g : Option (Nat × Bool)} {k : Ctx} {l : List HP}
/-- a region in which yield is called -/
def LX (P : Program) (ops : Array Oper) (Q : Exit → Act → World → Prop) (n : Nat) (ds : List Deferred) (l : List Oper) (E : Env) (w : World) : Prop := ∀ a, Fits n ds E a → wpListIn Fence.wide 0 P ops Q l a w
theorem x_region {id : Nat} {lo : List Oper} (h : LX P lo.toArray Q n ds lo E w) : CW P Q n ds (.region id lo.toArray false) E w := fun a ha => wpIn_wide.1 (wpIn_region_lit (h a ha))
theorem x_nil (h : QW Q n ds .normal E w) : LX P ops Q n ds [] E w := fun a ha => h a ha
theorem x_y {o : Oper} {v : Value} (hg : gd ops E o.guard = some true) (hd : dok n o.dst = true) (hy : Yld P n ds E w o v) (h : LX P ops Q n ds rest (E.put o.dst v) w) : LX P ops Q n ds (o :: rest) E w := fun a ha => by
  unfold wpListIn
  rw [if_pos (gd_sound ha hg)]
  refine ⟨fun _ _ => trivial, ?_⟩
  show o.uponIn Fence.wide 0 P a _ Q ((execOp a.eval o).run P w)
  rw [hy.run a ha]
  exact h _ (ha.put hd v)
theorem x_pass {o : Oper} (hg : gd ops E o.guard = some false) (hd : dok n o.dst = true) (h : LX P ops Q n ds rest (E.put o.dst undef) w) : LX P ops Q n ds (o :: rest) E w := fun a ha => by
  unfold wpListIn
  rw [if_neg (by rw [gd_sound ha hg]; simp)]
  exact ⟨fun _ _ => trivial, h _ (ha.put hd _)⟩
theorem x_split (t : Nat) {b : Bool} {l : List Oper} (hb : look E t = some (.bool b)) (h1 : b = true → LX P ops Q n ds l ((t, .bool true) :: E) w) (h2 : b = false → LX P ops Q n ds l ((t, .bool false) :: E) w) : LX P ops Q n ds l E w := fun a ha => by
  have key : ∀ c, b = c → Fits n ds ((t, .bool c) :: E) a := fun c e => ⟨ha.size, ha.defers, fun u v hu => by
    have := look_put E t (.bool c) u
    simp only [Env.put] at this
    rw [this] at hu
    split at hu
    · next e2 => subst e2; cases hu; rw [← e]; exact ha.at_ _ _ hb
    · exact ha.at_ _ _ hu⟩
  cases b
  · exact h2 rfl a (key false rfl)
  · exact h1 rfl a (key true rfl)
theorem x_round {o : Oper} {L : Nat} {fn : FuncId} {tmps : Array Value} {assign body : Code} {R : Ending → World → Prop} (hg : gd ops E o.guard = some true) (hd : dok n o.dst = true) (hrun : ∀ a, Fits n ds E a → (execOp a.eval o).run P w = .ok (.round L fn tmps assign body) w)
    (hr : RoundIn Fence.wide 0 P L fn tmps assign body w R) (hR : ∀ e w', R e w' → ∃ v, e = .returned v ∧ LX P ops Q n ds rest (E.put o.dst v) w') : LX P ops Q n ds (o :: rest) E w := fun a ha => by
  unfold wpListIn
  rw [if_pos (gd_sound ha hg)]
  refine ⟨fun _ _ => trivial, ?_⟩
  show o.uponIn Fence.wide 0 P a _ Q ((execOp a.eval o).run P w)
  rw [hrun a ha]
  refine ⟨fun h => by simp [Fence.wide] at h, hr.mono fun e w' he => ?_⟩
  obtain ⟨v, rfl, h⟩ := hR e w' he
  exact h _ (ha.put hd _)
/-- yield is called -/
theorem x_yield {x : Operand} {xs : List Operand} {tys : Array TypeId} {L : Nat} {vs : List Value} {fn : FuncId} {tmps : Array Value} {ps : Array Tmp} {assign body : Code} {D : Nat} {post : List HP → Prop} {stop : Code → List HP → Prop} (hO : Own k w (obj L (loopO .ready none fn tmps ps assign body D) :: l))
    (hx : ev E x = some (.func (.yield L) #[] #[])) (hv : evl E xs = some vs) (hs : vs.length = ps.size)
    (hr : RoundIn Fence.wide 0 P L fn ((ps.zip vs.toArray).foldl (fun tmps (t, a) => tmps.setIfInBounds t a) tmps) assign body w (RP k L fn tmps ps assign body D post stop))
    (h1 : ∀ w' M, post M → Own k w' (obj L (loopO .ready none fn tmps ps assign body D) :: M) → LX P ops Q n ds rest (E.put d (.bool true)) w')
    (h2 : ∀ w' c M, stop c M → Own k w' (obj L (loopO .done (some c) fn tmps ps assign body D) :: M) → LX P ops Q n ds rest (E.put d (.bool false)) w')
    (hg : gd ops E g = some true := by rfl) (hd : dok n d = true := by rfl) :
    LX P ops Q n ds (⟨d, .call ⟨.value x, xs.toArray, tys⟩, ty, pos, aft, g⟩ :: rest) E w :=
  x_round (o := ⟨d, .call ⟨.value x, xs.toArray, tys⟩, ty, pos, aft, g⟩) hg hd (fun a ha => by
    have hvs := evl_sound ha xs vs hv
    have hy := run_yield (P := P) (args := vs.toArray) (obj_at hO) (by simpa using hs)
    simp [execOp, resolve, ha.eval hx, Deferred.ofValue, invoke, hvs, hy]) hr fun e w' he => by
    rcases he with ⟨rfl, M, hp, hO'⟩ | ⟨c, rfl, M, hp, hO'⟩
    · exact ⟨_, rfl, h1 w' M hp hO'⟩
    · exact ⟨_, rfl, h2 w' c M hp hO'⟩
def markD (D : Nat) : Deferred := { target := .collected D, args := #[] }
theorem c_range {gx : Operand} {ps : Array Tmp} {assign body : Code} {gf : FuncId} [hf : Fun P gf] {lb : List Value} {done : List HP → Prop} {stop : Code → List HP → Prop} (hO : Own k w l) (hg : ev E gx = some (.func (.func gf) #[] lb.toArray))
    (hcall : ∀ (fn : FuncId) (tmps : Array Value) (L D : Nat) (w1 : World), Fits n [] E { tmps, defers := [] } → Own k w1 (obj L (loopO .ready none fn tmps ps assign body D) :: obj D (.deferred (some [])) :: l) →
      Ret P gf (.func (.yield L) #[] #[] :: lb).toArray w1 fun _ w2 =>
        (∃ M, done M ∧ Own k w2 (obj L (loopO .ready none fn tmps ps assign body D) :: obj D (.deferred (some [])) :: M)) ∨
        (∃ c M, stop c M ∧ Own k w2 (obj L (loopO .done (some c) fn tmps ps assign body D) :: obj D (.deferred (some [])) :: M)))
    (hdone : ∀ D w3 M, done M → Own k w3 (obj D (.deferred (some [])) :: M) → QW Q n (markD D :: ds) .normal E w3)
    (hstop : ∀ D w3 c M, stop c M → Own k w3 (obj D (.deferred (some [])) :: M) → CW P Q n (markD D :: ds) c E w3) : CW P Q n ds (.rangeFunc gx ps assign body) E w := by
  intro a ha
  refine wpIn_wide (n := 0).1 (wpIn_rangeFunc fun fn _ => ?_)
  have hO1 := hO.obj_alloc (.deferred (some []))
  have hO2 := hO1.obj_alloc (loopO .ready none fn a.tmps ps assign body w.heap.size)
  have hsz : (w.alloc (.deferred (some []))).heap.size = w.heap.size + 1 := by simp [World.size_alloc]
  rw [hsz] at hO2
  have hc := hcall fn a.tmps (w.heap.size + 1) w.heap.size _ ⟨ha.size, rfl, ha.at_⟩ hO2
  refine ⟨w.heap.size + 1, [markD w.heap.size], _, { target := .fn (.func gf) lb.toArray, args := #[.func (.yield (w.heap.size + 1)) #[] #[]] }, (w.alloc (.deferred (some []))).alloc (loopO .ready none fn a.tmps ps assign body w.heap.size), gf, (.func (.yield (w.heap.size + 1)) #[] #[] :: lb).toArray, (w.alloc (.deferred (some []))).alloc (loopO .ready none fn a.tmps ps assign body w.heap.size), run_enterLoop_outer _ _ _ _ _, ?_, fun _ _ => trivial, ?_, fun h => by simp [Fence.wide] at h, callsIn_wide.2 ?_⟩
  · simp [resolve, ha.eval hg, Deferred.ofValue]
    exact ⟨rfl, rfl⟩
  · simp [invoke, hf.call]
  · refine Calls.mono hc ?_
    rintro e w2 ⟨v, rfl, h⟩
    have hF : Fits n (markD w.heap.size :: ds) E { a with defers := [markD w.heap.size] ++ a.defers } := ⟨ha.size, by simp [ha.defers], ha.at_⟩
    rcases h with ⟨M, hd, hO3⟩ | ⟨c, M, hd, hO3⟩
    · refine ⟨none, _, run_endLoop (obj_at hO3) (by simp [loopO]), ?_⟩
      exact hdone _ _ M hd (hO3.putObj (o' := loopO .exhausted none fn a.tmps ps assign body w.heap.size)).drop _ hF
    · refine ⟨some c, _, run_endLoop (obj_at hO3) (by simp [loopO]), ?_⟩
      exact wpIn_wide.2 (hstop _ _ c M hd (hO3.putObj (o' := loopO .exhausted (some c) fn a.tmps ps assign body w.heap.size)).drop _ hF)
theorem enterM {f : FuncId} {fn : Func} {c : Code} {args : List Value} {w : World} {T : Value → World → Prop} (hf : P.funcs[f]? = some fn) (hb : fn.body = some c) (hn : Nat.ble args.length fn.ntmps = true)
    (h : CW P (bodyPostM Fence.wide 0 P fn fun e w' => ∃ v, e = .returned v ∧ T v w') fn.ntmps [] c (args.zipIdx.map fun p => (p.2, p.1)) w) : Ret P f args.toArray w T :=
  callsIn_wide.1 (callsIn_of_wp_marks (n := 0) hf hb trivial (wpIn_wide.2 (h _ (Fits.start args fn.ntmps (by simpa using hn)))))
theorem finM0 {fn : Func} {T : Value → World → Prop} {R : Value → World → Prop} (h : QW (bodyPost P fn fun e w' => ∃ v, e = .returned v ∧ T v w') n [] .ret E w) : QW (bodyPostM Fence.wide 0 P fn fun e w' => ∃ v, e = .returned v ∧ T v w') n [] .ret E w := fun a ha => by
  obtain ⟨hd, v, hr, hT⟩ := h a ha
  show LeavesInM _ _ _ _ _ _ a.defers _ _
  rw [hd]
  exact ⟨v, hr, hT⟩
theorem finM {fn : Func} {T : Value → World → Prop} {D : Nat} (hO : Own k w (obj D (.deferred (some [])) :: l)) (h : ∀ w', Own k w' l → QW (bodyPost P fn fun e w' => ∃ v, e = .returned v ∧ T v w') n [] .ret E w') : QW (bodyPostM Fence.wide 0 P fn fun e w' => ∃ v, e = .returned v ∧ T v w') n [markD D] .ret E w := fun a ha => by
  have hO2 := (hO.putObj (o' := .deferred none)).drop
  obtain ⟨_, v, hr, hT⟩ := h _ hO2 { a with defers := [] } ⟨ha.size, rfl, ha.at_⟩
  show LeavesInM _ _ _ _ _ _ a.defers _ _
  rw [ha.defers]
  exact ⟨by simp, .inl ⟨D, _, rfl, run_takeDeferred (obj_at hO), v, hr, hT⟩⟩
end
end Go.Hb
set_option linter.unusedVariables false
set_option linter.unusedSimpArgs false
namespace Go.Hb
open Go Go.RowKit
theorem ba_inj {a b : ByteArray} : a.toList = b.toList ↔ a = b := by
  simp only [ByteArray.toList_eq]
  exact ⟨fun h => by cases a; cases b; congr 1; exact Array.toList_inj.1 h, fun h => by rw [h]⟩
/-- structs of this type are the same if and only if they show the same -/
class EqT (P : Program) (t : TypeId) {α : Type} [DecidableEq α] (enc : α → List Value) : Prop where
  guard : P.eqGuardType P.depth t = false
  eq : ∀ (x y : α) (w : World), (Op.equalIn 10000 t (.agg (enc x).toArray) (.agg (enc y).toArray)).run P w = .ok (decide (x = y)) w
section
variable {P : Program} {n : Nat} {ds : List Deferred} {E : Env} {w : World} {d : Option Tmp} {ty : TypeId} {pos : String} {aft : Array Edge} {g : Option (Nat × Bool)}
variable {α : Type} [DecidableEq α] {enc : α → List Value}
theorem y_neA {t u : TypeId} [h : EqT P t enc] {x y : Operand} {a b : α} {c : Bool} (hx : ev E x = some (.agg (enc a).toArray)) (hy : ev E y = some (.agg (enc b).toArray)) (hc : (!decide (a = b)) = c) : Yld P n ds E w ⟨d, .binOp .neq t x y u, ty, pos, aft, g⟩ (.bool c) :=
  ⟨fun f hf => by
    simp only [execOp, Sem.run_bind, hf.eval hx, hf.eval hy, Result.andThen_ok, run_eqGuard_agg _ _ _ _ _ _ _ h.guard, run_neq_struct, h.eq, hc, Sem.run_pure]⟩
theorem y_max {t u : TypeId} {x y : Operand} {kd : IntKind} {a b : Int} (hx : ev E x = some (.int kd a)) (hy : ev E y = some (.int kd b)) : Yld P n ds E w ⟨d, .call ⟨.builtin .max, #[x, y], #[t, u]⟩, ty, pos, aft, g⟩ (.int kd (max a b)) :=
  y_built (xs := [x, y]) (vs := [.int kd a, .int kd b]) (by simp [evl, hx, hy]) (fun cs => by
    simp [builtin, Builtin.max_, Builtin.max2]
    omega)
end
section
variable {P : Program} {ops : Array Oper} {Q : Exit → Act → World → Prop} {n : Nat} {ds : List Deferred} {E : Env} {w : World} {k : Ctx} {l : List HP}
variable {rest : List Oper} {d : Option Tmp} {ty : TypeId} {pos : String} {aft : Array Edge} {g : Option (Nat × Bool)}
/-- a call of a function's value -/
theorem CKv (qs : List Key) {As rl m0 : List HP} [hp : AtKs l qs As rl m0] {f : FuncId} [hf : Fun P f] {x : Operand} {xs : List Operand} {tys : Array TypeId} {first captured vs : List Value} {R : Value → List HP → Prop} (hO : Own k w l) (hv : ev E x = some (.func (.func f) first.toArray captured.toArray)) (hx : evl E xs = some vs)
    (hc : ∀ k', Ext k k' w → (∀ A ∈ rl, ∀ a cs, Has A a cs → Ro k' a cs) → Own k' w As → Tri P f (first ++ vs ++ captured).toArray k' w R)
    (h : ∀ v m w', R v m → Own k w' (m ++ rl) → LW P ops Q n ds rest (E.put d v) w') (hg : gd ops E g = some true := by rfl) (hd : dok n d = true := by rfl) :
    LW P ops Q n ds (⟨d, .call ⟨.value x, xs.toArray, tys⟩, ty, pos, aft, g⟩ :: rest) E w := s_callvO hO hp.pulls hg hd hv hx hc h
end
theorem blk_sli {H : Addr → List Value → Prop} {b m : Nat} {vs : List Value} {α : Type} {enc : α → List Value} {xs : List α} (h : H ⟨b, 0, none⟩ vs) (hv : vs = (xs.map enc).flatten) (hm : m = xs.length) : Sli H (.slice (some ⟨b, 0, none⟩) m m) (xs.map enc) := by
  subst hm
  exact ⟨some ⟨b, 0, none⟩, xs.length, by rw [List.length_map], by rw [List.length_map]; exact Nat.le_refl _, fun _ => ⟨b, 0, rfl, hv ▸ h⟩⟩
theorem has_blk {b : Nat} {T : TypeId} {vs : List Value} : Has (blk b T vs) ⟨b, 0, none⟩ vs := Has.ofBlk fun j v hv => by rw [Nat.zero_add]; exact hv
/-- .. to a callee, of what its caller keeps -/
theorem blk_ro {k' : Ctx} {rl rl' : List HP} {b m : Nat} {T : TypeId} {vs : List Value} (hr : ∀ A ∈ rl, ∀ a cs, Has A a cs → Ro k' a cs) [hm : AtK rl (.b b) (blk b T vs) rl'] {α : Type} {enc : α → List Value} {xs : List α} (hv : vs = (xs.map enc).flatten := by rfl) (hl : m = xs.length := by rfl) : Sli (Ro k') (.slice (some ⟨b, 0, none⟩) m m) (xs.map enc) :=
  blk_sli (hr _ (hm.pull.perm.mem_iff.2 List.mem_cons_self) _ _ has_blk) hv hl
section
variable {P : Program} {Q : Exit → Act → World → Prop} {n : Nat} {ds : List Deferred} {E : Env} {w : World} {l : Nat}
theorem c_goto (h : QW Q n ds (.goto l) E w) : CW P Q n ds (.goto l) E w := fun a ha => wp_goto (h a ha)
theorem GT1 {K : Act → World → Prop} (h : QW Q n ds (.goto l) E w) : QW (Exit.then K Q) n ds (.goto l) E w := fun a ha => h a ha
theorem c_scopeJ {X : Type} (En : X → Env) (I : X → World → Prop) {c rest : Code} (l : Nat) (hf : findLabel c l = some rest)
    (h1 : CW P (Exit.jump l (fun a w => ∃ x, Fits n ds (En x) a ∧ I x w) Q) n ds c E w)
    (h2 : ∀ x w, I x w → CW P (Exit.noGoto Q) n ds rest (En x) w) : CW P Q n ds (.scope c) E w := fun a ha =>
  wp_scope_jumps l (fun a w => ∃ x, Fits n ds (En x) a ∧ I x w) (fun _ _ => 0) hf (h1 a ha) fun a w ⟨x, hx, hI⟩ => wp_mono (h2 x w hI a hx) fun e a' w' hq => by
    cases e with
    | goto _ => exact hq.elim
    | _ => exact hq
theorem q_goto {X : Type} {En : X → Env} {I : X → World → Prop} (x : X) (hE : E.all (En x)) (hI : I x w) : QW (Exit.jump l (fun a w => ∃ x, Fits n ds (En x) a ∧ I x w) Q) n ds (.goto l) E w := fun a ha => ⟨rfl, x, ha.weaken hE, hI⟩
theorem J4 {J : Act → World → Prop} (h : QW Q n ds .ret E w) : QW (Exit.jump l J Q) n ds .ret E w := fun a ha => h a ha
end
end Go.Hb
set_option linter.unusedVariables false
set_option linter.unusedSimpArgs false
namespace Go.Hb
open Go Go.RowKit
section
variable {P : Program} {ops : Array Oper} {Q : Exit → Act → World → Prop} {n : Nat} {ds : List Deferred} {E : Env} {w : World}
/-- entering a function that defers calls -/
theorem enterD {f : FuncId} {fn : Func} {c : Code} {args : List Value} {T : Value → World → Prop} (hf : P.funcs[f]? = some fn) (hb : fn.body = some c) (hn : Nat.ble args.length fn.ntmps = true)
    (h : CW P (bodyPostD P fn fun e w' => ∃ v, e = .returned v ∧ T v w') fn.ntmps [] c (args.zipIdx.map fun p => (p.2, p.1)) w) : Ret P f args.toArray w T :=
  calls_of_wp_defers hf hb (h _ (Fits.start args fn.ntmps (by simpa using hn)))
/-- nothing was deferred on this way -/
theorem finD0 {fn : Func} {T : Value → World → Prop} (h : QW (bodyPost P fn fun e w' => ∃ v, e = .returned v ∧ T v w') n [] .ret E w) : QW (bodyPostD P fn fun e w' => ∃ v, e = .returned v ∧ T v w') n [] .ret E w := fun a ha => by
  obtain ⟨hd, v, hr, hT⟩ := h a ha
  show Leaves P fn a.tmps _ a.defers .returning w
  rw [hd]
  exact ⟨v, hr, hT⟩
end
end Go.Hb
set_option linter.unusedVariables false
set_option linter.unusedSimpArgs false
namespace Go.Hb
open Go Go.RowKit
section
variable {P : Program} {ops : Array Oper} {Q : Exit → Act → World → Prop} {n : Nat} {ds : List Deferred} {E : Env} {w : World} {k : Ctx} {l rl : List HP}
variable {rest : List Oper} {d : Option Tmp} {ty : TypeId} {pos : String} {aft : Array Edge} {g : Option (Nat × Bool)}
end
section
variable {P : Program} {ops : Array Oper} {Q : Exit → Act → World → Prop} {n : Nat} {ds : List Deferred} {E : Env} {w : World} {k : Ctx} {l rl : List HP}
variable {rest : List Oper} {d : Option Tmp} {ty : TypeId} {pos : String} {aft : Array Edge} {g : Option (Nat × Bool)}
end
end Go.Hb
end
section
set_option linter.unusedVariables false
namespace Go.Proofs.YtpejdlfkaaiehaaGreatDoor
open Go Go.Hb
instance : Und Tryz.prog 3 (.int .i64) := ⟨Tryz.underlying3⟩
instance : Lay Tryz.prog 3 false 1 := ⟨Tryz.isAgg3, Tryz.sizeOf3⟩
instance : Elt Tryz.prog 3 1 8 (.int .i64 0) := Elt.mk' Tryz.typeInfo3 rfl rfl rfl rfl
instance : Und Tryz.prog 4 (.bool) := ⟨Tryz.underlying4⟩
instance : Lay Tryz.prog 4 false 1 := ⟨Tryz.isAgg4, Tryz.sizeOf4⟩
instance : Und Tryz.prog 5 (.int .u8) := ⟨Tryz.underlying5⟩
instance : Lay Tryz.prog 5 false 1 := ⟨Tryz.isAgg5, Tryz.sizeOf5⟩
instance : Elt Tryz.prog 5 1 1 (.int .u8 0) := Elt.mk' Tryz.typeInfo5 rfl rfl rfl rfl
instance : Und Tryz.prog 9 (.string) := ⟨Tryz.underlying9⟩
instance : Lay Tryz.prog 9 false 1 := ⟨Tryz.isAgg9, Tryz.sizeOf9⟩
instance : Elt Tryz.prog 9 1 16 (.string ⟨#[]⟩) := Elt.mk' Tryz.typeInfo9 rfl rfl rfl rfl
instance : Und Tryz.prog 21 (.int .i32) := ⟨Tryz.underlying21⟩
instance : Lay Tryz.prog 21 false 1 := ⟨Tryz.isAgg21, Tryz.sizeOf21⟩
instance : Elt Tryz.prog 21 1 4 (.int .i32 0) := Elt.mk' Tryz.typeInfo21 rfl rfl rfl rfl
instance : Und Tryz.prog 22 (.pointer 54) := ⟨Tryz.underlying22⟩
instance : Lay Tryz.prog 22 false 1 := ⟨Tryz.isAgg22, Tryz.sizeOf22⟩
instance : Und Tryz.prog 24 (.pointer 65) := ⟨Tryz.underlying24⟩
instance : Und Tryz.prog 28 (.slice 9) := ⟨Tryz.underlying28⟩
instance : Und Tryz.prog 30 (.slice 81) := ⟨Tryz.underlying30⟩
instance : Lay Tryz.prog 30 false 1 := ⟨Tryz.isAgg30, Tryz.sizeOf30⟩
instance : Lay Tryz.prog 32 true 9 := ⟨Tryz.isAgg32, Tryz.sizeOf32⟩
instance : Und Tryz.prog 33 (.slice 3) := ⟨Tryz.underlying33⟩
instance : Lay Tryz.prog 33 false 1 := ⟨Tryz.isAgg33, Tryz.sizeOf33⟩
instance : Zer Tryz.prog 33 (.slice none 0 0) := ⟨Tryz.zeroValue33⟩
instance : Und Tryz.prog 35 (.slice 76) := ⟨Tryz.underlying35⟩
instance : Lay Tryz.prog 35 false 1 := ⟨Tryz.isAgg35, Tryz.sizeOf35⟩
instance : Lay Tryz.prog 38 true 12 := ⟨Tryz.isAgg38, Tryz.sizeOf38⟩
instance : Zer Tryz.prog 38 (.agg #[.int .i64 0, .int .i64 0, .string ⟨#[]⟩, .slice none 0 0, .string ⟨#[]⟩, .string ⟨#[]⟩, .int .i64 0, .int .i64 0, .int .i64 0, .int .i64 0, .int .i64 0, .int .i64 0]) := ⟨Tryz.zeroValue38⟩
instance : Und Tryz.prog 42 (.slice 5) := ⟨Tryz.underlying42⟩
instance : Lay Tryz.prog 50 true 13 := ⟨Tryz.isAgg50, Tryz.sizeOf50⟩
instance : Zer Tryz.prog 50 (.agg #[.int .i64 0, .int .i64 0, .string ⟨#[]⟩, .slice none 0 0, .string ⟨#[]⟩, .string ⟨#[]⟩, .int .i64 0, .int .i64 0, .int .i64 0, .int .i64 0, .int .i64 0, .int .i64 0, .int .i64 0]) := ⟨Tryz.zeroValue50⟩
instance : Elt Tryz.prog 50 13 144 (.agg #[.int .i64 0, .int .i64 0, .string ⟨#[]⟩, .slice none 0 0, .string ⟨#[]⟩, .string ⟨#[]⟩, .int .i64 0, .int .i64 0, .int .i64 0, .int .i64 0, .int .i64 0, .int .i64 0, .int .i64 0]) := Elt.mk' Tryz.typeInfo50 rfl rfl rfl rfl
instance : Und Tryz.prog 52 (.slice 50) := ⟨Tryz.underlying52⟩
instance : Lay Tryz.prog 52 false 1 := ⟨Tryz.isAgg52, Tryz.sizeOf52⟩
instance : Und Tryz.prog 55 (.pointer 100) := ⟨Tryz.underlying55⟩
instance : Lay Tryz.prog 55 false 1 := ⟨Tryz.isAgg55, Tryz.sizeOf55⟩
instance : Und Tryz.prog 58 (.pointer 102) := ⟨Tryz.underlying58⟩
instance : Lay Tryz.prog 58 false 1 := ⟨Tryz.isAgg58, Tryz.sizeOf58⟩
instance : Und Tryz.prog 61 (.map 3 71) := ⟨Tryz.underlying61⟩
instance : Lay Tryz.prog 61 false 1 := ⟨Tryz.isAgg61, Tryz.sizeOf61⟩
instance : Und Tryz.prog 63 (.slice 21) := ⟨Tryz.underlying63⟩
instance : Lay Tryz.prog 67 true 9 := ⟨Tryz.isAgg67, Tryz.sizeOf67⟩
instance : Zer Tryz.prog 67 (.agg #[.int .i64 0, .string ⟨#[]⟩, .string ⟨#[]⟩, .string ⟨#[]⟩, .int .i64 0, .bool false, .int .i32 0, .bool false, .slice none 0 0]) := ⟨Tryz.zeroValue67⟩
instance : Lay Tryz.prog 71 false 1 := ⟨Tryz.isAgg71, Tryz.sizeOf71⟩
instance : Lay Tryz.prog 76 true 10 := ⟨Tryz.isAgg76, Tryz.sizeOf76⟩
instance : Zer Tryz.prog 76 (.agg #[.int .i64 0, .int .i64 0, .string ⟨#[]⟩, .string ⟨#[]⟩, .string ⟨#[]⟩, .int .i64 0, .bool false, .int .i32 0, .bool false, .slice none 0 0]) := ⟨Tryz.zeroValue76⟩
instance : Lay Tryz.prog 81 true 4 := ⟨Tryz.isAgg81, Tryz.sizeOf81⟩
instance : Zer Tryz.prog 81 (.agg #[.int .i64 0, .string ⟨#[]⟩, .string ⟨#[]⟩, .string ⟨#[]⟩]) := ⟨Tryz.zeroValue81⟩
instance : Elt Tryz.prog 81 4 56 (.agg #[.int .i64 0, .string ⟨#[]⟩, .string ⟨#[]⟩, .string ⟨#[]⟩]) := Elt.mk' Tryz.typeInfo81 rfl rfl rfl rfl
instance : Und Tryz.prog 87 (.slice 92) := ⟨Tryz.underlying87⟩
instance : Lay Tryz.prog 87 false 1 := ⟨Tryz.isAgg87, Tryz.sizeOf87⟩
instance : Zer Tryz.prog 89 (.agg #[.slice none 0 0]) := ⟨Tryz.zeroValue89⟩
instance : Lay Tryz.prog 92 true 2 := ⟨Tryz.isAgg92, Tryz.sizeOf92⟩
instance : Zer Tryz.prog 92 (.agg #[.int .i64 0, .int .i64 0]) := ⟨Tryz.zeroValue92⟩
instance : Elt Tryz.prog 92 2 16 (.agg #[.int .i64 0, .int .i64 0]) := Elt.mk' Tryz.typeInfo92 rfl rfl rfl rfl
instance : Lay Tryz.prog 98 true 1 := ⟨Tryz.isAgg98, Tryz.sizeOf98⟩
instance : Lay Tryz.prog 117 true 2 := ⟨Tryz.isAgg117, Tryz.sizeOf117⟩
instance : Zer Tryz.prog 117 (.agg #[.int .i64 0, .int .i64 0]) := ⟨Tryz.zeroValue117⟩
instance : Und Tryz.prog 126 (.slice 129) := ⟨Tryz.underlying126⟩
instance : Lay Tryz.prog 129 true 2 := ⟨Tryz.isAgg129, Tryz.sizeOf129⟩
instance : Zer Tryz.prog 129 (.agg #[.string ⟨#[]⟩, .nilFunc]) := ⟨Tryz.zeroValue129⟩
instance : Elt Tryz.prog 129 2 24 (.agg #[.string ⟨#[]⟩, .nilFunc]) := Elt.mk' Tryz.typeInfo129 rfl rfl rfl rfl
instance : Und Tryz.prog 147 (.array 10 9) := ⟨Tryz.underlying147⟩
instance : Lay Tryz.prog 147 true 10 := ⟨Tryz.isAgg147, Tryz.sizeOf147⟩
instance : Zer Tryz.prog 147 (.agg #[.string ⟨#[]⟩, .string ⟨#[]⟩, .string ⟨#[]⟩, .string ⟨#[]⟩, .string ⟨#[]⟩, .string ⟨#[]⟩, .string ⟨#[]⟩, .string ⟨#[]⟩, .string ⟨#[]⟩, .string ⟨#[]⟩]) := ⟨Tryz.zeroValue147⟩
instance : Und Tryz.prog 191 (.array 6 9) := ⟨Tryz.underlying191⟩
instance : Lay Tryz.prog 191 true 6 := ⟨Tryz.isAgg191, Tryz.sizeOf191⟩
instance : Zer Tryz.prog 191 (.agg #[.string ⟨#[]⟩, .string ⟨#[]⟩, .string ⟨#[]⟩, .string ⟨#[]⟩, .string ⟨#[]⟩, .string ⟨#[]⟩]) := ⟨Tryz.zeroValue191⟩
instance : Und Tryz.prog 193 (.array 3 9) := ⟨Tryz.underlying193⟩
instance : Lay Tryz.prog 193 true 3 := ⟨Tryz.isAgg193, Tryz.sizeOf193⟩
instance : Zer Tryz.prog 193 (.agg #[.string ⟨#[]⟩, .string ⟨#[]⟩, .string ⟨#[]⟩]) := ⟨Tryz.zeroValue193⟩
instance : Und Tryz.prog 245 (.array 9 9) := ⟨Tryz.underlying245⟩
instance : Lay Tryz.prog 245 true 9 := ⟨Tryz.isAgg245, Tryz.sizeOf245⟩
instance : Zer Tryz.prog 245 (.agg #[.string ⟨#[]⟩, .string ⟨#[]⟩, .string ⟨#[]⟩, .string ⟨#[]⟩, .string ⟨#[]⟩, .string ⟨#[]⟩, .string ⟨#[]⟩, .string ⟨#[]⟩, .string ⟨#[]⟩]) := ⟨Tryz.zeroValue245⟩
instance : Fld Tryz.prog 32 0 0 := Fld.mk' Tryz.underlying32 rfl rfl (inferInstance : Lay Tryz.prog 3 false 1)
instance : Fld Tryz.prog 32 1 1 := Fld.mk' Tryz.underlying32 rfl rfl (inferInstance : Lay Tryz.prog 9 false 1)
instance : Fld Tryz.prog 32 2 2 := Fld.mk' Tryz.underlying32 rfl rfl (inferInstance : Lay Tryz.prog 9 false 1)
instance : Fld Tryz.prog 32 3 3 := Fld.mk' Tryz.underlying32 rfl rfl (inferInstance : Lay Tryz.prog 9 false 1)
instance : Fld Tryz.prog 32 6 6 := Fld.mk' Tryz.underlying32 rfl rfl (inferInstance : Lay Tryz.prog 21 false 1)
instance : Fld Tryz.prog 32 7 7 := Fld.mk' Tryz.underlying32 rfl rfl (inferInstance : Lay Tryz.prog 4 false 1)
instance : Fld Tryz.prog 32 8 8 := Fld.mk' Tryz.underlying32 rfl rfl (inferInstance : Lay Tryz.prog 30 false 1)
instance : Fld Tryz.prog 38 0 0 := Fld.mk' Tryz.underlying38 rfl rfl (inferInstance : Lay Tryz.prog 3 false 1)
instance : Fld Tryz.prog 38 1 1 := Fld.mk' Tryz.underlying38 rfl rfl (inferInstance : Lay Tryz.prog 3 false 1)
instance : Fld Tryz.prog 38 2 2 := Fld.mk' Tryz.underlying38 rfl rfl (inferInstance : Lay Tryz.prog 9 false 1)
instance : Fld Tryz.prog 38 3 3 := Fld.mk' Tryz.underlying38 rfl rfl (inferInstance : Lay Tryz.prog 30 false 1)
instance : Fld Tryz.prog 38 4 4 := Fld.mk' Tryz.underlying38 rfl rfl (inferInstance : Lay Tryz.prog 9 false 1)
instance : Fld Tryz.prog 38 5 5 := Fld.mk' Tryz.underlying38 rfl rfl (inferInstance : Lay Tryz.prog 9 false 1)
instance : Fld Tryz.prog 38 6 6 := Fld.mk' Tryz.underlying38 rfl rfl (inferInstance : Lay Tryz.prog 3 false 1)
instance : Fld Tryz.prog 38 7 7 := Fld.mk' Tryz.underlying38 rfl rfl (inferInstance : Lay Tryz.prog 3 false 1)
instance : Fld Tryz.prog 38 8 8 := Fld.mk' Tryz.underlying38 rfl rfl (inferInstance : Lay Tryz.prog 3 false 1)
instance : Fld Tryz.prog 38 9 9 := Fld.mk' Tryz.underlying38 rfl rfl (inferInstance : Lay Tryz.prog 3 false 1)
instance : Fld Tryz.prog 38 10 10 := Fld.mk' Tryz.underlying38 rfl rfl (inferInstance : Lay Tryz.prog 3 false 1)
instance : Fld Tryz.prog 38 11 11 := Fld.mk' Tryz.underlying38 rfl rfl (inferInstance : Lay Tryz.prog 3 false 1)
instance : Fld Tryz.prog 50 0 0 := Fld.mk' Tryz.underlying50 rfl rfl (inferInstance : Lay Tryz.prog 38 true 12)
instance : Fld Tryz.prog 50 1 12 := Fld.mk' Tryz.underlying50 rfl rfl (inferInstance : Lay Tryz.prog 3 false 1)
instance : Fld Tryz.prog 54 0 0 := Fld.mk' Tryz.underlying54 rfl rfl (inferInstance : Lay Tryz.prog 52 false 1)
instance : Fld Tryz.prog 65 0 0 := Fld.mk' Tryz.underlying65 rfl rfl (inferInstance : Lay Tryz.prog 22 false 1)
instance : Fld Tryz.prog 65 1 1 := Fld.mk' Tryz.underlying65 rfl rfl (inferInstance : Lay Tryz.prog 55 false 1)
instance : Fld Tryz.prog 65 2 2 := Fld.mk' Tryz.underlying65 rfl rfl (inferInstance : Lay Tryz.prog 58 false 1)
instance : Fld Tryz.prog 65 3 3 := Fld.mk' Tryz.underlying65 rfl rfl (inferInstance : Lay Tryz.prog 61 false 1)
instance : Fld Tryz.prog 65 4 4 := Fld.mk' Tryz.underlying65 rfl rfl (inferInstance : Lay Tryz.prog 3 false 1)
instance : Fld Tryz.prog 65 6 6 := Fld.mk' Tryz.underlying65 rfl rfl (inferInstance : Lay Tryz.prog 33 false 1)
instance : Fld Tryz.prog 65 7 7 := Fld.mk' Tryz.underlying65 rfl rfl (inferInstance : Lay Tryz.prog 3 false 1)
instance : Fld Tryz.prog 65 9 9 := Fld.mk' Tryz.underlying65 rfl rfl (inferInstance : Lay Tryz.prog 3 false 1)
instance : Fld Tryz.prog 65 12 12 := Fld.mk' Tryz.underlying65 rfl rfl (inferInstance : Lay Tryz.prog 3 false 1)
instance : Fld Tryz.prog 65 13 13 := Fld.mk' Tryz.underlying65 rfl rfl (inferInstance : Lay Tryz.prog 3 false 1)
instance : Fld Tryz.prog 65 14 14 := Fld.mk' Tryz.underlying65 rfl rfl (inferInstance : Lay Tryz.prog 4 false 1)
instance : Fld Tryz.prog 65 15 15 := Fld.mk' Tryz.underlying65 rfl rfl (inferInstance : Lay Tryz.prog 4 false 1)
instance : Fld Tryz.prog 65 17 17 := Fld.mk' Tryz.underlying65 rfl rfl (inferInstance : Lay Tryz.prog 4 false 1)
instance : Fld Tryz.prog 65 18 18 := Fld.mk' Tryz.underlying65 rfl rfl (inferInstance : Lay Tryz.prog 4 false 1)
instance : Fld Tryz.prog 65 19 19 := Fld.mk' Tryz.underlying65 rfl rfl (inferInstance : Lay Tryz.prog 4 false 1)
instance : Fld Tryz.prog 67 0 0 := Fld.mk' Tryz.underlying67 rfl rfl (inferInstance : Lay Tryz.prog 32 true 9)
instance : Fld Tryz.prog 76 0 0 := Fld.mk' Tryz.underlying76 rfl rfl (inferInstance : Lay Tryz.prog 3 false 1)
instance : Fld Tryz.prog 81 1 1 := Fld.mk' Tryz.underlying81 rfl rfl (inferInstance : Lay Tryz.prog 9 false 1)
instance : Fld Tryz.prog 81 2 2 := Fld.mk' Tryz.underlying81 rfl rfl (inferInstance : Lay Tryz.prog 9 false 1)
instance : Fld Tryz.prog 81 3 3 := Fld.mk' Tryz.underlying81 rfl rfl (inferInstance : Lay Tryz.prog 9 false 1)
instance : Fld Tryz.prog 89 0 0 := Fld.mk' Tryz.underlying89 rfl rfl (inferInstance : Lay Tryz.prog 87 false 1)
instance : Fld Tryz.prog 92 0 0 := Fld.mk' Tryz.underlying92 rfl rfl (inferInstance : Lay Tryz.prog 3 false 1)
instance : Fld Tryz.prog 92 1 1 := Fld.mk' Tryz.underlying92 rfl rfl (inferInstance : Lay Tryz.prog 3 false 1)
instance : Fld Tryz.prog 98 0 0 := Fld.mk' Tryz.underlying98 rfl rfl (inferInstance : Lay Tryz.prog 33 false 1)
instance : Fld Tryz.prog 100 0 0 := Fld.mk' Tryz.underlying100 rfl rfl (inferInstance : Lay Tryz.prog 22 false 1)
instance : Fld Tryz.prog 100 1 1 := Fld.mk' Tryz.underlying100 rfl rfl (inferInstance : Lay Tryz.prog 98 true 1)
instance : Fld Tryz.prog 102 0 0 := Fld.mk' Tryz.underlying102 rfl rfl (inferInstance : Lay Tryz.prog 22 false 1)
instance : Fld Tryz.prog 102 1 1 := Fld.mk' Tryz.underlying102 rfl rfl (inferInstance : Lay Tryz.prog 35 false 1)
instance : Fld Tryz.prog 117 0 0 := Fld.mk' Tryz.underlying117 rfl rfl (inferInstance : Lay Tryz.prog 3 false 1)
instance : Fld Tryz.prog 117 1 1 := Fld.mk' Tryz.underlying117 rfl rfl (inferInstance : Lay Tryz.prog 3 false 1)
instance : Fld Tryz.prog 129 0 0 := Fld.mk' Tryz.underlying129 rfl rfl (inferInstance : Lay Tryz.prog 9 false 1)
instance : Fld Tryz.prog 129 1 1 := Fld.mk' Tryz.underlying129 rfl rfl (inferInstance : Lay Tryz.prog 71 false 1)
instance : Fun Tryz.prog 5 := ⟨Tryz.call5⟩
instance : Fun Tryz.prog 6 := ⟨Tryz.call6⟩
instance : Fun Tryz.prog 7 := ⟨Tryz.call7⟩
instance : Fun Tryz.prog 10 := ⟨Tryz.call10⟩
instance : Fun Tryz.prog 11 := ⟨Tryz.call11⟩
instance : Fun Tryz.prog 12 := ⟨Tryz.call12⟩
instance : Fun Tryz.prog 13 := ⟨Tryz.call13⟩
instance : Fun Tryz.prog 14 := ⟨Tryz.call14⟩
instance : Fun Tryz.prog 15 := ⟨Tryz.call15⟩
instance : Fun Tryz.prog 16 := ⟨Tryz.call16⟩
instance : Fun Tryz.prog 17 := ⟨Tryz.call17⟩
instance : Fun Tryz.prog 18 := ⟨Tryz.call18⟩
instance : Fun Tryz.prog 19 := ⟨Tryz.call19⟩
instance : Fun Tryz.prog 20 := ⟨Tryz.call20⟩
instance : Fun Tryz.prog 21 := ⟨Tryz.call21⟩
instance : Fun Tryz.prog 22 := ⟨Tryz.call22⟩
instance : Fun Tryz.prog 24 := ⟨Tryz.call24⟩
instance : Fun Tryz.prog 25 := ⟨Tryz.call25⟩
instance : Fun Tryz.prog 26 := ⟨Tryz.call26⟩
instance : Fun Tryz.prog 27 := ⟨Tryz.call27⟩
instance : Fun Tryz.prog 28 := ⟨Tryz.call28⟩
instance : Fun Tryz.prog 29 := ⟨Tryz.call29⟩
instance : Fun Tryz.prog 30 := ⟨Tryz.call30⟩
instance : Fun Tryz.prog 31 := ⟨Tryz.call31⟩
instance : Fun Tryz.prog 32 := ⟨Tryz.call32⟩
instance : Fun Tryz.prog 33 := ⟨Tryz.call33⟩
instance : Fun Tryz.prog 34 := ⟨Tryz.call34⟩
instance : Fun Tryz.prog 35 := ⟨Tryz.call35⟩
instance : Fun Tryz.prog 36 := ⟨Tryz.call36⟩
instance : Fun Tryz.prog 37 := ⟨Tryz.call37⟩
instance : Fun Tryz.prog 38 := ⟨Tryz.call38⟩
instance : Fun Tryz.prog 39 := ⟨Tryz.call39⟩
instance : Fun Tryz.prog 40 := ⟨Tryz.call40⟩
instance : Fun Tryz.prog 41 := ⟨Tryz.call41⟩
instance : Fun Tryz.prog 42 := ⟨Tryz.call42⟩
instance : Fun Tryz.prog 43 := ⟨Tryz.call43⟩
instance : Fun Tryz.prog 44 := ⟨Tryz.call44⟩
instance : Fun Tryz.prog 45 := ⟨Tryz.call45⟩
instance : Fun Tryz.prog 47 := ⟨Tryz.call47⟩
instance : Fun Tryz.prog 48 := ⟨Tryz.call48⟩
instance : Fun Tryz.prog 65 := ⟨Tryz.call65⟩
instance : Fun Tryz.prog 66 := ⟨Tryz.call66⟩
instance : Fun Tryz.prog 67 := ⟨Tryz.call67⟩
instance : Fun Tryz.prog 72 := ⟨Tryz.call72⟩
instance : Fun Tryz.prog 73 := ⟨Tryz.call73⟩
instance : Fun Tryz.prog 74 := ⟨Tryz.call74⟩
instance : Fun Tryz.prog 75 := ⟨Tryz.call75⟩
instance : Fun Tryz.prog 80 := ⟨Tryz.call80⟩
instance : Fun Tryz.prog 81 := ⟨Tryz.call81⟩
instance : Fun Tryz.prog 83 := ⟨Tryz.call83⟩
instance : Fun Tryz.prog 84 := ⟨Tryz.call84⟩
instance : Fun Tryz.prog 85 := ⟨Tryz.call85⟩
instance : Fun Tryz.prog 87 := ⟨Tryz.call87⟩
instance : Fun Tryz.prog 89 := ⟨Tryz.call89⟩
instance : Fun Tryz.prog 90 := ⟨Tryz.call90⟩
instance : Fun Tryz.prog 91 := ⟨Tryz.call91⟩
instance : Fun Tryz.prog 92 := ⟨Tryz.call92⟩
instance : Fun Tryz.prog 93 := ⟨Tryz.call93⟩
instance : Fun Tryz.prog 94 := ⟨Tryz.call94⟩
instance : Fun Tryz.prog 99 := ⟨Tryz.call99⟩
instance : Fun Tryz.prog 102 := ⟨Tryz.call102⟩
instance : Fun Tryz.prog 104 := ⟨Tryz.call104⟩
instance : Fun Tryz.prog 106 := ⟨Tryz.call106⟩
instance : Fun Tryz.prog 108 := ⟨Tryz.call108⟩
instance : Fun Tryz.prog 109 := ⟨Tryz.call109⟩
instance : Fun Tryz.prog 110 := ⟨Tryz.call110⟩
instance : Fun Tryz.prog 111 := ⟨Tryz.call111⟩
instance : Fun Tryz.prog 119 := ⟨Tryz.call119⟩
instance : Fun Tryz.prog 120 := ⟨Tryz.call120⟩
instance : Fun Tryz.prog 125 := ⟨Tryz.call125⟩
instance : Fun Tryz.prog 126 := ⟨Tryz.call126⟩
instance : Fun Tryz.prog 130 := ⟨Tryz.call130⟩
instance : Fun Tryz.prog 131 := ⟨Tryz.call131⟩
instance : Fun Tryz.prog 133 := ⟨Tryz.call133⟩
instance : Fun Tryz.prog 139 := ⟨Tryz.call139⟩
instance : Fun Tryz.prog 141 := ⟨Tryz.call141⟩
instance : Fun Tryz.prog 143 := ⟨Tryz.call143⟩
instance : Fun Tryz.prog 145 := ⟨Tryz.call145⟩
instance : Fun Tryz.prog 149 := ⟨Tryz.call149⟩
instance : Fun Tryz.prog 151 := ⟨Tryz.call151⟩
instance : Fun Tryz.prog 153 := ⟨Tryz.call153⟩
instance : Fun Tryz.prog 154 := ⟨Tryz.call154⟩
instance : Fun Tryz.prog 155 := ⟨Tryz.call155⟩
instance : Fun Tryz.prog 158 := ⟨Tryz.call158⟩
instance : Fun Tryz.prog 170 := ⟨Tryz.call170⟩
instance : Fun Tryz.prog 172 := ⟨Tryz.call172⟩
instance : Fun Tryz.prog 176 := ⟨Tryz.call176⟩
instance : Fun Tryz.prog 177 := ⟨Tryz.call177⟩
instance : Fun Tryz.prog 179 := ⟨Tryz.call179⟩
instance : Fun Tryz.prog 180 := ⟨Tryz.call180⟩
instance : Fun Tryz.prog 182 := ⟨Tryz.call182⟩
instance : Fun Tryz.prog 183 := ⟨Tryz.call183⟩
instance : Fun Tryz.prog 192 := ⟨Tryz.call192⟩
instance : Fun Tryz.prog 197 := ⟨Tryz.call197⟩
instance : Fun Tryz.prog 198 := ⟨Tryz.call198⟩
instance : Fun Tryz.prog 200 := ⟨Tryz.call200⟩
instance : Fun Tryz.prog 208 := ⟨Tryz.call208⟩
instance : Fun Tryz.prog 210 := ⟨Tryz.call210⟩
instance : Fun Tryz.prog 212 := ⟨Tryz.call212⟩
instance : Fun Tryz.prog 213 := ⟨Tryz.call213⟩
instance : Fun Tryz.prog 216 := ⟨Tryz.call216⟩
instance : Fun Tryz.prog 217 := ⟨Tryz.call217⟩
instance : Fun Tryz.prog 219 := ⟨Tryz.call219⟩
instance : Fun Tryz.prog 220 := ⟨Tryz.call220⟩
instance : Fun Tryz.prog 221 := ⟨Tryz.call221⟩
instance : Fun Tryz.prog 222 := ⟨Tryz.call222⟩
instance : Fun Tryz.prog 223 := ⟨Tryz.call223⟩
instance : Fun Tryz.prog 236 := ⟨Tryz.call236⟩
instance : Fun Tryz.prog 237 := ⟨Tryz.call237⟩
instance : Fun Tryz.prog 251 := ⟨Tryz.call251⟩
instance : Mixed Tryz.prog := ⟨by kernel_rfl⟩
end Go.Proofs.YtpejdlfkaaiehaaGreatDoor
end
section
set_option linter.unusedVariables false
namespace Go.Proofs.YtpejdlfkaaiehaaGreatDoor
open Go Go.Hb
@[ext] structure Api_attr where
  Space : Int
  Prefix : ByteArray
  Name : ByteArray
  Value : ByteArray
instance : Inhabited Api_attr := ⟨⟨0, ⟨#[]⟩, ⟨#[]⟩, ⟨#[]⟩⟩⟩
def Api_attr.cells (a : Api_attr) : List Go.Value := [.int .i64 a.Space, .string a.Prefix, .string a.Name, .string a.Value]
instance : OneC Api_attr.cells 4 := ⟨fun _ => rfl, fun a v hv => by
  have h : (Api_attr.cells a).all (·.oneCell') = true := rfl
  exact List.all_eq_true.1 h v hv⟩
@[ext] structure Api_token where
  Kind : Int
  Name : ByteArray
  Data : ByteArray
  System : ByteArray
  Has : Int
  Quirks : Bool
  Char : Int
  Self : Bool
  AttrsP : Option Addr
  Attrs : List Api_attr
  AttrsC : Nat
instance : Inhabited Api_token := ⟨⟨0, ⟨#[]⟩, ⟨#[]⟩, ⟨#[]⟩, 0, false, 0, false, none, [], 0⟩⟩
def Api_token.cells (a : Api_token) : List Go.Value := [.int .i64 a.Kind, .string a.Name, .string a.Data, .string a.System, .int .i64 a.Has, .bool a.Quirks, .int .i32 a.Char, .bool a.Self, .slice a.AttrsP a.Attrs.length a.AttrsC]
@[ext] structure Api_node where
  Kind : Int
  Space : Int
  Name : ByteArray
  AttrsP : Option Addr
  Attrs : List Api_attr
  AttrsC : Nat
  Data : ByteArray
  System : ByteArray
  Parent : Int
  First : Int
  Last : Int
  Prev : Int
  Next : Int
  Inner : Int
instance : Inhabited Api_node := ⟨⟨0, 0, ⟨#[]⟩, none, [], 0, ⟨#[]⟩, ⟨#[]⟩, 0, 0, 0, 0, 0, 0⟩⟩
def Api_node.cells (a : Api_node) : List Go.Value := [.int .i64 a.Kind, .int .i64 a.Space, .string a.Name, .slice a.AttrsP a.Attrs.length a.AttrsC, .string a.Data, .string a.System, .int .i64 a.Parent, .int .i64 a.First, .int .i64 a.Last, .int .i64 a.Prev, .int .i64 a.Next, .int .i64 a.Inner]
@[ext] structure Node_one where
  Node : Api_node
  host : Int
instance : Inhabited Node_one := ⟨⟨default, 0⟩⟩
def Node_one.cells (a : Node_one) : List Go.Value := Api_node.cells a.Node ++ [.int .i64 a.host]
instance : OneC Node_one.cells 13 := ⟨fun _ => rfl, fun a v hv => by
  have h : (Node_one.cells a).all (·.oneCell') = true := rfl
  exact List.all_eq_true.1 h v hv⟩
instance (n : Int) : FUpd Node_one.cells 6 (.int .i64 n) (fun a => { a with Node := { a.Node with Parent := n } }) := ⟨fun _ => rfl, fun _ => by show _ < 13; decide⟩
instance (n : Int) : FUpd Node_one.cells 7 (.int .i64 n) (fun a => { a with Node := { a.Node with First := n } }) := ⟨fun _ => rfl, fun _ => by show _ < 13; decide⟩
instance (n : Int) : FUpd Node_one.cells 8 (.int .i64 n) (fun a => { a with Node := { a.Node with Last := n } }) := ⟨fun _ => rfl, fun _ => by show _ < 13; decide⟩
instance (n : Int) : FUpd Node_one.cells 9 (.int .i64 n) (fun a => { a with Node := { a.Node with Prev := n } }) := ⟨fun _ => rfl, fun _ => by show _ < 13; decide⟩
instance (n : Int) : FUpd Node_one.cells 10 (.int .i64 n) (fun a => { a with Node := { a.Node with Next := n } }) := ⟨fun _ => rfl, fun _ => by show _ < 13; decide⟩
instance (n : Int) : FUpd Node_one.cells 11 (.int .i64 n) (fun a => { a with Node := { a.Node with Inner := n } }) := ⟨fun _ => rfl, fun _ => by show _ < 13; decide⟩
instance (n : Int) : FUpd Node_one.cells 12 (.int .i64 n) (fun a => { a with host := n }) := ⟨fun _ => rfl, fun _ => by show _ < 13; decide⟩
@[ext] structure Api_entry where
  Node : Int
  Token : Api_token
instance : Inhabited Api_entry := ⟨⟨0, default⟩⟩
def Api_entry.cells (a : Api_entry) : List Go.Value := [.int .i64 a.Node] ++ Api_token.cells a.Token
@[ext] structure Show_twin where
  x : Int
  y : Int
instance : Inhabited Show_twin := ⟨⟨0, 0⟩⟩
def Show_twin.cells (a : Show_twin) : List Go.Value := [.int .i64 a.x, .int .i64 a.y]
instance : OneC Show_twin.cells 2 := ⟨fun _ => rfl, fun a v hv => by
  have h : (Show_twin.cells a).all (·.oneCell') = true := rfl
  exact List.all_eq_true.1 h v hv⟩
@[ext] structure Api_spot where
  Parent : Int
  Before : Int
def Api_spot.cells (a : Api_spot) : List Go.Value := [.int .i64 a.Parent, .int .i64 a.Before]
end Go.Proofs.YtpejdlfkaaiehaaGreatDoor
end
section
set_option linter.unusedVariables false
set_option linter.unusedSimpArgs false
set_option maxRecDepth 100000
namespace Go.Proofs.YtpejdlfkaaiehaaGreatDoor
open Go Go.Hb Go.RowKit
/-- a node's attributes -/
def attrsP (o : Node_one) : HP := sls o.Node.AttrsP o.Node.AttrsC 81 4 Api_attr.cells o.Node.Attrs
abbrev atS (o : Node_one) : HP := sls o.Node.AttrsP o.Node.AttrsC 81 4 Api_attr.cells o.Node.Attrs
theorem arena_pick {k : Ctx} {w : World} {l : List HP} {A : List Node_one} {i : Nat} (hi : i < A.length) (hO : Own k w (sep (A.map attrsP) :: l)) : Own k w (atS (at_ A i) :: sep ((A.eraseIdx i).map attrsP) :: l) := sep_pick hi hO
theorem arena_put {k : Ctx} {w : World} {l : List HP} {A : List Node_one} {i : Nat} {y : Node_one} (hi : i < A.length) (hO : Own k w (atS y :: sep ((A.eraseIdx i).map attrsP) :: l)) : Own k w (sep ((A.set i y).map attrsP) :: l) := sep_put hi hO
instance (priority := high) AtK.ha (o : Node_one) (l : List HP) : AtK (attrsP o :: l) (.p o.Node.AttrsP) (attrsP o) l := ⟨.hd _ l⟩
def arenaL (a : Nat) (A : List Node_one) : HP := fun h => ∃ x : Option Addr × Nat, sep [blk a 54 [.slice x.1 A.length x.2], sls x.1 x.2 50 13 Node_one.cells A, sep (A.map attrsP)] h
theorem arenaL_open {k : Ctx} {w : World} {l : List HP} {a : Nat} {A : List Node_one} (hO : Own k w (arenaL a A :: l)) : ∃ p c, Gs p A.length ∧ Own k w (blk a 54 [.slice p A.length c] :: sls p c 50 13 Node_one.cells A :: sep (A.map attrsP) :: l) := by
  obtain ⟨⟨p, c⟩, hO⟩ := Own.ex (A := fun (x : Option Addr × Nat) => sep [blk a 54 [.slice x.1 A.length x.2], sls x.1 x.2 50 13 Node_one.cells A, sep (A.map attrsP)]) hO
  have hO := Own.open hO
  simp only [List.cons_append, List.nil_append] at hO
  exact ⟨p, c, (sls_fct (p := p) hO).2, hO⟩
theorem arenaL_shut {k : Ctx} {w : World} {l S : List HP} {a n : Nat} {A : List Node_one} {p : Option Addr} {c : Nat} (hO : Own k w (sep S :: blk a 54 [.slice p n c] :: sls p c 50 13 Node_one.cells A :: l)) (hS : S = A.map attrsP := by rfl) (hn : n = A.length := by first | rfl | simp) : Own k w (arenaL a A :: l) := by
  subst hn hS
  have hO := (hO.swap.perm (.cons _ (.swap _ _ _)))
  exact (Own.shut (l := [blk a 54 [.slice p A.length c], sls p c 50 13 Node_one.cells A, sep (A.map attrsP)]) hO).tell fun h hA => ⟨(p, c), hA⟩
def hasB (A : List Node_one) (id : Int) : Bool := decide (0 ≤ id ∧ id < A.length)
abbrev arB (a : Nat) (p : Option Addr) (n c : Nat) : HP := blk a 54 [.slice p n c]
abbrev arS (p : Option Addr) (c : Nat) (A : List Node_one) : HP := sls p c 50 13 Node_one.cells A
theorem none_spec {k : Ctx} {w : World} {a : Nat} {A : List Node_one} {p : Option Addr} {c : Nat} (hn : 0 < A.length := by assumption) (hO : Own k w [arB a p A.length c, arS p c A]) :
    Tri Tryz.prog 30 #[.pointer (some ⟨a, 0, none⟩)] k w fun v m => v = .bool false ∧ m = [arB a p A.length c, arS p c A] := by
  refine enter (args := [.pointer (some ⟨a, 0, none⟩)]) Tryz.func30 rfl rfl ?_
  refine K0 (K1 ?_)
  refine l_y rfl rfl (y_assign rfl) ?_
  refine K2 (K3 (K0 (K1 ?_)))
  refine l_y rfl rfl (y_move rfl) ?_
  refine l_y rfl rfl (y_eqPnil rfl rfl rfl) ?_
  refine l_y rfl rfl (y_move rfl) ?_
  refine l_y rfl rfl (y_move rfl) ?_
  refine l_y rfl rfl (y_nilCheck rfl rfl) ?_
  refine l_y rfl rfl (y_fldb (o' := 0) rfl) ?_
  refine l_y rfl rfl (D5 hO rfl) ?_
  refine l_y rfl rfl (y_lenL rfl) ?_
  refine N3 ?_
  refine l_y rfl rfl (y_pick_f rfl rfl) ?_
  refine l_y rfl rfl (y_assign rfl) ?_
  refine K2 (K3 (K6 ?_))
  exact fin1 rfl rfl ⟨_, ⟨rfl, rfl⟩, hO⟩
theorem has_spec {k : Ctx} {w : World} {a : Nat} {A : List Node_one} {id : Int} {p : Option Addr} {c : Nat} (hO : Own k w [arB a p A.length c, arS p c A]) :
    Tri Tryz.prog 31 #[.pointer (some ⟨a, 0, none⟩), .int .i64 id] k w fun v m => v = .bool (hasB A id) ∧ m = [arB a p A.length c, arS p c A] := by
  refine enter (args := [.pointer (some ⟨a, 0, none⟩), .int .i64 id]) Tryz.func31 rfl rfl ?_
  refine K0 (K1 ?_)
  refine l_y rfl rfl (y_assign rfl) ?_
  refine K2 (K3 (K0 (K1 ?_)))
  refine l_y rfl rfl (y_move rfl) ?_
  refine Z0 (fun h1_1 => ?_) (fun h1_1 => ?_)
  · refine l_y rfl rfl (y_move rfl) ?_
    refine l_y rfl rfl (y_move rfl) ?_
    refine l_y rfl rfl (y_move rfl) ?_
    refine l_y rfl rfl (y_nilCheck rfl rfl) ?_
    refine l_y rfl rfl (y_fldb (o' := 0) rfl) ?_
    refine l_y rfl rfl (D5 hO rfl) ?_
    refine l_y rfl rfl (y_lenL rfl) ?_
    refine Z0 (fun h1_9 => ?_) (fun h1_9 => ?_)
    · refine l_y rfl rfl (y_pick_t rfl rfl) ?_
      refine l_y rfl rfl (y_assign rfl) ?_
      refine K2 (K3 (K6 ?_))
      exact fin1 rfl rfl ⟨_, ⟨by simp [hasB]; omega, rfl⟩, hO⟩
    · refine l_y rfl rfl (y_pick_t rfl rfl) ?_
      refine l_y rfl rfl (y_assign rfl) ?_
      refine K2 (K3 (K6 ?_))
      exact fin1 rfl rfl ⟨_, ⟨by simp [hasB]; omega, rfl⟩, hO⟩
  · refine l_y rfl rfl (y_move rfl) ?_
    repeat refine M2 ?_
    refine l_y rfl rfl (y_pick_f rfl rfl) ?_
    refine l_y rfl rfl (y_assign rfl) ?_
    refine K2 (K3 (K6 ?_))
    exact fin1 rfl rfl ⟨_, ⟨by simp [hasB]; omega, rfl⟩, hO⟩
theorem hasB_true {A : List Node_one} {id : Int} (h : hasB A id = true) : 0 ≤ id ∧ id < A.length := by simpa [hasB] using h
def parentB (kd : Int) : Bool := decide (kd = 0 ∨ kd = 1 ∨ kd = 5)
theorem parent_spec {k : Ctx} {w : World} {kd : Int} (hO : Own k w []) : Tri Tryz.prog 35 #[.int .i64 kd] k w fun v m => v = .bool (parentB kd) ∧ m = [] := by
  refine enter (args := [.int .i64 kd]) Tryz.func35 rfl rfl ?_
  refine K0 (K1 ?_)
  refine l_y rfl rfl (y_assign rfl) ?_
  refine K2 (K3 (K0 (K1 ?_)))
  refine l_y rfl rfl (y_move rfl) ?_
  refine Z0 (fun h1_1 => ?_) (fun h1_1 => ?_)
  · refine l_y rfl rfl (y_move rfl) ?_
    repeat refine M2 ?_
    refine l_y rfl rfl (y_pick_t rfl rfl) ?_
    refine l_y rfl rfl (y_move rfl) ?_
    repeat refine M2 ?_
    refine l_y rfl rfl (y_pick_t rfl rfl) ?_
    refine l_y rfl rfl (y_assign rfl) ?_
    refine K2 (K3 (K6 ?_))
    exact fin1 rfl rfl ⟨_, ⟨by simp [parentB]; omega, rfl⟩, hO⟩
  · refine l_y rfl rfl (y_move rfl) ?_
    refine l_y rfl rfl (y_move rfl) ?_
    refine Z0 (fun h1_4 => ?_) (fun h1_4 => ?_)
    · refine l_y rfl rfl (y_pick_f rfl rfl) ?_
      refine l_y rfl rfl (y_move rfl) ?_
      repeat refine M2 ?_
      refine l_y rfl rfl (y_pick_t rfl rfl) ?_
      refine l_y rfl rfl (y_assign rfl) ?_
      refine K2 (K3 (K6 ?_))
      exact fin1 rfl rfl ⟨_, ⟨by simp [parentB]; omega, rfl⟩, hO⟩
    · refine l_y rfl rfl (y_pick_f rfl rfl) ?_
      refine l_y rfl rfl (y_move rfl) ?_
      refine l_y rfl rfl (y_move rfl) ?_
      refine Z0 (fun h1_8 => ?_) (fun h1_8 => ?_)
      · refine l_y rfl rfl (y_pick_f rfl rfl) ?_
        refine l_y rfl rfl (y_assign rfl) ?_
        refine K2 (K3 (K6 ?_))
        exact fin1 rfl rfl ⟨_, ⟨by simp [parentB]; omega, rfl⟩, hO⟩
      · refine l_y rfl rfl (y_pick_f rfl rfl) ?_
        refine l_y rfl rfl (y_assign rfl) ?_
        refine K2 (K3 (K6 ?_))
        exact fin1 rfl rfl ⟨_, ⟨by simp [parentB]; omega, rfl⟩, hO⟩
def blankN (n : Api_node) : Node_one := ⟨{ n with Parent := -1, First := -1, Last := -1, Prev := -1, Next := -1, Inner := -1 }, -1⟩
theorem blank_spec {k : Ctx} {w : World} {n : Api_node} (hO : Own k w []) : Tri Tryz.prog 15 #[.agg (Api_node.cells n).toArray] k w fun v m => v = .agg (Node_one.cells (blankN n)).toArray ∧ m = [] := by
  refine enter (args := [.agg (Api_node.cells n).toArray]) Tryz.func15 rfl rfl ?_
  refine K0 (K1 ?_)
  refine s_box (vs := [.int .i64 n.Kind, .int .i64 n.Space, .string n.Name, .slice n.AttrsP n.Attrs.length n.AttrsC, .string n.Data, .string n.System, .int .i64 n.Parent, .int .i64 n.First, .int .i64 n.Last, .int .i64 n.Prev, .int .i64 n.Next, .int .i64 n.Inner]) hO rfl rfl rfl (by rfl) fun b1 w hO => ?_
  refine s_alloc (vs := [.int .i64 0, .int .i64 0, .string ⟨#[]⟩, .slice none 0 0, .string ⟨#[]⟩, .string ⟨#[]⟩, .int .i64 0, .int .i64 0, .int .i64 0, .int .i64 0, .int .i64 0, .int .i64 0, .int .i64 0]) hO rfl rfl rfl fun b2 w hO => ?_
  refine K2 (K3 (K0 (K1 ?_)))
  refine l_y rfl rfl (y_fldb (o' := 6) rfl) ?_
  refine Y1 hO rfl rfl (fun w hO => ?_)
  simp only [List.set_cons_zero, List.set_cons_succ] at hO
  refine l_y rfl rfl (y_fldb (o' := 7) rfl) ?_
  refine Y1 hO rfl rfl (fun w hO => ?_)
  simp only [List.set_cons_zero, List.set_cons_succ] at hO
  refine l_y rfl rfl (y_fldb (o' := 8) rfl) ?_
  refine Y1 hO rfl rfl (fun w hO => ?_)
  simp only [List.set_cons_zero, List.set_cons_succ] at hO
  refine l_y rfl rfl (y_fldb (o' := 9) rfl) ?_
  refine Y1 hO rfl rfl (fun w hO => ?_)
  simp only [List.set_cons_zero, List.set_cons_succ] at hO
  refine l_y rfl rfl (y_fldb (o' := 10) rfl) ?_
  refine Y1 hO rfl rfl (fun w hO => ?_)
  simp only [List.set_cons_zero, List.set_cons_succ] at hO
  refine l_y rfl rfl (y_fldb (o' := 11) rfl) ?_
  refine Y1 hO rfl rfl (fun w hO => ?_)
  simp only [List.set_cons_zero, List.set_cons_succ] at hO
  refine K2 (K3 (K0 (K1 ?_)))
  refine l_y rfl rfl (D8 (cs := [.int .i64 n.Kind, .int .i64 n.Space, .string n.Name, .slice n.AttrsP n.Attrs.length n.AttrsC, .string n.Data, .string n.System, .int .i64 (-1), .int .i64 (-1), .int .i64 (-1), .int .i64 (-1), .int .i64 (-1), .int .i64 (-1)]) hO rfl) ?_
  refine s_build (parts := [(0, .tmp 9), (1, .const (.int .i64 (-1)))]) (cs := [.int .i64 n.Kind, .int .i64 n.Space, .string n.Name, .slice n.AttrsP n.Attrs.length n.AttrsC, .string n.Data, .string n.System, .int .i64 (-1), .int .i64 (-1), .int .i64 (-1), .int .i64 (-1), .int .i64 (-1), .int .i64 (-1), .int .i64 (-1)]) rfl rfl (fun a ha => partsOf_sound ha _ _ rfl) (by kernel_rfl) ?_
  refine Y3 hO rfl rfl (fun w hO => ?_)
  refine K2 (K3 (K6 ?_))
  exact finC hO rfl rfl ⟨_, ⟨rfl, rfl⟩, hO.none⟩
theorem own_spec {k : Ctx} {w : World} {xs : List Api_attr} {p : Option Addr} {c : Nat} (hs : Sli (Ro k) (.slice p xs.length c) (xs.map Api_attr.cells)) (hl : xs.length ≤ 1000000000000) (hO : Own k w []) :
    Tri Tryz.prog 32 #[.slice p xs.length c] k w fun v m => ∃ b, v = .slice (some ⟨b, 0, none⟩) xs.length xs.length ∧ m = [sls (some ⟨b, 0, none⟩) xs.length 81 4 Api_attr.cells xs] := by
  refine enter (args := [.slice p xs.length c]) Tryz.func32 rfl rfl ?_
  refine K0 (K1 ?_)
  refine l_y rfl rfl (y_assign rfl) ?_
  refine K2 (K3 (K0 (K1 ?_)))
  refine l_y rfl rfl (y_move rfl) ?_
  refine l_y rfl rfl (y_lenL rfl) ?_
  refine s_mk (enc := Api_attr.cells) default hO rfl rfl rfl rfl (Nat.le_refl _) (by omega) (by simp only [maxLen]; omega) fun b w hO => ?_
  refine l_y rfl rfl (y_assign rfl) ?_
  refine K2 (K3 (K0 (K1 ?_)))
  refine l_y rfl rfl (y_move rfl) ?_
  refine l_y rfl rfl (y_move rfl) ?_
  refine s_cp hO rfl rfl (src_ro hO hs) fun w hO => ?_
  rw [List.drop_of_length_le (by simp), List.append_nil] at hO
  refine K2 (K3 (K0 (K1 ?_)))
  refine l_y rfl rfl (y_move rfl) ?_
  refine l_y rfl rfl (y_assign rfl) ?_
  refine K2 (K3 (K6 ?_))
  exact fin1 rfl rfl ⟨_, ⟨b, rfl, rfl⟩, hO⟩
def longB (l : List ByteArray) : Bool := l.any fun s => decide (1048576 < s.size)
def addL (A : List Node_one) (n : Api_node) (ts : List ByteArray) : Int × Int × List Node_one := if longB ts = true then (0, 2, A) else if 32768 ≤ A.length then (0, 9, A) else (A.length, 0, A ++ [blankN n])
set_option maxHeartbeats 1000000 in
theorem add_spec {k : Ctx} {w : World} {a : Nat} {A : List Node_one} {n : Api_node} {ts : List ByteArray} {tp : Option Addr} {tc : Nat} (hn : 0 < A.length) (hc : A.length ≤ 32768) (ht : Sli (Ro k) (.slice tp ts.length tc) (ts.map eS)) (htl : ts.length ≤ 1000000) (hO : Own k w [arenaL a A, attrsP (blankN n)]) :
    Tri Tryz.prog 33 #[.pointer (some ⟨a, 0, none⟩), .agg (Api_node.cells n).toArray, .slice tp ts.length tc] k w fun v m => v = .tuple #[.int .i64 (addL A n ts).1, .int .i64 (addL A n ts).2.1] ∧ m = [arenaL a (addL A n ts).2.2] := by
  refine enter (args := [.pointer (some ⟨a, 0, none⟩), .agg (Api_node.cells n).toArray, .slice tp ts.length tc]) Tryz.func33 rfl rfl ?_
  have htg := sli_gs ht
  obtain ⟨p, c, hg, hO⟩ := arenaL_open hO
  refine K0 (K1 ?_)
  refine s_box (vs := [.int .i64 n.Kind, .int .i64 n.Space, .string n.Name, .slice n.AttrsP n.Attrs.length n.AttrsC, .string n.Data, .string n.System, .int .i64 n.Parent, .int .i64 n.First, .int .i64 n.Last, .int .i64 n.Prev, .int .i64 n.Next, .int .i64 n.Inner]) hO rfl rfl rfl (by rfl) fun b4 w hO => ?_
  refine l_y rfl rfl (y_assign rfl) ?_
  refine l_y rfl rfl (y_assign rfl) ?_
  refine K2 (K3 (K0 (K0 (K1 ?_))))
  refine l_y rfl rfl (y_move rfl) ?_
  refine CK [.b a, .p p] hO rfl (fun k' hx hr hO' => none_spec (hO := hO')) ?_
  rintro _ _ w ⟨rfl, rfl⟩ hO
  simp only [List.cons_append, List.nil_append] at hO
  refine K2 (K3 (L9 (K5 (K3 (K0 (K0 (K1 ?_)))))))
  refine l_y rfl rfl (y_move rfl) ?_
  refine l_y rfl rfl (y_lenL rfl) ?_
  refine l_y rfl rfl (y_move rfl) ?_
  refine K2 (K3 (K4 ?_))
  refine c_rounds (X := Nat) (fun i => [(0, .pointer (some ⟨a, 0, none⟩)), (4, .pointer (some ⟨b4, 0, none⟩)), (6, .int .i64 0), (7, .int .i64 0), (12, .slice tp ts.length tc), (13, .int .i64 ((ts.length : Nat) : Int)), (14, .int .i64 (i : Int))]) (fun i w => Own k w [arB a p A.length c, arS p c A, sep (A.map attrsP), blk b4 38 (Api_node.cells n), attrsP (blankN n)] ∧ (i ≤ ts.length) ∧ (longB (ts.take i) = false)) (fun i => ts.length - i) (0) ⟨rfl, rfl, rfl, rfl, rfl, rfl, rfl, trivial⟩ ⟨hO.only [.b a, .p p, .s, .b b4, .p (blankN n).Node.AttrsP], Nat.zero_le _, rfl⟩ ?_
  rintro i w m hm ⟨hO, hi, hj⟩
  refine K0 (K1 ?_)
  refine Z0 (fun h4_0 => ?_) (fun h4_0 => ?_)
  · refine K2 (K3 (K0 (L8 (K5 (K3 (K0 (K4 (K0 (K1 ?_)))))))))
    refine l_y rfl rfl (y_idx rfl rfl) ?_
    refine l_y rfl rfl (y_r1 (x0 := 0) (enc := eS) (xs := ts) hO rfl) ?_
    refine l_y rfl rfl (y_assign rfl) ?_
    refine K2 (K3 (K0 (K1 ?_)))
    refine l_y rfl rfl (y_move rfl) ?_
    refine l_y rfl rfl (y_lenS rfl) ?_
    refine Z0 (fun h6_2 => ?_) (fun h6_2 => ?_)
    · refine K2 (K3 (L8 (K0 (K1 ?_))))
      refine l_y rfl rfl (y_assign rfl) ?_
      refine l_y rfl rfl (y_assign rfl) ?_
      refine K2 (K3 (K6 (L0 (K9 (K9 (L0 (K9 ?_)))))))
      have hlong : longB ts = true := by
        simp only [longB, List.any_eq_true, decide_eq_true_eq]
        exact ⟨at_ ts i, at_mem (by omega), by simp only [Int.toNat_natCast] at h6_2; omega⟩
      exact fin2 rfl rfl rfl ⟨_, ⟨by simp [addL, hlong], rfl⟩, by rw [addL, if_pos hlong]; exact (arenaL_shut (hO.ks [.s, .b a, .p p])).one⟩
    · refine K2 (K3 (L9 (K5 (K8 (K3 (K1 ?_))))))
      refine l_y rfl rfl (D4) ?_
      refine l_y rfl rfl (y_move rfl) ?_
      refine K2 ?_
      exact q_next (i + 1) ⟨rfl, rfl, rfl, rfl, rfl, rfl, rfl, trivial⟩ ⟨hO.only [.b a, .p p, .s, .b b4, .p (blankN n).Node.AttrsP], by omega, by rw [take_succ_at (by omega)]; simp [longB] at hj ⊢; simp only [Int.toNat_natCast] at h6_2; exact ⟨hj, by omega⟩⟩ (by omega)
  · refine K2 (K3 (K0 (L9 (K7 (L1 (L1 (L2 (K3 (K0 (K0 ?_))))))))))
    have hlf : longB ts = false := by rw [← hj, List.take_of_length_le (by omega)]
    refine K1 ?_
    refine l_y rfl rfl (y_move rfl) ?_
    refine l_y rfl rfl (y_nilCheck rfl rfl) ?_
    refine l_y rfl rfl (y_fldb (o' := 0) rfl) ?_
    refine l_y rfl rfl (D5 hO rfl) ?_
    refine l_y rfl rfl (y_lenL rfl) ?_
    refine Z0 (fun h9_5 => ?_) (fun h9_5 => ?_)
    · refine K2 (K3 (L8 (K0 (K1 ?_))))
      refine l_y rfl rfl (y_assign rfl) ?_
      refine l_y rfl rfl (y_assign rfl) ?_
      refine K2 (K3 (K6 (K9 ?_)))
      exact fin2 rfl rfl rfl ⟨_, ⟨by rw [addL, hlf, if_neg (by simp), if_pos (by omega)], rfl⟩, by rw [addL, hlf, if_neg (by simp), if_pos (by omega)]; exact (arenaL_shut (hO.ks [.s, .b a, .p p])).one⟩
    · refine K2 (K3 (L9 (K5 (K3 (K0 ?_)))))
      refine da_region (by intro c a d v w h; cases d <;> exact h) ?_
      have hO := hO.drew
      refine da_phase _ [8] (SO.ks [.b a, .b b4] hO) ?_
      refine dx_u 0 (by kernel_rfl) rfl rfl rfl (fun w => y_move rfl) ?_
      refine dx_u 1 (by kernel_rfl) rfl rfl rfl (fun w => y_move rfl) ?_
      refine dx_u 2 (by kernel_rfl) rfl rfl rfl (fun w => y_nilCheck rfl rfl) ?_
      refine dx_u 3 (by kernel_rfl) rfl rfl rfl (fun w => y_fldb (o' := 0) rfl) ?_
      refine dx_y 4 (by kernel_rfl) rfl rfl rfl (fun w ⟨m, hw⟩ => D5 hw rfl) ?_
      refine dx_y 5 (by kernel_rfl) rfl rfl rfl (fun w ⟨m, hw⟩ => D8 (cs := [.int .i64 n.Kind, .int .i64 n.Space, .string n.Name, .slice n.AttrsP n.Attrs.length n.AttrsC, .string n.Data, .string n.System, .int .i64 n.Parent, .int .i64 n.First, .int .i64 n.Last, .int .i64 n.Prev, .int .i64 n.Next, .int .i64 n.Inner]) hw rfl) ?_
      refine dx_only 6 (by kernel_rfl) rfl rfl ?_
      refine C0 hO rfl (fun k' hx hr hO' => blank_spec (n := n) (hO := hO')) ?_
      rintro _ _ w ⟨rfl, rfl⟩ hO
      simp only [List.cons_append, List.nil_append] at hO
      refine o_done ?_
      refine ⟨SO.ks [.b a, .b b4] hO, ?_⟩
      refine dx_only 7 (by kernel_rfl) rfl rfl ?_
      refine s_lit (parts := [(0, .tmp 34)]) (enc := Node_one.cells) [(blankN n)] [.agg [.int .i64 (blankN n).Node.Kind, .int .i64 (blankN n).Node.Space, .string (blankN n).Node.Name, .slice (blankN n).Node.AttrsP (blankN n).Node.Attrs.length (blankN n).Node.AttrsC, .string (blankN n).Node.Data, .string (blankN n).Node.System, .int .i64 (blankN n).Node.Parent, .int .i64 (blankN n).Node.First, .int .i64 (blankN n).Node.Last, .int .i64 (blankN n).Node.Prev, .int .i64 (blankN n).Node.Next, .int .i64 (blankN n).Node.Inner, .int .i64 (blankN n).host].toArray] hO rfl (fun b35 w hO => ?_)
      refine o_done ?_
      refine ⟨SO.ks [.b a, .b b4] hO, ?_⟩
      refine dx_close 8 (by kernel_rfl) rfl rfl ?_
      refine s_app hO rfl rfl (src_own hO) (fun p36 c36 w hO gs36 => ?_)
      refine o_done ?_
      refine da_phase _ [11] (SO.ks [] hO) ?_
      refine dx_u 9 (by kernel_rfl) rfl rfl rfl (fun w => y_nilCheck rfl rfl) ?_
      refine dx_u 10 (by kernel_rfl) rfl rfl rfl (fun w => y_fldb (o' := 0) rfl) ?_
      refine dx_close 11 (by kernel_rfl) rfl rfl ?_
      refine Y1 hO rfl rfl (fun w hO => ?_)
      simp only [List.set_cons_zero, List.set_cons_succ] at hO
      refine o_done ?_
      refine da_end (by kernel_rfl) ?_
      refine K3 (K0 ?_)
      have hal : (A ++ [blankN n]).length = A.length + 1 := by simp
      refine K1 ?_
      refine l_y rfl rfl (y_move rfl) ?_
      refine l_y rfl rfl (y_nilCheck rfl rfl) ?_
      refine l_y rfl rfl (y_fldb (o' := 0) rfl) ?_
      refine l_y rfl rfl (D5 hO rfl) ?_
      refine l_y rfl rfl (y_lenL rfl) ?_
      refine l_y rfl rfl (D4) ?_
      refine l_y rfl rfl (y_assign rfl) ?_
      refine l_y rfl rfl (y_assign rfl) ?_
      refine K2 (K3 (K6 ?_))
      have e : addL A n ts = ((A.length : Int), 0, A ++ [blankN n]) := by rw [addL, hlf, if_neg (by simp), if_neg (by omega)]
      have hO := (hO.ks [.s, .p (blankN n).Node.AttrsP]).snoc.ks [.s, .b a, .p p36]
      rw [e]
      refine fin2 rfl rfl rfl ⟨_, ⟨?_, rfl⟩, (arenaL_shut hO (by simp)).one⟩
      simp
end Go.Proofs.YtpejdlfkaaiehaaGreatDoor
end
