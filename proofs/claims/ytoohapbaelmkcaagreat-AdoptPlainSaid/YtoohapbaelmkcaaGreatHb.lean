/- Steps over a program and the memory that a run owns; nothing is asked of the program. -/
import Derived.WalkKit
import Derived.OrdersHeld
import Derived.Deep.Quiet
import Derived.Lib.UnsafeStr
import Derived.Lib.Builder
import Derived.KernelRfl
import Derived.Laws.RangeString
import Derived.Laws.Concat
import Derived.Laws.Strings2
import Derived.Laws.Externs
import Derived.Laws.Pointers
import Derived.Laws.IdiomStrings
import Derived.Great.BuildSlice
import Derived.Laws.MakeOwn
import Derived.ProofKit
import Derived.JoinedCond
/- A layer over the kit's wp: a frame is known by the list of the temporaries that are known. -/
set_option linter.unusedVariables false
set_option linter.unusedSimpArgs false
namespace Go.Hb
open Go

/-! ### 1. The known temporaries -/
abbrev Env := List (Nat × Value)
theorem beq_no {d t : Nat} (h : ¬ d = t) : Nat.beq d t = false := Bool.eq_false_iff.2 fun hb => h (Nat.eq_of_beq_eq_true hb)
def look : Env → Nat → Option Value
  | [], _ => none
  | (t, v) :: E, k => bif Nat.beq t k then some v else look E k
def ev (E : Env) : Operand → Option Value
  | .tmp t => look E t
  | .const v => some v
  | .global g => some (.pointer (some ⟨g, 0, none⟩))
  | .func f => some (.func (.func f) #[] #[])
def Env.put (E : Env) : Option Tmp → Value → Env
  | some d, v => (d, v) :: E
  | none, _ => E
/-- a's frame has n places, and holds what E tells; ds are the calls that were deferred. -/
structure Fits (n : Nat) (ds : List Deferred) (E : Env) (a : Act) : Prop where
  size : a.tmps.size = n
  defers : a.defers = ds
  at_ : ∀ t v, look E t = some v → a.tmps.getD t undef = v

theorem look_put (E : Env) (d : Nat) (v : Value) (t : Nat) : look (E.put (some d) v) t = if d = t then some v else look E t := by
  by_cases h : d = t
  · subst h; simp [Env.put, look]
  · have : Nat.beq d t = false := beq_no h
    simp [Env.put, look, this, h]

def dok (n : Nat) : Option Tmp → Bool
  | some d => Nat.blt d n
  | none => true

theorem Fits.eval {n : Nat} {ds : List Deferred} {E : Env} {a : Act} (h : Fits n ds E a) {x : Operand} {v : Value} (hx : ev E x = some v) : a.eval x = v := by
  cases x with
  | tmp t => exact h.at_ t v hx
  | const c => exact Option.some.inj hx
  | global g => exact Option.some.inj hx
  | func f => exact Option.some.inj hx

theorem Fits.put {n : Nat} {ds : List Deferred} {E : Env} {a : Act} (h : Fits n ds E a) {d : Option Tmp} (hd : dok n d = true) (v : Value) : Fits n ds (E.put d v) (a.put d v) := by
  cases d with
  | none => exact h
  | some d =>
    have hd' : d < n := by simpa [dok] using hd
    refine ⟨by simp [Act.put, h.size], h.defers, fun t u ht => ?_⟩
    rw [look_put] at ht
    by_cases e : d = t
    · subst e
      simp only [if_true] at ht
      have hs : d < a.tmps.size := by rw [h.size]; exact hd'
      simp [Act.put, hs]
      exact (Option.some.inj ht)
    · rw [if_neg e] at ht
      have := h.at_ t u ht
      simp only [Act.put, Array.getD_eq_getD_getElem?] at this ⊢
      rw [Array.getElem?_setIfInBounds_ne e]
      exact this

/-- every pair of E' is told by E -/
def Env.all (E : Env) : Env → Prop
  | [] => True
  | (t, v) :: E' => look E t = some v ∧ Env.all E E'
theorem Fits.weaken {n : Nat} {ds : List Deferred} {E E' : Env} {a : Act} (h : Fits n ds E a) (hE : E.all E') : Fits n ds E' a := by
  refine ⟨h.size, h.defers, ?_⟩
  induction E' with
  | nil => intro t v hv; simp [look] at hv
  | cons p E' ih =>
    obtain ⟨t0, v0⟩ := p
    intro t v hv
    by_cases e : t0 = t
    · subst e
      have : v0 = v := by simpa [look] using hv
      subst this
      exact h.at_ _ _ hE.1
    · have hb : Nat.beq t0 t = false := beq_no e
      exact ih hE.2 t v (by simpa [look, hb] using hv)

theorem Fits.start (args : List Value) (n : Nat) (h : args.length ≤ n) :
    Fits n [] (args.zipIdx.map fun p => (p.2, p.1)) { tmps := args.toArray ++ Array.replicate (n - args.toArray.size) undef, defers := [] } := by
  refine ⟨by simp; omega, rfl, ?_⟩
  have key : ∀ (l : List Value) (k t : Nat) (v : Value), look ((l.zipIdx k).map fun p => (p.2, p.1)) t = some v → k ≤ t ∧ l[t - k]? = some v := by
    intro l
    induction l with
    | nil => intro k t v h; simp [look] at h
    | cons x l ih =>
      intro k t v h
      simp only [List.zipIdx_cons, List.map_cons] at h
      by_cases e : k = t
      · subst e; exact ⟨Nat.le_refl _, by simpa [look] using h⟩
      · have hb : Nat.beq k t = false := beq_no e
        have := ih (k + 1) t v (by simpa [look, hb] using h)
        refine ⟨by omega, ?_⟩
        have e2 : t - k = (t - (k + 1)) + 1 := by omega
        rw [e2]; simpa using this.2
  intro t v hv
  have := (key args 0 t v hv).2
  simp only [Nat.sub_zero] at this
  have hlt : t < args.length := by
    rcases Nat.lt_or_ge t args.length with h' | h'
    · exact h'
    · rw [List.getElem?_eq_none h'] at this; cases this
  simp only [List.getElem?_eq_getElem hlt, Option.some.injEq] at this
  simp [Array.getD_eq_getD_getElem?, Array.getElem?_append, hlt, this]

/-! ### 2. What is to be shown, over the known temporaries -/
section
variable (P : Program) (ops : Array Oper) (Q : Exit → Act → World → Prop) (n : Nat) (ds : List Deferred)
def LW (l : List Oper) (E : Env) (w : World) : Prop := ∀ a, Fits n ds E a → wpList P ops Q l a w
def CW (c : Code) (E : Env) (w : World) : Prop := ∀ a, Fits n ds E a → c.wp P Q a w
def QW (e : Exit) (E : Env) (w : World) : Prop := ∀ a, Fits n ds E a → Q e a w
end

section
variable {P : Program} {ops : Array Oper} {Q : Exit → Act → World → Prop} {n : Nat} {ds : List Deferred} {E E' : Env} {w w' : World}

theorem CW.weaken (E' : Env) {c : Code} (hE : E.all E') (h : CW P Q n ds c E' w) : CW P Q n ds c E w := fun a ha => h a (ha.weaken hE)
theorem QW.weaken (E' : Env) {e : Exit} (hE : E.all E') (h : QW Q n ds e E' w) : QW Q n ds e E w := fun a ha => h a (ha.weaken hE)
theorem LW.weaken (E' : Env) {l : List Oper} (hE : E.all E') (h : LW P ops Q n ds l E' w) : LW P ops Q n ds l E w := fun a ha => h a (ha.weaken hE)

/-- a temporary that holds the same as another value -/
theorem LW.subst {l : List Oper} (hE : ∀ t v, look E' t = some v → look E t = some v) (h : LW P ops Q n ds l E' w) : LW P ops Q n ds l E w :=
  fun a ha => h a ⟨ha.size, ha.defers, fun t v hv => ha.at_ t v (hE t v hv)⟩

/-! ### 3. Control -/
theorem c_seq {x y : Code} (h : CW P (Exit.then (y.wp P Q) Q) n ds x E w) : CW P Q n ds (.seq x y) E w := fun a ha => wp_seq (h a ha)
theorem c_skip (h : QW Q n ds .normal E w) : CW P Q n ds .skip E w := fun a ha => wp_skip (h a ha)
theorem c_ret (h : QW Q n ds .ret E w) : CW P Q n ds .ret E w := fun a ha => wp_ret (h a ha)
theorem c_exit {id : Nat} (h : QW Q n ds (.exit id) E w) : CW P Q n ds (.exit id) E w := fun a ha => wp_exit (h a ha)
theorem c_block {id : Nat} {c : Code} (h : CW P (Exit.inBlock id Q) n ds c E w) : CW P Q n ds (.block id c) E w := fun a ha => wp_block (h a ha)
theorem c_region {id : Nat} {l : List Oper} (h : LW P l.toArray Q n ds l E w) : CW P Q n ds (.region id l.toArray false) E w := fun a ha => wp_region_lit (h a ha)
theorem c_true {c : Operand} {x y : Code} (hc : ev E c = some (.bool true)) (h : CW P Q n ds x E w) : CW P Q n ds (.cond c x y) E w := fun a ha => wp_cond_true (ha.eval hc) (h a ha)
theorem c_false {c : Operand} {x y : Code} (hc : ev E c = some (.bool false)) (h : CW P Q n ds y E w) : CW P Q n ds (.cond c x y) E w := fun a ha => wp_cond_false (ha.eval hc) (h a ha)
theorem c_split {c : Operand} {x y : Code} {b : Bool} (hc : ev E c = some (.bool b)) (h1 : b = true → CW P Q n ds x E w) (h2 : b = false → CW P Q n ds y E w) : CW P Q n ds (.cond c x y) E w :=
  fun a ha => wp_cond_split (ha.eval hc) (fun e => h1 e a ha) (fun e => h2 e a ha)
theorem c_scope {c : Code} (h : CW P (Exit.noGoto Q) n ds c E w) : CW P Q n ds (.scope c) E w := fun a ha => wp_scope_straight (h a ha)
theorem c_label {l : Nat} (h : QW Q n ds .normal E w) : CW P Q n ds (.label l) E w := fun a ha => wp_label (h a ha)

theorem q_normal {y : Code} (h : CW P Q n ds y E w) : QW (Exit.then (y.wp P Q) Q) n ds .normal E w := fun a ha => h a ha
theorem q_ret {K : Act → World → Prop} (h : QW Q n ds .ret E w) : QW (Exit.then K Q) n ds .ret E w := fun a ha => h a ha
theorem q_exit {K : Act → World → Prop} {id : Nat} (h : QW Q n ds (.exit id) E w) : QW (Exit.then K Q) n ds (.exit id) E w := fun a ha => h a ha
theorem qb_normal {id : Nat} (h : QW Q n ds .normal E w) : QW (Exit.inBlock id Q) n ds .normal E w := fun a ha => h a ha
theorem qb_ret {id : Nat} (h : QW Q n ds .ret E w) : QW (Exit.inBlock id Q) n ds .ret E w := fun a ha => h a ha
theorem qb_here {id : Nat} (h : QW Q n ds .normal E w) : QW (Exit.inBlock id Q) n ds (.exit id) E w := fun a ha => by simpa [Exit.inBlock] using h a ha
theorem qb_other {id id' : Nat} (hne : Nat.beq id' id = false) (h : QW Q n ds (.exit id') E w) : QW (Exit.inBlock id Q) n ds (.exit id') E w := fun a ha => by
  have : id' ≠ id := Nat.ne_of_beq_eq_false hne
  simpa [Exit.inBlock, this] using h a ha
theorem qs_normal (h : QW Q n ds .normal E w) : QW (Exit.noGoto Q) n ds .normal E w := fun a ha => by rw [Exit.noGoto_normal]; exact h a ha
theorem qs_ret (h : QW Q n ds .ret E w) : QW (Exit.noGoto Q) n ds .ret E w := fun a ha => by rw [Exit.noGoto_ret]; exact h a ha

/-- A loop: X is what its rounds turn; En tells the known temporaries, I what holds, mu goes down. -/
theorem c_loop {X : Type} (En : X → Env) (I : X → World → Prop) (mu : X → Nat) {c : Code} (x0 : X) (hE : E.all (En x0)) (h0 : I x0 w)
    (round : ∀ x w, I x w → CW P (Exit.then (fun a' w' => ∃ x', (Fits n ds (En x') a' ∧ I x' w') ∧ mu x' < mu x) Q) n ds c (En x) w) : CW P Q n ds (.loop c) E w := by
  intro a ha b k cs
  have key : ∀ m x a w, mu x = m → I x w → Fits n ds (En x) a →
      ∃ e a' w', Q e a' w' ∧ Arrives P (lone (b.at a (.code c :: .inLoop c :: k)) cs w) b k cs e a' w' := by
    intro m
    induction m using Nat.strongRecOn with
    | _ m ih =>
      intro x a w hn hI ha
      obtain ⟨e, a₁, w₁, hq, harr⟩ := round x w hI a ha b (.inLoop c :: k) cs
      cases e with
      | normal =>
        obtain ⟨x', ⟨ha', hI'⟩, hlt⟩ := hq
        obtain ⟨e₂, a₂, w₂, hq₂, harr₂⟩ := ih (mu x') (hn ▸ hlt) x' a₁ w₁ rfl hI' ha'
        exact ⟨e₂, a₂, w₂, hq₂, .of_steps (Steps.trans harr (.one step_inLoop)) harr₂⟩
      | exit id => exact ⟨_, a₁, w₁, hq, .pass (x := .inLoop c) rfl (fun _ _ => .inl (by simp)) harr⟩
      | goto l => exact ⟨_, a₁, w₁, hq, .pass (x := .inLoop c) rfl (fun _ _ => .inl (by simp)) harr⟩
      | ret => exact ⟨_, a₁, w₁, hq, .pass (x := .inLoop c) rfl (fun _ _ => .inl (by simp)) harr⟩
      | panic ch => exact ⟨_, a₁, w₁, hq, .pass (x := .inLoop c) rfl (fun _ _ => .inl (by simp)) harr⟩
      | outgrown => exact ⟨_, a₁, w₁, hq, .pass (x := .inLoop c) rfl (fun _ _ => .inl (by simp)) harr⟩
  obtain ⟨e, a', w', hq, harr⟩ := key _ x0 a w rfl h0 (ha.weaken hE)
  exact ⟨e, a', w', hq, .of_steps (.one step_loop) harr⟩
/-- the end of a round -/
theorem q_round {X : Type} {En : X → Env} {I : X → World → Prop} {mu : X → Nat} {x : X} (x' : X) (hE : E.all (En x')) (hI : I x' w) (hmu : mu x' < mu x) :
    QW (Exit.then (fun a' w' => ∃ x', (Fits n ds (En x') a' ∧ I x' w') ∧ mu x' < mu x) Q) n ds .normal E w :=
  fun a ha => ⟨x', ⟨ha.weaken hE, hI⟩, hmu⟩
/-- the same, the measure under a name of its own (a goal that is simplified keeps its shape) -/
theorem c_rounds {X : Type} (En : X → Env) (I : X → World → Prop) (mu : X → Nat) {c : Code} (x0 : X) (hE : E.all (En x0)) (h0 : I x0 w)
    (round : ∀ x w m, mu x = m → I x w → CW P (Exit.then (fun a' w' => ∃ x', (Fits n ds (En x') a' ∧ I x' w') ∧ mu x' < m) Q) n ds c (En x) w) : CW P Q n ds (.loop c) E w :=
  c_loop En I mu x0 hE h0 fun x w hI => round x w _ rfl hI
theorem q_next {X : Type} {En : X → Env} {I : X → World → Prop} {mu : X → Nat} {m : Nat} (x' : X) (hE : E.all (En x')) (hI : I x' w) (hmu : mu x' < m) :
    QW (Exit.then (fun a' w' => ∃ x', (Fits n ds (En x') a' ∧ I x' w') ∧ mu x' < m) Q) n ds .normal E w :=
  fun a ha => ⟨x', ⟨ha.weaken hE, hI⟩, hmu⟩
/-- A cut: the first part comes to one of the states that M tells, or leaves by Q. -/
theorem c_cut {X : Type} (En : X → Env) (I : X → World → Prop) {c d : Code}
    (h1 : CW P (Exit.then (fun a' w' => ∃ x, Fits n ds (En x) a' ∧ I x w') Q) n ds c E w)
    (h2 : ∀ x w, I x w → CW P Q n ds d (En x) w) : CW P Q n ds (.seq c d) E w := fun a ha =>
  wp_seq (wp_mono (h1 a ha) fun e a' w' hq => by
    cases e with
    | normal => obtain ⟨x, hf, hI⟩ := hq; exact h2 x w' hI a' hf
    | _ => exact hq)
theorem q_cut {X : Type} {En : X → Env} {I : X → World → Prop} (x : X) (hE : E.all (En x)) (hI : I x w) :
    QW (Exit.then (fun a' w' => ∃ x, Fits n ds (En x) a' ∧ I x w') Q) n ds .normal E w := fun a ha => ⟨x, ha.weaken hE, hI⟩

/-! ### 4. Operations, one behind the other -/
def gd (ops : Array Oper) (E : Env) : Option (Nat × Bool) → Option Bool
  | none => some true
  | some (j, b) =>
    match (ops[j]?).bind (·.dst) with
    | none => none
    | some d =>
      match look E d with
      | some (.bool c) => some (c == b)
      | some (.tuple _) => some false
      | _ => none
theorem gd_sound {o : Oper} {r : Bool} {a : Act} (ha : Fits n ds E a) (hg : gd ops E o.guard = some r) : Region.wanted o (yielded ops a.tmps) = r := by
  unfold Region.wanted
  cases hgd : o.guard with
  | none => rw [hgd] at hg; simpa [gd] using hg
  | some p =>
    obtain ⟨j, b⟩ := p
    rw [hgd] at hg
    simp only [gd] at hg
    cases hd : (ops[j]?).bind (·.dst) with
    | none => rw [hd] at hg; cases hg
    | some d =>
      rw [hd] at hg
      simp only at hg
      cases hl : look E d with
      | none => rw [hl] at hg; cases hg
      | some v =>
        have hv := ha.at_ d v hl
        rw [hl] at hg
        cases v <;> simp only [Option.some.injEq, reduceCtorEq] at hg
        case bool c =>
          have hlt : d < a.tmps.size := by
            rcases Nat.lt_or_ge d a.tmps.size with h | h
            · exact h
            · rw [Array.getD_eq_getD_getElem?, Array.getElem?_eq_none h] at hv; cases hv
          have hs : a.tmps[d]? = some (.bool c) := by
            rw [Array.getElem?_eq_getElem hlt]
            rw [Array.getD_eq_getD_getElem?, Array.getElem?_eq_getElem hlt] at hv
            simpa using hv
          simp only [yielded, hd, Option.bind_some, hs]
          rw [← hg]
          cases c <;> cases b <;> rfl
        case tuple vs =>
          subst hg
          have : yielded ops a.tmps j = none := by
            simp only [yielded, hd, Option.bind_some]
            cases ht : a.tmps[d]? with
            | none => rfl
            | some u =>
              rw [Array.getD_eq_getD_getElem?, ht] at hv
              simp only [Option.getD_some] at hv
              subst hv; rfl
          show (yielded ops a.tmps j == some b) = false
          rw [this]; rfl

theorem l_nil (h : QW Q n ds .normal E w) : LW P ops Q n ds [] E w := fun a ha => h a ha
theorem l_val {o : Oper} {rest : List Oper} {v : Value} (hg : gd ops E o.guard = some true) (hd : dok n o.dst = true)
    (hr : ∀ a, Fits n ds E a → (execOp a.eval o).run P w = .ok (.value v) w') (h : LW P ops Q n ds rest (E.put o.dst v) w') : LW P ops Q n ds (o :: rest) E w := by
  intro a ha
  unfold wpList
  rw [if_pos (gd_sound ha hg)]
  refine .inl ?_
  simp only [Oper.wp, hr a ha, Oper.upon]
  exact h _ (ha.put hd v)
theorem l_unit {o : Oper} {rest : List Oper} (hg : gd ops E o.guard = some true) (hd : dok n o.dst = true)
    (hr : ∀ a, Fits n ds E a → (execOp a.eval o).run P w = .ok .skip w') (h : LW P ops Q n ds rest (E.put o.dst undef) w') : LW P ops Q n ds (o :: rest) E w := by
  intro a ha
  unfold wpList
  rw [if_pos (gd_sound ha hg)]
  refine .inl ?_
  simp only [Oper.wp, hr a ha, Oper.upon]
  exact h _ (ha.put hd _)
theorem l_pass {o : Oper} {rest : List Oper} (hg : gd ops E o.guard = some false) (hd : dok n o.dst = true)
    (h : LW P ops Q n ds rest (E.put o.dst undef) w) : LW P ops Q n ds (o :: rest) E w := by
  intro a ha
  unfold wpList
  rw [if_neg (by rw [gd_sound ha hg]; simp)]
  exact h _ (ha.put hd _)

/-- The call answers, and T holds of the answer. -/
def Ret (P : Program) (f : FuncId) (args : Array Value) (w : World) (T : Value → World → Prop) : Prop :=
  Calls P f args w fun e w' => ∃ v, e = .returned v ∧ T v w'
theorem Ret.mono {f : FuncId} {args : Array Value} {T T' : Value → World → Prop} (h : Ret P f args w T) (ht : ∀ v w', T v w' → T' v w') : Ret P f args w T' :=
  Calls.mono h fun _ _ ⟨v, e, t⟩ => ⟨v, e, ht _ _ t⟩

theorem l_enter {o : Oper} {rest : List Oper} {f : FuncId} {args : Array Value} {T : Value → World → Prop} (hg : gd ops E o.guard = some true) (hd : dok n o.dst = true)
    (hr : ∀ a, Fits n ds E a → (execOp a.eval o).run P w = .ok (.enter f args) w')
    (hc : Ret P f args w' T) (h : ∀ v w', T v w' → LW P ops Q n ds rest (E.put o.dst v) w') : LW P ops Q n ds (o :: rest) E w := by
  intro a ha
  unfold wpList
  rw [if_pos (gd_sound ha hg)]
  refine .inl ?_
  simp only [Oper.wp, hr a ha, Oper.upon]
  refine Calls.mono hc ?_
  rintro e w'' ⟨v, rfl, ht⟩
  exact h v w'' ht _ (ha.put hd v)

def evl (E : Env) : List Operand → Option (List Value)
  | [] => some []
  | x :: xs => match ev E x, evl E xs with
    | some v, some vs => some (v :: vs)
    | _, _ => none
theorem evl_sound {a : Act} (ha : Fits n ds E a) : ∀ (xs : List Operand) (vs : List Value), evl E xs = some vs → xs.map a.eval = vs := by
  intro xs
  induction xs with
  | nil => intro vs h; simpa [evl] using h
  | cons x xs ih =>
    intro vs h
    simp only [evl] at h
    cases hx : ev E x with
    | none => rw [hx] at h; cases h
    | some v =>
      cases hxs : evl E xs with
      | none => rw [hx, hxs] at h; cases h
      | some us =>
        rw [hx, hxs] at h
        simp only [Option.some.injEq] at h
        subst h
        simp [ih us hxs, ha.eval hx]

/-- function f is one with a body -/
class Fun (P : Program) (f : FuncId) : Prop where
  call : ∀ args w, (callFunc f args).run P w = .ok (.enter f args) w

variable {rest : List Oper} {d : Option Tmp} {ty : TypeId} {pos : String} {aft : Array Edge} {g : Option (Nat × Bool)}

theorem s_call {f : FuncId} [hf : Fun P f] {xs : List Operand} {tys : Array TypeId} {vs : List Value} {T : Value → World → Prop} (hg : gd ops E g = some true) (hd : dok n d = true)
    (hx : evl E xs = some vs) (hc : Ret P f vs.toArray w T) (h : ∀ v w', T v w' → LW P ops Q n ds rest (E.put d v) w') :
    LW P ops Q n ds (⟨d, .call ⟨.value (.func f), xs.toArray, tys⟩, ty, pos, aft, g⟩ :: rest) E w := by
  refine l_enter (o := ⟨d, .call ⟨.value (.func f), xs.toArray, tys⟩, ty, pos, aft, g⟩) (w' := w) hg hd (fun a ha => ?_) hc h
  have := evl_sound ha xs vs hx
  simp [execOp, resolve, Deferred.ofValue, Act.eval, invoke, this, hf.call]
/-- a call of a function value -/
theorem s_callv {f : FuncId} [hf : Fun P f] {x : Operand} {xs : List Operand} {tys : Array TypeId} {first captured vs : List Value} {T : Value → World → Prop} (hg : gd ops E g = some true) (hd : dok n d = true)
    (hv : ev E x = some (.func (.func f) first.toArray captured.toArray))
    (hx : evl E xs = some vs) (hc : Ret P f (first ++ vs ++ captured).toArray w T) (h : ∀ v w', T v w' → LW P ops Q n ds rest (E.put d v) w') :
    LW P ops Q n ds (⟨d, .call ⟨.value x, xs.toArray, tys⟩, ty, pos, aft, g⟩ :: rest) E w := by
  refine l_enter (o := ⟨d, .call ⟨.value x, xs.toArray, tys⟩, ty, pos, aft, g⟩) (w' := w) hg hd (fun a ha => ?_) hc h
  have := evl_sound ha xs vs hx
  simp [execOp, resolve, ha.eval hv, Deferred.ofValue, invoke, this, hf.call]

/-- entering a function -/
theorem enter {f : FuncId} {fn : Func} {c : Code} {args : List Value} {T : Value → World → Prop} (hf : P.funcs[f]? = some fn) (hb : fn.body = some c) (hn : Nat.ble args.length fn.ntmps = true)
    (h : CW P (bodyPost P fn fun e w' => ∃ v, e = .returned v ∧ T v w') fn.ntmps [] c (args.zipIdx.map fun p => (p.2, p.1)) w) : Ret P f args.toArray w T := by
  refine calls_of_wp hf hb ?_
  exact h _ (Fits.start args fn.ntmps (by simpa using hn))
theorem fin1 {fn : Func} {T : Value → World → Prop} {t : Nat} {v : Value} (hrs : fn.results = #[.tmp t]) (hv : look E t = some v) (hT : T v w) :
    QW (bodyPost P fn fun e w' => ∃ v, e = .returned v ∧ T v w') n [] .ret E w := fun a ha =>
  ⟨ha.defers, v, by have := ha.at_ t v hv; simp only [Array.getD_eq_getD_getElem?] at this; simp [results, hrs, this], _, rfl, hT⟩
theorem fin2 {fn : Func} {T : Value → World → Prop} {t u : Nat} {v x : Value} (hrs : fn.results = #[.tmp t, .tmp u]) (hv : look E t = some v) (hx : look E u = some x) (hT : T (.tuple #[v, x]) w) :
    QW (bodyPost P fn fun e w' => ∃ v, e = .returned v ∧ T v w') n [] .ret E w := fun a ha =>
  ⟨ha.defers, _, by have h1 := ha.at_ t v hv; have h2 := ha.at_ u x hx; simp only [Array.getD_eq_getD_getElem?] at h1 h2; simp [results, hrs, h1, h2], _, rfl, hT⟩
theorem fin3 {fn : Func} {T : Value → World → Prop} {t u s : Nat} {v x y : Value} (hrs : fn.results = #[.tmp t, .tmp u, .tmp s]) (hv : look E t = some v) (hx : look E u = some x) (hy : look E s = some y) (hT : T (.tuple #[v, x, y]) w) :
    QW (bodyPost P fn fun e w' => ∃ v, e = .returned v ∧ T v w') n [] .ret E w := fun a ha =>
  ⟨ha.defers, _, by have h1 := ha.at_ t v hv; have h2 := ha.at_ u x hx; have h3 := ha.at_ s y hy; simp only [Array.getD_eq_getD_getElem?] at h1 h2 h3; simp [results, hrs, h1, h2, h3], _, rfl, hT⟩
theorem fin0 {fn : Func} {T : Value → World → Prop} (hrs : fn.results = #[]) (hT : T (.tuple #[]) w) :
    QW (bodyPost P fn fun e w' => ∃ v, e = .returned v ∧ T v w') n [] .normal E w := fun a ha =>
  ⟨ha.defers, _, by simp [results, hrs], _, rfl, hT⟩
theorem fin_ret {fn : Func} {R : Ending → World → Prop} (h : QW (bodyPost P fn R) n [] .normal E w) : QW (bodyPost P fn R) n [] .ret E w := fun a ha => h a ha
theorem fin_end {fn : Func} {R : Ending → World → Prop} (h : QW (bodyPost P fn R) n [] .ret E w) : QW (bodyPost P fn R) n [] .normal E w := fun a ha => h a ha

/-! ### 5. Operations that touch no memory -/
/-- In every frame that E tells operation o gives v, and does nothing else. -/
structure Yld (P : Program) (n : Nat) (ds : List Deferred) (E : Env) (w : World) (o : Oper) (v : Value) : Prop where
  run : ∀ a, Fits n ds E a → (execOp a.eval o).run P w = .ok (.value v) w
theorem l_y {o : Oper} {rest : List Oper} {v : Value} (hg : gd ops E o.guard = some true) (hd : dok n o.dst = true) (hy : Yld P n ds E w o v) (h : LW P ops Q n ds rest (E.put o.dst v) w) : LW P ops Q n ds (o :: rest) E w := l_val hg hd hy.run h
theorem run_bare {o : Oper} {a : Act} {v : Value} (h : ∀ w, (execOp a.eval o).run P w = .ok (.value v) w) : (execOp a.eval o).run P w = .ok (.value v) w := h w

theorem y_move {x : Operand} {v : Value} (hx : ev E x = some v) : Yld P n ds E w ⟨d, .move x, ty, pos, aft, g⟩ v :=
  ⟨fun a ha => by simp [execOp, ha.eval hx]⟩
theorem s_move {x : Operand} {v : Value} (hg : gd ops E g = some true) (hd : dok n d = true) (hx : ev E x = some v) (h : LW P ops Q n ds rest (E.put d v) w) : LW P ops Q n ds (⟨d, .move x, ty, pos, aft, g⟩ :: rest) E w :=
  l_y hg hd (y_move hx) h
theorem y_assign {x : Operand} {v : Value} (hx : ev E x = some v) : Yld P n ds E w ⟨d, .assign x, ty, pos, aft, g⟩ v :=
  ⟨fun a ha => by simp [execOp, ha.eval hx]⟩
theorem s_assign {x : Operand} {v : Value} (hg : gd ops E g = some true) (hd : dok n d = true) (hx : ev E x = some v) (h : LW P ops Q n ds rest (E.put d v) w) : LW P ops Q n ds (⟨d, .assign x, ty, pos, aft, g⟩ :: rest) E w :=
  l_y hg hd (y_assign hx) h
theorem y_pick_t {c x y : Operand} {v : Value} (hc : ev E c = some (.bool true)) (hx : ev E x = some v) : Yld P n ds E w ⟨d, .pick c x y, ty, pos, aft, g⟩ v :=
  ⟨fun a ha => by simp [execOp, ha.eval hx, ha.eval hc, asBool]⟩
theorem s_pick_t {c x y : Operand} {v : Value} (hg : gd ops E g = some true) (hd : dok n d = true) (hc : ev E c = some (.bool true)) (hx : ev E x = some v) (h : LW P ops Q n ds rest (E.put d v) w) : LW P ops Q n ds (⟨d, .pick c x y, ty, pos, aft, g⟩ :: rest) E w :=
  l_y hg hd (y_pick_t hc hx) h
theorem y_pick_f {c x y : Operand} {v : Value} (hc : ev E c = some (.bool false)) (hy : ev E y = some v) : Yld P n ds E w ⟨d, .pick c x y, ty, pos, aft, g⟩ v :=
  ⟨fun a ha => by simp [execOp, ha.eval hy, ha.eval hc, asBool]⟩
theorem s_pick_f {c x y : Operand} {v : Value} (hg : gd ops E g = some true) (hd : dok n d = true) (hc : ev E c = some (.bool false)) (hy : ev E y = some v) (h : LW P ops Q n ds rest (E.put d v) w) : LW P ops Q n ds (⟨d, .pick c x y, ty, pos, aft, g⟩ :: rest) E w :=
  l_y hg hd (y_pick_f hc hy) h
/-- a value that is no nil -/
def solid : Value → Bool
  | .pointer none | .nilIface | .nilFunc => false
  | .func (.method _) _ _ => false
  | _ => true
theorem y_nilCheck {x : Operand} {v : Value} (hx : ev E x = some v) (hs : solid v = true) : Yld P n ds E w ⟨d, .nilCheck x, ty, pos, aft, g⟩ v :=
  ⟨fun a ha => by
      simp only [execOp, ha.eval hx]
      split <;> first | (simp [solid] at hs; done) | simp⟩
theorem s_nilCheck {x : Operand} {v : Value} (hg : gd ops E g = some true) (hd : dok n d = true) (hx : ev E x = some v) (hs : solid v = true) (h : LW P ops Q n ds rest (E.put d v) w) : LW P ops Q n ds (⟨d, .nilCheck x, ty, pos, aft, g⟩ :: rest) E w :=
  l_y hg hd (y_nilCheck hx hs) h
theorem y_extract {x : Operand} {i : Nat} {l : List Value} {v : Value} (hx : ev E x = some (.tuple l.toArray)) (hv : l[i]? = some v) : Yld P n ds E w ⟨d, .extract x i, ty, pos, aft, g⟩ v :=
  ⟨fun a ha => by simp [execOp, ha.eval hx, Instr.extract, hv]⟩
theorem s_extract {x : Operand} {i : Nat} {l : List Value} {v : Value} (hg : gd ops E g = some true) (hd : dok n d = true) (hx : ev E x = some (.tuple l.toArray)) (hv : l[i]? = some v) (h : LW P ops Q n ds rest (E.put d v) w) : LW P ops Q n ds (⟨d, .extract x i, ty, pos, aft, g⟩ :: rest) E w :=
  l_y hg hd (y_extract hx hv) h
def arith : BinOp → Int → Int → Option Int
  | .add, x, y => some (x + y)
  | .sub, x, y => some (x - y)
  | .mul, x, y => some (x * y)
  | _, _, _ => none
theorem y_arith {op : BinOp} {t u : TypeId} {x y : Operand} {k : IntKind} {a b r s : Int} (hx : ev E x = some (.int k a)) (hy : ev E y = some (.int k b))
    (hr : arith op a b = some r) (hs : k.wrap r = s) : Yld P n ds E w ⟨d, .binOp op t x y u, ty, pos, aft, g⟩ (.int k s) :=
  ⟨fun c hc => by
      subst hs
      cases op <;> simp only [arith, Option.some.injEq, reduceCtorEq] at hr <;> subst hr <;> simp [execOp, hc.eval hx, hc.eval hy, eqGuard, binOp, Op.intArith]⟩
theorem s_arith {op : BinOp} {t u : TypeId} {x y : Operand} {k : IntKind} {a b r s : Int} (hg : gd ops E g = some true) (hd : dok n d = true) (hx : ev E x = some (.int k a)) (hy : ev E y = some (.int k b))
    (hr : arith op a b = some r) (hs : k.wrap r = s) (h : LW P ops Q n ds rest (E.put d (.int k s)) w) : LW P ops Q n ds (⟨d, .binOp op t x y u, ty, pos, aft, g⟩ :: rest) E w :=
  l_y hg hd (y_arith hx hy hr hs) h
def cmpI : BinOp → Int → Int → Option Bool
  | .eql, x, y => some (decide (x = y))
  | .neq, x, y => some (!decide (x = y))
  | .lss, x, y => some (decide (x < y))
  | .leq, x, y => some (decide (x ≤ y))
  | .gtr, x, y => some (decide (y < x))
  | .geq, x, y => some (decide (y ≤ x))
  | _, _, _ => none
theorem y_cmpI {op : BinOp} {t u : TypeId} {x y : Operand} {k : IntKind} {a b : Int} {c : Bool} (hx : ev E x = some (.int k a)) (hy : ev E y = some (.int k b))
    (hr : cmpI op a b = some c) : Yld P n ds E w ⟨d, .binOp op t x y u, ty, pos, aft, g⟩ (.bool c) :=
  ⟨fun f hc => by
      cases op <;> simp only [cmpI, Option.some.injEq, reduceCtorEq] at hr <;> subst hr <;> simp [execOp, hc.eval hx, hc.eval hy, eqGuard, binOp, Op.intCmp] <;> first | rfl | (by_cases e : a = b <;> simp [e])⟩
theorem s_cmpI {op : BinOp} {t u : TypeId} {x y : Operand} {k : IntKind} {a b : Int} {c : Bool} (hg : gd ops E g = some true) (hd : dok n d = true) (hx : ev E x = some (.int k a)) (hy : ev E y = some (.int k b))
    (hr : cmpI op a b = some c) (h : LW P ops Q n ds rest (E.put d (.bool c)) w) : LW P ops Q n ds (⟨d, .binOp op t x y u, ty, pos, aft, g⟩ :: rest) E w :=
  l_y hg hd (y_cmpI hx hy hr) h
theorem s_cmpI_split {op : BinOp} {t u : TypeId} {x y : Operand} {k : IntKind} {a b : Int} {p : Prop} [Decidable p] (hg : gd ops E g = some true) (hd : dok n d = true) (hx : ev E x = some (.int k a)) (hy : ev E y = some (.int k b))
    (hr : cmpI op a b = some (decide p)) (h1 : p → LW P ops Q n ds rest (E.put d (.bool true)) w) (h2 : ¬ p → LW P ops Q n ds rest (E.put d (.bool false)) w) :
    LW P ops Q n ds (⟨d, .binOp op t x y u, ty, pos, aft, g⟩ :: rest) E w := by
  refine s_cmpI hg hd hx hy hr ?_
  by_cases h : p
  · simpa [h] using h1 h
  · simpa [h] using h2 h
theorem s_cmpI_splitn {op : BinOp} {t u : TypeId} {x y : Operand} {k : IntKind} {a b : Int} {p : Prop} [Decidable p] (hg : gd ops E g = some true) (hd : dok n d = true) (hx : ev E x = some (.int k a)) (hy : ev E y = some (.int k b))
    (hr : cmpI op a b = some (!decide p)) (h1 : ¬ p → LW P ops Q n ds rest (E.put d (.bool true)) w) (h2 : p → LW P ops Q n ds rest (E.put d (.bool false)) w) :
    LW P ops Q n ds (⟨d, .binOp op t x y u, ty, pos, aft, g⟩ :: rest) E w := by
  refine s_cmpI hg hd hx hy hr ?_
  by_cases h : p
  · simpa [h] using h2 h
  · simpa [h] using h1 h
def cmpB : BinOp → Bool → Bool → Option Bool
  | .eql, x, y => some (x == y)
  | .neq, x, y => some (x != y)
  | _, _, _ => none
end
end Go.Hb

/- Memory that is owned, in parts that are apart. -/
set_option linter.unusedVariables false
set_option linter.unusedSimpArgs false
namespace Go.Hb
open Go Go.RowKit

/-! ### 6. Parts of memory -/
abbrev Hp := Nat → Option Obj
abbrev HP := Hp → Prop
def Sub (h h' : Hp) : Prop := ∀ b o, h b = some o → h' b = some o
def Dis (h h' : Hp) : Prop := ∀ b, h b = none ∨ h' b = none
def sep : List HP → Hp → Prop
  | [], _ => True
  | A :: l, h => ∃ h1 h2, Dis h1 h2 ∧ Sub h1 h ∧ Sub h2 h ∧ A h1 ∧ sep l h2
theorem Sub.refl (h : Hp) : Sub h h := fun _ _ e => e
theorem Sub.trans {a b c : Hp} (h : Sub a b) (k : Sub b c) : Sub a c := fun x o e => k x o (h x o e)
theorem Dis.symm {a b : Hp} (h : Dis a b) : Dis b a := fun x => (h x).symm
theorem Dis.sub {a b a' b' : Hp} (h : Dis a b) (h1 : Sub a' a) (h2 : Sub b' b) : Dis a' b' := fun x => by
  rcases h x with e | e
  · left; cases ha : a' x with
    | none => rfl
    | some o => rw [h1 x o ha] at e; cases e
  · right; cases hb : b' x with
    | none => rfl
    | some o => rw [h2 x o hb] at e; cases e
def uni (a b : Hp) : Hp := fun x => match a x with | some o => some o | none => b x
theorem sub_uni_l (a b : Hp) : Sub a (uni a b) := fun x o e => by simp [uni, e]
theorem sub_uni_r {a b : Hp} (h : Dis a b) : Sub b (uni a b) := fun x o e => by
  rcases h x with e1 | e1
  · simp [uni, e1, e]
  · rw [e1] at e; cases e
theorem uni_sub {a b c : Hp} (ha : Sub a c) (hb : Sub b c) : Sub (uni a b) c := fun x o e => by
  unfold uni at e
  cases h : a x with
  | none => rw [h] at e; exact hb x o e
  | some u => rw [h] at e; exact ha x o (by rw [h]; exact e)
theorem uni_some {a b : Hp} {x : Nat} {o : Obj} (e : uni a b x = some o) : a x = some o ∨ b x = some o := by
  unfold uni at e
  cases h : a x with
  | none => rw [h] at e; exact .inr e
  | some u => rw [h] at e; exact .inl e
theorem Dis.uni_l {a b c : Hp} (h1 : Dis a c) (h2 : Dis b c) : Dis (uni a b) c := fun x => by
  rcases h1 x with e | e
  · rcases h2 x with e2 | e2
    · left; simp [uni, e, e2]
    · exact .inr e2
  · exact .inr e

theorem sep_mono {l : List HP} {h h' : Hp} (hs : Sub h h') (k : sep l h) : sep l h' := by
  cases l with
  | nil => trivial
  | cons A l => obtain ⟨h1, h2, d, s1, s2, hA, hl⟩ := k; exact ⟨h1, h2, d, s1.trans hs, s2.trans hs, hA, hl⟩
theorem sep_swap {A B : HP} {l : List HP} {h : Hp} (k : sep (A :: B :: l) h) : sep (B :: A :: l) h := by
  obtain ⟨h1, h2, d, s1, s2, hA, h3, h4, d2, s3, s4, hB, hl⟩ := k
  have d14 : Dis h1 h4 := d.sub (Sub.refl _) s4
  have d13 : Dis h1 h3 := d.sub (Sub.refl _) s3
  refine ⟨h3, uni h1 h4, ?_, s3.trans s2, uni_sub s1 (s4.trans s2), hB, h1, h4, d14, sub_uni_l _ _, sub_uni_r d14, hA, hl⟩
  exact (Dis.uni_l d13 d2.symm).symm
theorem sep_perm {l l' : List HP} (p : l.Perm l') : ∀ {h : Hp}, sep l h → sep l' h := by
  induction p with
  | nil => exact fun k => k
  | cons A _ ih => exact fun ⟨h1, h2, d, s1, s2, hA, hl⟩ => ⟨h1, h2, d, s1, s2, hA, ih hl⟩
  | swap A B l => exact fun k => sep_swap k
  | trans _ _ ih1 ih2 => exact fun k => ih2 (ih1 k)
theorem sep_append {l1 l2 : List HP} : ∀ {h : Hp}, sep (l1 ++ l2) h → ∃ h1 h2, Dis h1 h2 ∧ Sub h1 h ∧ Sub h2 h ∧ sep l1 h1 ∧ sep l2 h2 := by
  induction l1 with
  | nil => exact fun {h} k => ⟨fun _ => none, h, fun _ => .inl rfl, fun _ _ e => (by cases e), Sub.refl _, trivial, k⟩
  | cons A l1 ih =>
    intro h k
    obtain ⟨h1, h2, d, s1, s2, hA, hl⟩ := k
    obtain ⟨h3, h4, d2, s3, s4, k3, k4⟩ := ih hl
    have d13 : Dis h1 h3 := d.sub (Sub.refl _) s3
    have d14 : Dis h1 h4 := d.sub (Sub.refl _) s4
    exact ⟨uni h1 h3, h4, Dis.uni_l d14 d2, uni_sub s1 (s3.trans s2), s4.trans s2, ⟨h1, h3, d13, sub_uni_l _ _, sub_uni_r d13, hA, k3⟩, k4⟩
theorem sep_app {l1 l2 : List HP} {h1 h2 h : Hp} (d : Dis h1 h2) (s1 : Sub h1 h) (s2 : Sub h2 h) (k1 : sep l1 h1) (k2 : sep l2 h2) : sep (l1 ++ l2) h := by
  induction l1 generalizing h1 h with
  | nil => exact sep_mono s2 k2
  | cons A l1 ih =>
    obtain ⟨h3, h4, d2, s3, s4, hA, hl⟩ := k1
    have d32 : Dis h3 h2 := d.sub s3 (Sub.refl _)
    have d42 : Dis h4 h2 := d.sub s4 (Sub.refl _)
    refine ⟨h3, uni h4 h2, (Dis.uni_l d2.symm d32.symm).symm, s3.trans s1, uni_sub (s4.trans s1) s2, hA, ih d42 (sub_uni_l _ _) (sub_uni_r d42) hl⟩

/-! ### 7. What is owned; what is not touched -/
structure Ctx where
  w0 : World
  S : Nat → Prop
structure Based (k : Ctx) (w : World) : Prop where
  tape : w.tape = k.w0.tape
  os : w.os = k.w0.os
  output : w.output = k.w0.output
  size : k.w0.heap.size ≤ w.heap.size
  lt : ∀ b, k.S b → b < k.w0.heap.size
  same : ∀ b, k.S b → w.heap[b]? = k.w0.heap[b]?
def Own (k : Ctx) (w : World) (l : List HP) : Prop :=
  Based k w ∧ ∃ h : Hp, (∀ b o, h b = some o → ¬ k.S b ∧ w.heap[b]? = some o) ∧ sep l h
/-- all that is there stays -/
def all (w : World) : Ctx := ⟨w, fun b => b < w.heap.size⟩
theorem Own.start (w : World) : Own (all w) w [] := ⟨⟨rfl, rfl, rfl, Nat.le_refl _, fun _ h => h, fun _ _ => rfl⟩, fun _ => none, fun _ _ e => (by cases e), trivial⟩
theorem Own.below {w w' : World} {l : List HP} (h : Own (all w) w' l) : Below w.heap.size w w' :=
  ⟨h.1.os, h.1.tape, h.1.output, h.1.size, fun k hk => h.1.same k hk⟩

section
variable {k : Ctx} {w w' : World} {l l' : List HP} {A B : HP}
theorem Own.perm (h : Own k w l) (p : l.Perm l') : Own k w l' := ⟨h.1, h.2.imp fun _ hh => ⟨hh.1, sep_perm p hh.2⟩⟩
theorem Own.swap (h : Own k w (A :: B :: l)) : Own k w (B :: A :: l) := h.perm (List.Perm.swap _ _ _)
theorem Own.drop (h : Own k w (A :: l)) : Own k w l := ⟨h.1, by
  obtain ⟨hh, h1, h2⟩ := h.2
  obtain ⟨a, b, d, s1, s2, hA, hl⟩ := h2
  exact ⟨b, fun x o e => h1 x o (s2 x o e), hl⟩⟩
/-- a part is told otherwise -/
theorem Own.tell (h : Own k w (A :: l)) (hAB : ∀ h, A h → B h) : Own k w (B :: l) := ⟨h.1, by
  obtain ⟨hh, h1, a, b, d, s1, s2, hA, hl⟩ := h.2
  exact ⟨hh, h1, a, b, d, s1, s2, hAB _ hA, hl⟩⟩
theorem Own.ex {X : Type} {A : X → HP} (h : Own k w ((fun h => ∃ x, A x h) :: l)) : ∃ x, Own k w (A x :: l) := by
  obtain ⟨hb, hh, h1, a, b, d, s1, s2, ⟨x, hA⟩, hl⟩ := h
  exact ⟨x, hb, hh, h1, a, b, d, s1, s2, hA, hl⟩
/-- parts that are one -/
theorem Own.open (h : Own k w (sep l :: l')) : Own k w (l ++ l') := by
  obtain ⟨hb, hh, h1, a, b, d, s1, s2, hA, hl⟩ := h
  exact ⟨hb, hh, h1, sep_app d s1 s2 hA hl⟩
theorem Own.shut (h : Own k w (l ++ l')) : Own k w (sep l :: l') := by
  obtain ⟨hb, hh, h1, hs⟩ := h
  obtain ⟨a, b, d, s1, s2, hA, hl⟩ := sep_append hs
  exact ⟨hb, hh, h1, a, b, d, s1, s2, hA, hl⟩
/-- what holds of a part -/
theorem Own.fact {p : Prop} (h : Own k w (A :: l)) (hA : ∀ h, A h → p) : p := by
  obtain ⟨hb, hh, h1, a, b, d, s1, s2, ha, hl⟩ := h
  exact hA _ ha
theorem Own.heap (h : Own k w (A :: l)) {p : Prop} (hA : ∀ hp, A hp → (∀ b o, hp b = some o → ¬ k.S b ∧ w.heap[b]? = some o) → p) : p := by
  obtain ⟨hb, hh, h1, a, b, d, s1, s2, ha, hl⟩ := h
  exact hA _ ha fun x o e => h1 x o (s1 x o e)

theorem Based.drew (h : Based k w) : Based k w.drew := ⟨h.tape, h.os, h.output, h.size, h.lt, h.same⟩
theorem Own.drew (h : Own k w l) : Own k w.drew l := ⟨h.1.drew, h.2⟩
theorem Own.drewN (h : Own k w l) (m : Nat) : Own k (w.drewN m) l := ⟨⟨h.1.tape, h.1.os, h.1.output, h.1.size, h.1.lt, h.1.same⟩, h.2⟩
theorem Own.undrawn {m : Nat} (h : Own k { w with drawn := m } l) : Own k w l := ⟨⟨h.1.tape, h.1.os, h.1.output, h.1.size, h.1.lt, h.1.same⟩, h.2⟩
theorem Own.drawn {m : Nat} (h : Own k w l) : Own k { w with drawn := m } l := ⟨⟨h.1.tape, h.1.os, h.1.output, h.1.size, h.1.lt, h.1.same⟩, h.2⟩

/-- the heap of one block -/
def one (b : Nat) (o : Obj) : Hp := fun x => if x = b then some o else none
theorem one_self (b : Nat) (o : Obj) : one b o b = some o := by simp [one]
theorem Based.alloc (h : Based k w) (o : Obj) : Based k (w.alloc o) :=
  ⟨h.tape, h.os, h.output, by have := h.size; show k.w0.heap.size ≤ (w.heap.push o).size; rw [Array.size_push]; omega, h.lt, fun b hb => by
    have h1 := h.lt b hb; have h2 := h.size
    rw [← h.same b hb]; exact Below.heap_alloc w o b (by omega)⟩
theorem Own.alloc (h : Own k w l) (o : Obj) (hA : A (one w.heap.size o)) : Own k (w.alloc o) (A :: l) := by
  obtain ⟨hb, hh, h1, hl⟩ := h
  have hnew : (w.alloc o).heap[w.heap.size]? = some o := by show (w.heap.push o)[w.heap.size]? = some o; simp
  have old : ∀ b u, hh b = some u → b < w.heap.size := fun b u e => by
    have := (h1 b u e).2
    rcases Nat.lt_or_ge b w.heap.size with h' | h'
    · exact h'
    · rw [Array.getElem?_eq_none h'] at this; cases this
  have dis : Dis (one w.heap.size o) hh := fun x => by
    by_cases e : x = w.heap.size
    · right; cases hx : hh x with
      | none => rfl
      | some u => have := old x u hx; omega
    · left; simp [one, e]
  refine ⟨hb.alloc o, uni (one w.heap.size o) hh, fun b u e => ?_, one w.heap.size o, hh, dis, sub_uni_l _ _, sub_uni_r dis, hA, hl⟩
  rcases uni_some e with e | e
  · unfold one at e
    split at e
    · rename_i hbe
      have e' := Option.some.inj e
      subst e'
      rw [hbe]
      exact ⟨fun hs => by have := hb.lt _ hs; have := hb.size; omega, hnew⟩
    · cases e
  · exact ⟨(h1 b u e).1, by rw [Below.heap_alloc w o b (old b u e)]; exact (h1 b u e).2⟩

/-- One block is written: w' is w but for block b. -/
structure Wrote (w w' : World) (b : Nat) : Prop where
  tape : w'.tape = w.tape
  os : w'.os = w.os
  output : w'.output = w.output
  size : w'.heap.size = w.heap.size
  block : ∀ c, c ≠ b → w'.heap[c]? = w.heap[c]?
theorem Wrote.refl (w : World) (b : Nat) : Wrote w w b := ⟨rfl, rfl, rfl, rfl, fun _ _ => rfl⟩
theorem Wrote.trans {a b c : World} {x : Nat} (h : Wrote a b x) (g : Wrote b c x) : Wrote a c x :=
  ⟨g.tape.trans h.tape, g.os.trans h.os, g.output.trans h.output, g.size.trans h.size, fun c hc => (g.block c hc).trans (h.block c hc)⟩
/-- A turns into A' where block b holds o' -/
def Turn (A : HP) (b : Nat) (o o' : Obj) (A' : HP) : Prop := ∀ h, A h → h b = some o → A' (fun x => if x = b then some o' else h x)
def At (A : HP) (b : Nat) : Prop := ∀ h, A h → ∃ o, h b = some o
inductive Nth : List HP → HP → HP → List HP → Prop
  | hd (A A' : HP) (l : List HP) : Nth (A :: l) A A' (A' :: l)
  | tl {l : List HP} {A A' : HP} {l' : List HP} (C : HP) (h : Nth l A A' l') : Nth (C :: l) A A' (C :: l')
theorem sep_nth {A' : HP} (p : Nth l A A' l') : ∀ {h : Hp}, sep l h → ∃ h1 h2, Dis h1 h2 ∧ Sub h1 h ∧ Sub h2 h ∧ A h1 ∧ ∀ h1' hh, Dis h1' h2 → Sub h1' hh → Sub h2 hh → A' h1' → sep l' hh := by
  induction p with
  | hd A A' l =>
    intro h k
    obtain ⟨h1, h2, d, s1, s2, hA, hl⟩ := k
    exact ⟨h1, h2, d, s1, s2, hA, fun h1' hh d' s1' s2' hA' => ⟨h1', h2, d', s1', s2', hA', hl⟩⟩
  | tl C p ih =>
    intro h k
    obtain ⟨h1, h2, d, s1, s2, hC, hl⟩ := k
    obtain ⟨h3, h4, d2, s3, s4, hA, f⟩ := ih hl
    have d13 : Dis h1 h3 := d.sub (Sub.refl _) s3
    have d14 : Dis h1 h4 := d.sub (Sub.refl _) s4
    refine ⟨h3, uni h1 h4, (Dis.uni_l d13 d2.symm).symm, s3.trans s2, uni_sub s1 (s4.trans s2), hA, fun h1' hh d' s1' s2' hA' => ?_⟩
    have e4 : Dis h1' h4 := d'.sub (Sub.refl _) (sub_uni_r d14)
    have e1 : Dis h1' h1 := d'.sub (Sub.refl _) (sub_uni_l _ _)
    refine ⟨h1, uni h1' h4, (Dis.uni_l e1 d14.symm).symm, (sub_uni_l _ _).trans s2', uni_sub s1' ((sub_uni_r d14).trans s2'), hC, f h1' _ e4 (sub_uni_l _ _) (sub_uni_r e4) hA'⟩
theorem Own.nth_heap {A' : HP} (h : Own k w l) (p : Nth l A A' l') {q : Prop} (hq : ∀ hp, A hp → (∀ b o, hp b = some o → ¬ k.S b ∧ w.heap[b]? = some o) → q) : q := by
  obtain ⟨hb, hh, h1, hl⟩ := h
  obtain ⟨a, c, d, s1, s2, hA, _⟩ := sep_nth p hl
  exact hq a hA fun x o e => h1 x o (s1 x o e)
theorem Own.write {A' : HP} {b : Nat} {o o' : Obj} (h : Own k w l) (p : Nth l A A' l') (hat : At A b) (ho : w.heap[b]? = some o) (ho' : w'.heap[b]? = some o') (hw : Wrote w w' b) (ht : Turn A b o o' A') : Own k w' l' := by
  obtain ⟨hb, hh, h1, hl⟩ := h
  obtain ⟨a, c, d, s1, s2, hA, f⟩ := sep_nth p hl
  obtain ⟨u, hu⟩ := hat a hA
  have hou : u = o := by have := (h1 b u (s1 b u hu)).2; rw [ho] at this; exact (Option.some.inj this).symm
  subst hou
  have hnS : ¬ k.S b := (h1 b u (s1 b u hu)).1
  let a' : Hp := fun x => if x = b then some o' else a x
  have d' : Dis a' c := fun x => by
    by_cases e : x = b
    · right
      rcases d x with e1 | e1
      · rw [e, hu] at e1; cases e1
      · exact e1
    · rcases d x with e1 | e1
      · left; simp [a', e, e1]
      · exact .inr e1
  refine ⟨⟨hw.tape.trans hb.tape, hw.os.trans hb.os, hw.output.trans hb.output, by rw [hw.size]; exact hb.size, hb.lt, fun x hx => ?_⟩, uni a' c, fun x v e => ?_, f a' _ d' (sub_uni_l _ _) (sub_uni_r d') (ht a hA hu)⟩
  · rw [hw.block x (fun e => hnS (e ▸ hx))]; exact hb.same x hx
  · rcases uni_some e with e | e
    · by_cases ex : x = b
      · subst ex
        simp only [a', if_true] at e
        cases e
        exact ⟨hnS, ho'⟩
      · simp only [a', ex, if_false] at e
        have := h1 x v (s1 x v e)
        exact ⟨this.1, by rw [hw.block x ex]; exact this.2⟩
    · have hne : x ≠ b := fun ex => by
        rcases d x with e1 | e1
        · rw [ex, hu] at e1; cases e1
        · rw [e1] at e; cases e
      have := h1 x v (s2 x v e)
      exact ⟨this.1, by rw [hw.block x hne]; exact this.2⟩

/-- A callee works on a part; all else that is owned is to it what is not touched. -/
def Ctx.at (k : Ctx) (w : World) (hr : Hp) : Ctx := ⟨w, fun b => k.S b ∨ ∃ o, hr b = some o⟩
structure Ext (k k' : Ctx) (w : World) : Prop where
  w0 : k'.w0 = w
  S : ∀ b, k.S b → k'.S b
theorem Own.frame (h : Own k w (l ++ l')) : ∃ k', Ext k k' w ∧ Own k' w l ∧ (∀ A ∈ l', ∃ hp, A hp ∧ ∀ b o, hp b = some o → k'.S b ∧ w.heap[b]? = some o) ∧ ∀ w' m, Own k' w' m → Own k w' (m ++ l') := by
  obtain ⟨hb, hh, h1, hs⟩ := h
  obtain ⟨a, c, d, s1, s2, hl, hl'⟩ := sep_append hs
  have inb : ∀ b o, w.heap[b]? = some o → b < w.heap.size := fun b o e => by
    rcases Nat.lt_or_ge b w.heap.size with h' | h'
    · exact h'
    · rw [Array.getElem?_eq_none h'] at e; cases e
  refine ⟨k.at w c, ⟨rfl, fun b hb => .inl hb⟩, ⟨⟨rfl, rfl, rfl, Nat.le_refl _, fun b hx => ?_, fun _ _ => rfl⟩, a, fun b o e => ⟨fun hx => ?_, (h1 b o (s1 b o e)).2⟩, hl⟩, ?_, ?_⟩
  · rcases hx with hx | ⟨o, hx⟩
    · have := hb.lt b hx; have := hb.size; show b < w.heap.size; omega
    · exact inb b o (h1 b o (s2 b o hx)).2
  · rcases hx with hx | ⟨u, hx⟩
    · exact (h1 b o (s1 b o e)).1 hx
    · rcases d b with e1 | e1
      · rw [e1] at e; cases e
      · rw [e1] at hx; cases hx
  · intro A hA
    have : ∀ (m : List HP) (hc : Hp), sep m hc → A ∈ m → ∃ hp, A hp ∧ Sub hp hc := by
      intro m
      induction m with
      | nil => intro _ _ h; cases h
      | cons B m ih =>
        intro hc hsm hm
        obtain ⟨x, y, dd, sx, sy, hB, hm'⟩ := hsm
        rcases List.mem_cons.1 hm with e | e
        · subst e; exact ⟨x, hB, sx⟩
        · obtain ⟨hp, h2, h3⟩ := ih y hm' e
          exact ⟨hp, h2, h3.trans sy⟩
    obtain ⟨hp, h2, h3⟩ := this l' c hl' hA
    exact ⟨hp, h2, fun b o e => ⟨.inr ⟨o, h3 b o e⟩, (h1 b o (s2 b o (h3 b o e))).2⟩⟩
  · intro w' m hm
    obtain ⟨hb', hh', h1', hs'⟩ := hm
    have hsz : w.heap.size ≤ w'.heap.size := hb'.size
    have hcS : ∀ b o, c b = some o → w'.heap[b]? = some o := fun b o e => by
      have h2 : w'.heap[b]? = w.heap[b]? := hb'.same b (.inr ⟨o, e⟩)
      rw [h2]; exact (h1 b o (s2 b o e)).2
    have dd : Dis hh' c := fun x => by
      cases hx : c x with
      | none => exact .inr rfl
      | some o =>
        left
        cases hy : hh' x with
        | none => rfl
        | some u => exact absurd (.inr ⟨o, hx⟩) (h1' x u hy).1
    refine ⟨⟨hb'.tape.trans hb.tape, hb'.os.trans hb.os, hb'.output.trans hb.output, Nat.le_trans hb.size hsz, hb.lt, fun b hx => (hb'.same b (.inl hx)).trans (hb.same b hx)⟩, uni hh' c, fun b o e => ?_, sep_app dd (sub_uni_l _ _) (sub_uni_r dd) hs' hl'⟩
    rcases uni_some e with e | e
    · exact ⟨fun hx => (h1' b o e).1 (.inl hx), (h1' b o e).2⟩
    · exact ⟨(h1 b o (s2 b o e)).1, hcS b o e⟩
end
end Go.Hb

/- Steps that touch memory. -/
set_option linter.unusedVariables false
set_option linter.unusedSimpArgs false
namespace Go.Hb
open Go Go.RowKit

/-! ### 8. What is asked of types; each seat answers by instances -/
class Und (P : Program) (t : TypeId) (d : outParam TypeDesc) : Prop where
  eq : P.underlying t = some d
class Lay (P : Program) (t : TypeId) (agg : outParam Bool) (n : outParam Nat) : Prop where
  isAgg : ∀ w, (isAgg t).run P w = .ok agg w
  size : ∀ w, (sizeOf t).run P w = .ok n w
class Zer (P : Program) (t : TypeId) (z : outParam Value) : Prop where
  run : ∀ w, (zeroValue t).run P w = .ok z w
/-- what append asks -/
class Elt (P : Program) (t : TypeId) (size bytes : outParam Nat) (z : outParam Value) : Prop where
  info : ∃ i, P.info? t = some i ∧ i.size = size ∧ i.bytes = bytes ∧ i.zero = some z
  cells : z.cells.size = size
theorem Elt.mk' {P : Program} {t : TypeId} {i : TypeInfo} {size bytes : Nat} {z : Value} (h : ∀ w, (typeInfo t).run P w = .ok i w) (hs : i.size = size) (hb : i.bytes = bytes) (hz : i.zero = some z) (hc : z.cells.size = size) : Elt P t size bytes z :=
  ⟨⟨i, by
    have := h default
    simp only [typeInfo, program, Sem.run_bind, Sem.run, Result.andThen_ok] at this
    cases hi : P.info? t with
    | none => rw [hi] at this; simp [stuck, Sem.run] at this
    | some j => rw [hi] at this; simp only [Sem.run_pure, Result.ok.injEq, and_true] at this; rw [this], hs, hb, hz⟩, hc⟩
/-- field f of struct s stands at off -/
class Fld (P : Program) (s : TypeId) (f : Nat) (off : outParam Nat) : Prop where
  run : ∀ a w, (Instr.fieldAt s (.pointer (some a)) f).run P w = .ok (.pointer (some (a.add off))) w
theorem Fld.mk' {P : Program} {s : TypeId} {fs : Array Field} {f : Nat} {fld : Field} {off n : Nat} {b : Bool} (hu : P.underlying s = some (.struct fs)) (hf : fs[f]? = some fld) (ho : fld.offset = off) (hl : Lay P fld.type b (n + 1)) : Fld P s f off :=
  ⟨fun a w => by subst ho; simp [Instr.fieldAt, run_underlying hu, hf, Instr.sureAddr, fieldPlace, hl.size]⟩
/-- field f of a struct's value -/
class FldV (P : Program) (s : TypeId) (f : Nat) (off : outParam Nat) (agg : outParam Bool) (n : outParam Nat) : Prop where
  run : ∀ (l : List Value) w v, (if agg = true then v = .agg ((l.drop off).take n).toArray else l[off]? = some v) → (Instr.field s (.agg l.toArray) f).run P w = .ok v w
theorem FldV.mk' {P : Program} {s : TypeId} {fs : Array Field} {f : Nat} {fld : Field} {off n : Nat} {b : Bool} (hu : P.underlying s = some (.struct fs)) (hf : fs[f]? = some fld) (ho : fld.offset = off) (hl : Lay P fld.type b n) : FldV P s f off b n :=
  ⟨fun l w v hv => by
    subst ho
    cases b
    · simp only [Bool.false_eq_true, if_false] at hv
      simp [Instr.field, run_underlying hu, hf, asAgg, part, hl.isAgg, hv]
    · simp only [if_true] at hv
      subst hv
      simp [Instr.field, run_underlying hu, hf, asAgg, part, hl.isAgg, hl.size, List.extract]⟩

theorem w64 {x : Int} (h1 : -9223372036854775808 ≤ x) (h2 : x ≤ 9223372036854775807) : IntKind.i64.wrap x = x := by rw [IntKind.wrap_i64]; omega
theorem w32 {x : Int} (h1 : -2147483648 ≤ x) (h2 : x ≤ 2147483647) : IntKind.i32.wrap x = x := by rw [IntKind.wrap_i32]; omega
/-! ### 9. Kinds of parts -/
def blk (b : Nat) (T : TypeId) (vs : List Value) : HP := fun h => h b = some (.cells vs.toArray T (0, 0))
def obj (b : Nat) (o : Obj) : HP := fun h => h b = some o
/-- rows of sz cells each, from cell o of block b on; room for cap of them -/
def arr (b o cap : Nat) (T : TypeId) (sz : Nat) (rows : List (List Value)) : HP := fun h =>
  ∃ pre spare : List Value, pre.length = o ∧ (∀ r ∈ rows, r.length = sz) ∧ cap * sz ≤ rows.length * sz + spare.length ∧ rows.length ≤ cap ∧ cap ≤ maxLen ∧
    h b = some (.cells (pre ++ rows.flatten ++ spare).toArray T (0, 0))
/-- v is a slice of these rows -/
def sl (v : Value) (T : TypeId) (sz : Nat) (rows : List (List Value)) : HP := fun h =>
  (v = .slice none 0 0 ∧ rows = []) ∨ ∃ b o cap, v = .slice (some ⟨b, o, none⟩) rows.length cap ∧ arr b o cap T sz rows h

theorem flatten_length {sz : Nat} : ∀ {rows : List (List Value)}, (∀ r ∈ rows, r.length = sz) → rows.flatten.length = rows.length * sz
  | [], _ => by simp
  | r :: rows, h => by
    have ih := flatten_length (rows := rows) fun x hx => h x (by simp [hx])
    have hr := h r (by simp)
    simp [ih, hr, Nat.add_mul, Nat.add_comm]
theorem flatten_get {sz : Nat} : ∀ {rows : List (List Value)}, (∀ r ∈ rows, r.length = sz) → ∀ (i j : Nat) (r : List Value), rows[i]? = some r → j < sz → rows.flatten[i * sz + j]? = r[j]?
  | [], _, i, j, r, h, _ => by simp at h
  | x :: rows, hr, 0, j, r, h, hj => by
    have : x = r := by simpa using h
    subst this
    have hx := hr x (by simp)
    simp only [Nat.zero_mul, Nat.zero_add, List.flatten_cons]
    rw [List.getElem?_append_left (by omega)]
  | x :: rows, hr, i + 1, j, r, h, hj => by
    have hx := hr x (by simp)
    have ih := flatten_get (rows := rows) (fun y hy => hr y (by simp [hy])) i j r (by simpa using h) hj
    simp only [List.flatten_cons]
    rw [List.getElem?_append_right (by rw [hx, Nat.add_mul]; omega), ← ih]
    congr 1
    rw [hx, Nat.add_mul]; omega

/-- w holds these cells from a on -/
def Holds (w : World) (a : Addr) (cs : List Value) : Prop := ∀ j v, cs[j]? = some v → w.cell? (a.add j) = some v
theorem holds_at {w : World} {b o : Nat} {cs : List Value} (h : Holds w ⟨b, o, none⟩ cs) (i : Nat) (v : Value) (hv : cs[i]? = some v) : Holds w ⟨b, o + (i * 1 + 0), none⟩ [v] := by
  intro j u hu
  cases j with
  | zero => simp at hu; subst hu; have := h i v hv; simpa [Addr.add_lit] using this
  | succ j => simp at hu
def Has (A : HP) (a : Addr) (cs : List Value) : Prop := a.spot = none ∧ ∀ h, A h → ∃ c T fz, h a.block = some (.cells c T fz) ∧ ∀ j v, cs[j]? = some v → c[a.off + j]? = some v
theorem add_at {a : Addr} (h : a.spot = none) (j : Nat) : a.add j = ⟨a.block, a.off + j, none⟩ := by
  obtain ⟨b, o, s⟩ := a
  simp only at h
  subst h
  exact Addr.add_lit b o j
section
variable {k : Ctx} {w w' : World} {l l' : List HP} {A A' : HP}
theorem Own.holds (h : Own k w l) {m : List HP} (p : Nth l A A m) {a : Addr} {cs : List Value} (hh : Has A a cs) : Holds w a cs := by
  refine h.nth_heap p fun hp hA hw j v hv => ?_
  obtain ⟨hs, hc⟩ := hh
  obtain ⟨c, T, fz, h1, h2⟩ := hc hp hA
  have h3 := (hw _ _ h1).2
  rw [add_at hs]
  simp only [World.cell?, h3, Option.isSome_none, Bool.false_eq_true, if_false]
  exact h2 j v hv
theorem Has.ofBlk {b o : Nat} {T : TypeId} {vs cs : List Value} (h : ∀ j v, cs[j]? = some v → vs[o + j]? = some v) : Has (blk b T vs) ⟨b, o, none⟩ cs :=
  ⟨rfl, fun hp hA => ⟨vs.toArray, T, (0, 0), hA, fun j v hv => by simpa using h j v hv⟩⟩
theorem Has.ofBlk1 {b o : Nat} {T : TypeId} {vs : List Value} {v : Value} (h : vs[o]? = some v) : Has (blk b T vs) ⟨b, o, none⟩ [v] :=
  Has.ofBlk fun j u hu => by
    cases j with
    | zero => simp at hu; subst hu; simpa using h
    | succ j => simp at hu
theorem Has.ofBlkA {b o : Nat} {T : TypeId} {vs cs : List Value} (n : Nat) (h : (vs.drop o).take n = cs) : Has (blk b T vs) ⟨b, o, none⟩ cs :=
  Has.ofBlk fun j v hv => by
    subst h
    rw [List.getElem?_take] at hv
    split at hv
    · simpa using hv
    · cases hv
theorem Has.ofArr {b o cap i x : Nat} {T : TypeId} {sz : Nat} {rows : List (List Value)} {r cs : List Value} (hr : rows[i]? = some r) (h : ∀ j v, cs[j]? = some v → r[x + j]? = some v) : Has (arr b o cap T sz rows) ⟨b, o + (i * sz + x), none⟩ cs :=
  ⟨rfl, fun hp hA => by
    obtain ⟨pre, spare, h1, h2, h3, h4, h5, h6⟩ := hA
    refine ⟨_, T, (0, 0), h6, fun j v hv => ?_⟩
    have hx := h j v hv
    have hlen : r.length = sz := h2 r (List.mem_of_getElem? hr)
    have hj : x + j < sz := by
      rcases Nat.lt_or_ge (x + j) r.length with h' | h'
      · omega
      · rw [List.getElem?_eq_none h'] at hx; cases hx
    have hi : i < rows.length := by
      rcases Nat.lt_or_ge i rows.length with h' | h'
      · exact h'
      · rw [List.getElem?_eq_none h'] at hr; cases hr
    have hf := flatten_length h2
    have hb : i * sz + (x + j) < rows.length * sz := by
      have : (i + 1) * sz ≤ rows.length * sz := Nat.mul_le_mul_right _ hi
      rw [Nat.add_mul] at this; omega
    simp only [List.getElem?_toArray]
    rw [List.append_assoc, List.getElem?_append_right (by omega), List.getElem?_append_left (by rw [hf]; omega)]
    have := flatten_get h2 i (x + j) r hr hj
    rw [← hx, ← this]
    congr 1; omega⟩
theorem Has.ofArr1 {b o cap i x : Nat} {T : TypeId} {sz : Nat} {rows : List (List Value)} {r : List Value} {v : Value} (hr : rows[i]? = some r) (h : r[x]? = some v) : Has (arr b o cap T sz rows) ⟨b, o + (i * sz + x), none⟩ [v] :=
  Has.ofArr hr fun j u hu => by
    cases j with
    | zero => simp at hu; subst hu; simpa using h
    | succ j => simp at hu
theorem Has.ofArrA {b o cap i x : Nat} {T : TypeId} {sz : Nat} {rows : List (List Value)} {r cs : List Value} (n : Nat) (hr : rows[i]? = some r) (h : (r.drop x).take n = cs) : Has (arr b o cap T sz rows) ⟨b, o + (i * sz + x), none⟩ cs :=
  Has.ofArr hr fun j v hv => by
    subst h
    rw [List.getElem?_take] at hv
    split at hv
    · simpa using hv
    · cases hv

def splice (c : List Value) (i : Nat) (vs : List Value) : List Value := c.take i ++ vs ++ c.drop (i + vs.length)
/-- what A becomes where vs is stored from cell o of block b on -/
def Upd (A : HP) (b o : Nat) (vs : List Value) (A' : HP) : Prop :=
  At A b ∧ ∀ h, A h → ∃ (c : List Value) (T : TypeId), h b = some (.cells c.toArray T (0, 0)) ∧ o + vs.length ≤ c.length ∧ A' (fun x => if x = b then some (.cells (splice c o vs).toArray T (0, 0)) else h x)
theorem Upd.ofBlk {b o : Nat} {T : TypeId} {vs us us' : List Value} (hl : o + vs.length ≤ us.length) (h : splice us o vs = us') : Upd (blk b T us) b o vs (blk b T us') :=
  ⟨fun h hA => ⟨_, hA⟩, fun hp hA => ⟨us, T, hA, hl, by simp [Go.Hb.blk, h]⟩⟩
theorem Upd.ofBlkAll {b : Nat} {T : TypeId} {vs us : List Value} (hl : vs.length = us.length) : Upd (blk b T us) b 0 vs (blk b T vs) :=
  Upd.ofBlk (by omega) (by simp [splice, hl])
theorem splice_one (us : List Value) (o : Nat) (v : Value) (ho : o < us.length) : splice us o [v] = us.set o v := by
  rw [List.set_eq_take_append_cons_drop, if_pos ho]; simp [splice]
theorem Upd.ofBlk1 {b o : Nat} {T : TypeId} {v : Value} {us : List Value} (hl : Nat.blt o us.length = true) : Upd (blk b T us) b o [v] (blk b T (us.set o v)) := by
  have ho : o < us.length := by simpa using hl
  exact Upd.ofBlk (by simp; omega) (splice_one us o v ho)
theorem splice_mid (p m s : List Value) (j : Nat) (vs : List Value) (h : j + vs.length ≤ m.length) : splice (p ++ m ++ s) (p.length + j) vs = p ++ splice m j vs ++ s := by
  have e1 : (p ++ m ++ s).take (p.length + j) = p ++ m.take j := by
    rw [List.append_assoc, List.take_append, List.take_of_length_le (by omega), Nat.add_sub_cancel_left, List.take_append_of_le_length (by omega)]
  have e2 : (p ++ m ++ s).drop (p.length + j + vs.length) = m.drop (j + vs.length) ++ s := by
    rw [List.append_assoc, List.drop_append, List.drop_of_length_le (by omega), List.nil_append, show p.length + j + vs.length - p.length = j + vs.length from by omega, List.drop_append_of_le_length (by omega)]
  unfold splice
  rw [e1, e2]
  simp only [List.append_assoc]
theorem splice_flatten {sz : Nat} : ∀ {rows : List (List Value)}, (∀ r ∈ rows, r.length = sz) → ∀ (i x : Nat) (r vs : List Value), rows[i]? = some r → x + vs.length ≤ sz →
    splice rows.flatten (i * sz + x) vs = (rows.set i (splice r x vs)).flatten
  | [], _, i, x, r, vs, h, _ => by simp at h
  | y :: rows, hr, 0, x, r, vs, h, hx => by
    have : y = r := by simpa using h
    subst this
    have hy := hr y (by simp)
    have := splice_mid [] y rows.flatten x vs (by omega)
    simpa using this
  | y :: rows, hr, i + 1, x, r, vs, h, hx => by
    have hy := hr y (by simp)
    have hi : i < rows.length := by
      have h' : rows[i]? = some r := by simpa using h
      rcases Nat.lt_or_ge i rows.length with h1 | h1
      · exact h1
      · rw [List.getElem?_eq_none h1] at h'; cases h'
    have hf := flatten_length (rows := rows) fun z hz => hr z (by simp [hz])
    have ih := splice_flatten (rows := rows) (fun z hz => hr z (by simp [hz])) i x r vs (by simpa using h) hx
    have hb : (i + 1) * sz ≤ rows.length * sz := Nat.mul_le_mul_right _ hi
    have := splice_mid y rows.flatten [] (i * sz + x) vs (by rw [hf]; rw [Nat.add_mul] at hb; omega)
    simp only [List.append_nil] at this
    simp only [List.set_cons_succ, List.flatten_cons, ← ih, ← this]
    congr 1
    rw [hy, Nat.add_mul]; omega
theorem Upd.ofArr {b o cap i x : Nat} {T : TypeId} {sz : Nat} {rows : List (List Value)} {r vs r' : List Value} (hr : rows[i]? = some r) (hx : x + vs.length ≤ r.length) (h : splice r x vs = r') :
    Upd (arr b o cap T sz rows) b (o + (i * sz + x)) vs (arr b o cap T sz (rows.set i r')) :=
  ⟨fun h hA => by obtain ⟨_, _, _, _, _, _, _, h6⟩ := hA; exact ⟨_, h6⟩, fun hp hA => by
    obtain ⟨pre, spare, h1, h2, h3, h4, h5, h6⟩ := hA
    have hlen : r.length = sz := h2 r (List.mem_of_getElem? hr)
    have hi : i < rows.length := by
      rcases Nat.lt_or_ge i rows.length with h' | h'
      · exact h'
      · rw [List.getElem?_eq_none h'] at hr; cases hr
    have hf := flatten_length h2
    have hb : (i + 1) * sz ≤ rows.length * sz := Nat.mul_le_mul_right _ hi
    rw [Nat.add_mul] at hb
    refine ⟨_, T, h6, by simp only [List.length_append, hf]; omega, pre, spare, h1, ?_, by simpa using h3, by simpa using h4, h5, ?_⟩
    · intro y hy
      rcases List.mem_or_eq_of_mem_set hy with h' | h'
      · exact h2 y h'
      · subst h'
        rw [← h]
        simp only [splice, List.length_append, List.length_take, List.length_drop]
        omega
    · have e := splice_mid pre rows.flatten spare (i * sz + x) vs (by rw [hf]; omega)
      rw [h1] at e
      simp only [if_true]
      rw [e, splice_flatten h2 i x r vs hr (by omega), h]⟩
theorem Upd.ofArr1 {b o cap i x : Nat} {T : TypeId} {sz : Nat} {rows : List (List Value)} {r : List Value} {v : Value} (hr : rows[i]? = some r) (hx : Nat.blt x r.length = true) :
    Upd (arr b o cap T sz rows) b (o + (i * sz + x)) [v] (arr b o cap T sz (rows.set i (r.set x v))) := by
  have hx' : x < r.length := by simpa using hx
  exact Upd.ofArr hr (by simp; omega) (splice_one r x v hx')
theorem Own.store (h : Own k w l) {b o : Nat} {vs : List Value} (p : Nth l A A' l') (hu : Upd A b o vs A') (h1 : ∀ v ∈ vs, v.oneCell' = true) {P : Program} :
    ∃ w', (storeCells ⟨b, o, none⟩ vs).run P w = .ok () w' ∧ Own k w' l' := by
  obtain ⟨hat, hup⟩ := hu
  refine h.nth_heap p fun hp hA hw => ?_
  obtain ⟨c, T, hb, hle, hA'⟩ := hup hp hA
  have hwb := (hw b _ hb).2
  have hr := run_storeCells_at P b o T vs 0 c.toArray w hwb (by simpa using hle) h1
  refine ⟨_, by simpa using hr, ?_⟩
  refine h.write (b := b) (o := .cells c.toArray T (0, 0)) (o' := .cells (splice c o vs).toArray T (0, 0)) p hat hwb ?_ ⟨rfl, rfl, rfl, by simp, fun x hx => setRow_other w b x _ hx⟩ ?_
  · have := setRow_heap w b c.toArray (splice c o vs).toArray T (0, 0) hwb
    simpa [splice] using this
  · intro h' hA2 hb2
    obtain ⟨c2, T2, hb3, _, hA3⟩ := hup h' hA2
    rw [hb2] at hb3
    have e := Option.some.inj hb3
    injection e with e1 e2 e3
    have e4 : c = c2 := by simpa using e1
    subst e4; subst e2
    exact hA3
theorem Own.blk_alloc (h : Own k w l) (T : TypeId) (vs : List Value) : Own k (w.alloc (.cells vs.toArray T)) (blk w.heap.size T vs :: l) := h.alloc _ (by simp [blk, one])
theorem Own.obj_alloc (h : Own k w l) (o : Obj) : Own k (w.alloc o) (obj w.heap.size o :: l) := h.alloc _ (by simp [obj, one])
end

/-! ### 10. Steps -/
section
variable {P : Program} {ops : Array Oper} {Q : Exit → Act → World → Prop} {n : Nat} {ds : List Deferred} {E E' : Env} {w w' : World}
variable {rest : List Oper} {d : Option Tmp} {ty : TypeId} {pos : String} {aft : Array Edge} {g : Option (Nat × Bool)}
variable {k : Ctx} {l l' : List HP} {A A' : HP}

theorem y_load1 {t : TypeId} [hl : Lay P t false 1] {x : Operand} {a : Addr} {v : Value} (hx : ev E x = some (.pointer (some a)))
    (hh : Holds w a [v]) : Yld P n ds E w ⟨d, .load t x, ty, pos, aft, g⟩ v :=
  ⟨fun c hc => by
    have h1 : w.cell? a = some v := by have := hh 0 v (by simp); simpa [Addr.add] using this
    simp [execOp, hc.eval hx, Instr.loadAt, Instr.sureAddr, loadVar, hl.isAgg, load, Sem.run, h1]⟩
theorem s_load1 {t : TypeId} [hl : Lay P t false 1] {x : Operand} {a : Addr} {v : Value} (hg : gd ops E g = some true) (hd : dok n d = true) (hx : ev E x = some (.pointer (some a)))
    (hh : Holds w a [v]) (h : LW P ops Q n ds rest (E.put d v) w) : LW P ops Q n ds (⟨d, .load t x, ty, pos, aft, g⟩ :: rest) E w :=
  l_y hg hd (y_load1 hx hh) h
theorem y_loadA {t : TypeId} {m : Nat} [hl : Lay P t true m] {x : Operand} {a : Addr} {cs : List Value} (hx : ev E x = some (.pointer (some a)))
    (hm : cs.length = m) (hh : Holds w a cs) : Yld P n ds E w ⟨d, .load t x, ty, pos, aft, g⟩ (.agg cs.toArray) :=
  ⟨fun c hc => by
    subst hm
    have h1 := run_loadCells_list (P := P) w a cs hh
    simp [execOp, hc.eval hx, Instr.loadAt, Instr.sureAddr, loadVar, hl.isAgg, hl.size, h1]⟩
theorem s_loadA {t : TypeId} {m : Nat} [hl : Lay P t true m] {x : Operand} {a : Addr} {cs : List Value} (hg : gd ops E g = some true) (hd : dok n d = true) (hx : ev E x = some (.pointer (some a)))
    (hm : cs.length = m) (hh : Holds w a cs) (h : LW P ops Q n ds rest (E.put d (.agg cs.toArray)) w) : LW P ops Q n ds (⟨d, .load t x, ty, pos, aft, g⟩ :: rest) E w :=
  l_y hg hd (y_loadA hx hm hh) h
theorem s_storeV {t : TypeId} {agg : Bool} {m : Nat} [hl : Lay P t agg m] {x y : Operand} {b o : Nat} {v : Value} {vs : List Value} (hO : Own k w l) (hg : gd ops E g = some true) (hd : dok n d = true) (hx : ev E x = some (.pointer (some ⟨b, o, none⟩))) (hy : ev E y = some v)
    (hvs : v.cells.toList = vs) (hm : vs.length = m) (h1 : ∀ v ∈ vs, v.oneCell' = true) (p : Nth l A A' l') (hu : Upd A b o vs A') (h : ∀ w', Own k w' l' → LW P ops Q n ds rest (E.put d undef) w') : LW P ops Q n ds (⟨d, .store t x y, ty, pos, aft, g⟩ :: rest) E w := by
  obtain ⟨w', hr, hO'⟩ := hO.store (P := P) p hu h1
  refine l_unit (o := ⟨d, .store t x y, ty, pos, aft, g⟩) hg hd (fun c hc => ?_) (h w' hO')
  subst hvs
  have : v.cells.size = m := by simpa using hm
  simp [execOp, hc.eval hx, hc.eval hy, Instr.storeAt, Instr.sureAddr, storeVar, hl.size, this, hr]
theorem s_store1 {t : TypeId} [hl : Lay P t false 1] {x y : Operand} {b o : Nat} {v : Value} (hO : Own k w l) (hg : gd ops E g = some true) (hd : dok n d = true) (hx : ev E x = some (.pointer (some ⟨b, o, none⟩))) (hy : ev E y = some v)
    (h1 : v.oneCell' = true) (p : Nth l A A' l') (hu : Upd A b o [v] A') (h : ∀ w', Own k w' l' → LW P ops Q n ds rest (E.put d undef) w') : LW P ops Q n ds (⟨d, .store t x y, ty, pos, aft, g⟩ :: rest) E w :=
  s_storeV (hl := hl) hO hg hd hx hy (by cases v <;> first | rfl | cases h1) rfl (by simpa using h1) p hu h
theorem s_storeA {t : TypeId} {m : Nat} [hl : Lay P t true m] {x y : Operand} {b o : Nat} {vs : List Value} (hO : Own k w l) (hg : gd ops E g = some true) (hd : dok n d = true) (hx : ev E x = some (.pointer (some ⟨b, o, none⟩))) (hy : ev E y = some (.agg vs.toArray))
    (hm : vs.length = m) (h1 : vs.all (·.oneCell') = true) (p : Nth l A A' l') (hu : Upd A b o vs A') (h : ∀ w', Own k w' l' → LW P ops Q n ds rest (E.put d undef) w') : LW P ops Q n ds (⟨d, .store t x y, ty, pos, aft, g⟩ :: rest) E w :=
  s_storeV (hl := hl) (vs := vs) hO hg hd hx hy rfl hm (fun v hv => List.all_eq_true.1 h1 v hv) p hu h
theorem s_alloc {t : TypeId} {z : Value} [hz : Zer P t z] {vs : List Value} (hO : Own k w l) (hg : gd ops E g = some true) (hd : dok n d = true) (hvs : z.cells = vs.toArray)
    (h : ∀ b w', Own k w' (blk b t vs :: l) → LW P ops Q n ds rest (E.put d (.pointer (some ⟨b, 0, none⟩))) w') : LW P ops Q n ds (⟨d, .alloc t, ty, pos, aft, g⟩ :: rest) E w :=
  l_val (o := ⟨d, .alloc t, ty, pos, aft, g⟩) (w' := w.alloc (.cells vs.toArray t)) hg hd (fun c hc => by simp [execOp, Instr.alloc, hz.run, newVar, newRow, hvs]) (h _ _ (hO.blk_alloc t vs))
theorem s_box {t : TypeId} {x : Operand} {v : Value} {vs : List Value} (hO : Own k w l) (hg : gd ops E g = some true) (hd : dok n d = true) (hx : ev E x = some v) (hvs : v.cells = vs.toArray)
    (h : ∀ b w', Own k w' (blk b t vs :: l) → LW P ops Q n ds rest (E.put d (.pointer (some ⟨b, 0, none⟩))) w') : LW P ops Q n ds (⟨d, .box t x, ty, pos, aft, g⟩ :: rest) E w :=
  l_val (o := ⟨d, .box t x, ty, pos, aft, g⟩) (w' := w.alloc (.cells vs.toArray t)) hg hd (fun c hc => by simp [execOp, hc.eval hx, Instr.box, newVar, newRow, hvs]) (h _ _ (hO.blk_alloc t vs))
theorem y_fieldAddr {s : TypeId} {f off : Nat} [hf : Fld P s f off] {x : Operand} {b o : Nat} (hx : ev E x = some (.pointer (some ⟨b, o, none⟩))) : Yld P n ds E w ⟨d, .fieldAddr s x f, ty, pos, aft, g⟩ (.pointer (some ⟨b, o + off, none⟩)) :=
  ⟨fun c hc => by simp [execOp, hc.eval hx, hf.run, Addr.add_lit]⟩
theorem s_fieldAddr {s : TypeId} {f off : Nat} [hf : Fld P s f off] {x : Operand} {b o : Nat} (hg : gd ops E g = some true) (hd : dok n d = true) (hx : ev E x = some (.pointer (some ⟨b, o, none⟩)))
    (h : LW P ops Q n ds rest (E.put d (.pointer (some ⟨b, o + off, none⟩))) w) : LW P ops Q n ds (⟨d, .fieldAddr s x f, ty, pos, aft, g⟩ :: rest) E w :=
  l_y hg hd (y_fieldAddr hx) h
theorem y_fieldAddr_row {s : TypeId} {f off : Nat} [hf : Fld P s f off] {x : Operand} {b o i j : Nat} (hx : ev E x = some (.pointer (some ⟨b, o + (i + j), none⟩))) : Yld P n ds E w ⟨d, .fieldAddr s x f, ty, pos, aft, g⟩ (.pointer (some ⟨b, o + (i + (j + off)), none⟩)) :=
  ⟨fun c hc => by simp [execOp, hc.eval hx, hf.run, Addr.add_lit, Nat.add_assoc]⟩
theorem s_fieldAddr_row {s : TypeId} {f off : Nat} [hf : Fld P s f off] {x : Operand} {b o i j : Nat} (hg : gd ops E g = some true) (hd : dok n d = true) (hx : ev E x = some (.pointer (some ⟨b, o + (i + j), none⟩)))
    (h : LW P ops Q n ds rest (E.put d (.pointer (some ⟨b, o + (i + (j + off)), none⟩))) w) : LW P ops Q n ds (⟨d, .fieldAddr s x f, ty, pos, aft, g⟩ :: rest) E w :=
  l_y hg hd (y_fieldAddr_row hx) h
theorem y_field {s : TypeId} {f off : Nat} {agg : Bool} {m : Nat} [hf : FldV P s f off agg m] {x : Operand} {vs : List Value} {v : Value} (hx : ev E x = some (.agg vs.toArray))
    (hv : if agg = true then v = .agg ((vs.drop off).take m).toArray else vs[off]? = some v) : Yld P n ds E w ⟨d, .field s x f, ty, pos, aft, g⟩ v :=
  ⟨fun c hc => by simp [execOp, hc.eval hx, hf.run vs w v hv]⟩
theorem s_field {s : TypeId} {f off : Nat} {agg : Bool} {m : Nat} [hf : FldV P s f off agg m] {x : Operand} {vs : List Value} {v : Value} (hg : gd ops E g = some true) (hd : dok n d = true) (hx : ev E x = some (.agg vs.toArray))
    (hv : if agg = true then v = .agg ((vs.drop off).take m).toArray else vs[off]? = some v) (h : LW P ops Q n ds rest (E.put d v) w) : LW P ops Q n ds (⟨d, .field s x f, ty, pos, aft, g⟩ :: rest) E w :=
  l_y hg hd (y_field hx hv) h
theorem y_index {t e : TypeId} {agg : Bool} {sz : Nat} [hu : Und P t (.slice e)] [hl : Lay P e agg sz] {x y : Operand} {b o len cap : Nat} {i : Int} {kd : IntKind} (hx : ev E x = some (.slice (some ⟨b, o, none⟩) len cap)) (hy : ev E y = some (.int kd i)) (h0 : 0 ≤ i) (h1 : i < len) : Yld P n ds E w ⟨d, .indexAddr t x y, ty, pos, aft, g⟩ (.pointer (some ⟨b, o + (i.toNat * sz + 0), none⟩)) :=
  ⟨fun c hc => by
    simp [execOp, hc.eval hx, hc.eval hy, Instr.indexAt, asIntOf, run_underlying hu.eq, h0, h1, hl.size, Addr.add_lit]⟩
theorem s_index {t e : TypeId} {agg : Bool} {sz : Nat} [hu : Und P t (.slice e)] [hl : Lay P e agg sz] {x y : Operand} {b o len cap : Nat} {i : Int} {kd : IntKind} (hg : gd ops E g = some true) (hd : dok n d = true)
    (hx : ev E x = some (.slice (some ⟨b, o, none⟩) len cap)) (hy : ev E y = some (.int kd i)) (h0 : 0 ≤ i) (h1 : i < len)
    (h : LW P ops Q n ds rest (E.put d (.pointer (some ⟨b, o + (i.toNat * sz + 0), none⟩))) w) : LW P ops Q n ds (⟨d, .indexAddr t x y, ty, pos, aft, g⟩ :: rest) E w :=
  l_y hg hd (y_index hx hy h0 h1) h
theorem y_indexA {t e : TypeId} {agg : Bool} {sz m : Nat} [hu : Und P t (.array m e)] [hl : Lay P e agg sz] {x y : Operand} {b o : Nat} {i : Int} {kd : IntKind} (hx : ev E x = some (.pointer (some ⟨b, o, none⟩))) (hy : ev E y = some (.int kd i)) (h0 : 0 ≤ i) (h1 : i < m) : Yld P n ds E w ⟨d, .indexAddr t x y, ty, pos, aft, g⟩ (.pointer (some ⟨b, o + (i.toNat * sz + 0), none⟩)) :=
  ⟨fun c hc => by
    simp [execOp, hc.eval hx, hc.eval hy, Instr.indexAt, asIntOf, run_underlying hu.eq, h0, h1, hl.size, Addr.add_lit, Instr.sureAddr]⟩
theorem s_indexA {t e : TypeId} {agg : Bool} {sz m : Nat} [hu : Und P t (.array m e)] [hl : Lay P e agg sz] {x y : Operand} {b o : Nat} {i : Int} {kd : IntKind} (hg : gd ops E g = some true) (hd : dok n d = true)
    (hx : ev E x = some (.pointer (some ⟨b, o, none⟩))) (hy : ev E y = some (.int kd i)) (h0 : 0 ≤ i) (h1 : i < m)
    (h : LW P ops Q n ds rest (E.put d (.pointer (some ⟨b, o + (i.toNat * sz + 0), none⟩))) w) : LW P ops Q n ds (⟨d, .indexAddr t x y, ty, pos, aft, g⟩ :: rest) E w :=
  l_y hg hd (y_indexA hx hy h0 h1) h
theorem y_lenS {t : TypeId} [hu : Und P t .string] {x : Operand} {s : ByteArray} (hx : ev E x = some (.string s)) : Yld P n ds E w ⟨d, .call ⟨.builtin .len, #[x], #[t]⟩, ty, pos, aft, g⟩ (.int .i64 s.size) :=
  ⟨fun c hc => by
    simp [execOp, resolve, hc.eval hx, invoke, builtin, Builtin.len_, run_underlying hu.eq, goInt]⟩
theorem s_lenS {t : TypeId} [hu : Und P t .string] {x : Operand} {s : ByteArray} (hg : gd ops E g = some true) (hd : dok n d = true) (hx : ev E x = some (.string s))
    (h : LW P ops Q n ds rest (E.put d (.int .i64 s.size)) w) : LW P ops Q n ds (⟨d, .call ⟨.builtin .len, #[x], #[t]⟩, ty, pos, aft, g⟩ :: rest) E w :=
  l_y hg hd (y_lenS hx) h
theorem y_lenL {t e : TypeId} [hu : Und P t (.slice e)] {x : Operand} {a : Option Addr} {len cap : Nat} (hx : ev E x = some (.slice a len cap)) : Yld P n ds E w ⟨d, .call ⟨.builtin .len, #[x], #[t]⟩, ty, pos, aft, g⟩ (.int .i64 len) :=
  ⟨fun c hc => by
    simp [execOp, resolve, hc.eval hx, invoke, builtin, Builtin.len_, run_underlying hu.eq, goInt]⟩
theorem s_lenL {t e : TypeId} [hu : Und P t (.slice e)] {x : Operand} {a : Option Addr} {len cap : Nat} (hg : gd ops E g = some true) (hd : dok n d = true) (hx : ev E x = some (.slice a len cap))
    (h : LW P ops Q n ds rest (E.put d (.int .i64 len)) w) : LW P ops Q n ds (⟨d, .call ⟨.builtin .len, #[x], #[t]⟩, ty, pos, aft, g⟩ :: rest) E w :=
  l_y hg hd (y_lenL hx) h
/-- the whole of an array, as a slice -/
theorem y_sliceA {t e : TypeId} {m : Nat} {agg : Bool} {sz : Nat} [hu : Und P t (.array m e)] [hl : Lay P e agg sz] {x : Operand} {b o : Nat} (hx : ev E x = some (.pointer (some ⟨b, o, none⟩))) : Yld P n ds E w ⟨d, .slice t x none none none, ty, pos, aft, g⟩ (.slice (some ⟨b, o, none⟩) m m) :=
  ⟨fun c hc => by
    simp [execOp, hc.eval hx, Instr.sliceAt, run_underlying hu.eq, Instr.sureAddr, Instr.sliceBounds, hl.size, Addr.add_lit, Addr.add]⟩
theorem s_sliceA {t e : TypeId} {m : Nat} {agg : Bool} {sz : Nat} [hu : Und P t (.array m e)] [hl : Lay P e agg sz] {x : Operand} {b o : Nat} (hg : gd ops E g = some true) (hd : dok n d = true) (hx : ev E x = some (.pointer (some ⟨b, o, none⟩)))
    (h : LW P ops Q n ds rest (E.put d (.slice (some ⟨b, o, none⟩) m m)) w) : LW P ops Q n ds (⟨d, .slice t x none none none, ty, pos, aft, g⟩ :: rest) E w :=
  l_y hg hd (y_sliceA hx) h
theorem y_build {t : TypeId} {parts : List (Nat × Operand)} {pv : List (Nat × Value)} {cs : List Value} (hp : ∀ a, Fits n ds E a → parts.map (fun p => (p.1, a.eval p.2)) = pv)
    (hb : P.built t pv = some cs.toArray) : Yld P n ds E w ⟨d, .build t parts.toArray, ty, pos, aft, g⟩ (.agg cs.toArray) :=
  ⟨fun c hc => by
    have := run_build (P := P) w t pv.toArray cs.toArray (by simpa using hb)
    have e := hp c hc
    simp only [execOp, List.map_toArray]
    rw [show (parts.map fun x => match x with | (i, x) => (i, c.eval x)) = pv from by rw [← e]]
    simp [this]⟩
theorem s_build {t : TypeId} {parts : List (Nat × Operand)} {pv : List (Nat × Value)} {cs : List Value} (hg : gd ops E g = some true) (hd : dok n d = true) (hp : ∀ a, Fits n ds E a → parts.map (fun p => (p.1, a.eval p.2)) = pv)
    (hb : P.built t pv = some cs.toArray) (h : LW P ops Q n ds rest (E.put d (.agg cs.toArray)) w) : LW P ops Q n ds (⟨d, .build t parts.toArray, ty, pos, aft, g⟩ :: rest) E w :=
  l_y hg hd (y_build hp hb) h
/-- all parts are constants -/
def consts : List (Nat × Operand) → Option (List (Nat × Value))
  | [] => some []
  | (i, .const v) :: ps => match consts ps with | some l => some ((i, v) :: l) | none => none
  | _ => none
theorem consts_sound : ∀ (ps : List (Nat × Operand)) (l : List (Nat × Value)), consts ps = some l → ∀ a : Act, ps.map (fun p => (p.1, a.eval p.2)) = l
  | [], l, h, a => by simpa [consts] using h
  | (i, x) :: ps, l, h, a => by
    cases x <;> simp only [consts, reduceCtorEq] at h
    rename_i v
    cases hc : consts ps with
    | none => rw [hc] at h; cases h
    | some m =>
      rw [hc] at h
      have := consts_sound ps m hc a
      simp only [Option.some.injEq] at h
      subst h
      simp only [List.map_cons, this]
      rfl
def partsOf (E : Env) : List (Nat × Operand) → Option (List (Nat × Value))
  | [] => some []
  | (i, x) :: ps => match ev E x, partsOf E ps with | some v, some l => some ((i, v) :: l) | _, _ => none
theorem partsOf_sound {a : Act} (ha : Fits n ds E a) : ∀ (ps : List (Nat × Operand)) (l : List (Nat × Value)), partsOf E ps = some l → ps.map (fun p => (p.1, a.eval p.2)) = l
  | [], l, h => by simpa [partsOf] using h
  | (i, x) :: ps, l, h => by
    simp only [partsOf] at h
    cases hx : ev E x with
    | none => rw [hx] at h; cases h
    | some v =>
      cases hc : partsOf E ps with
      | none => rw [hx, hc] at h; cases h
      | some m =>
        rw [hx, hc] at h
        have := partsOf_sound ha ps m hc
        simp only [Option.some.injEq] at h
        subst h
        simp [this, ha.eval hx]
/-! strings -/
theorem y_eqS {t u : TypeId} {x y : Operand} {a b : ByteArray} {c : Bool} (hx : ev E x = some (.string a)) (hy : ev E y = some (.string b))
    (hc : decide (a = b) = c) : Yld P n ds E w ⟨d, .binOp .eql t x y u, ty, pos, aft, g⟩ (.bool c) :=
  ⟨fun f hf => by
    have e : (a.toList == b.toList) = c := by
      rw [← hc, Bool.eq_iff_iff]
      simp only [beq_iff_eq, decide_eq_true_eq, ByteArray.toList_eq]
      constructor
      · intro h; cases a; cases b; congr 1; exact Array.toList_inj.1 h
      · intro h; rw [h]
    simp [execOp, hf.eval hx, hf.eval hy, eqGuard, binOp, Op.stringOp, e]⟩
theorem s_eqS {t u : TypeId} {x y : Operand} {a b : ByteArray} {c : Bool} (hg : gd ops E g = some true) (hd : dok n d = true) (hx : ev E x = some (.string a)) (hy : ev E y = some (.string b))
    (hc : decide (a = b) = c) (h : LW P ops Q n ds rest (E.put d (.bool c)) w) : LW P ops Q n ds (⟨d, .binOp .eql t x y u, ty, pos, aft, g⟩ :: rest) E w :=
  l_y hg hd (y_eqS hx hy hc) h
theorem s_eqS_split {t u : TypeId} {x y : Operand} {a b : ByteArray} (hg : gd ops E g = some true) (hd : dok n d = true) (hx : ev E x = some (.string a)) (hy : ev E y = some (.string b))
    (h1 : a = b → LW P ops Q n ds rest (E.put d (.bool true)) w) (h2 : a ≠ b → LW P ops Q n ds rest (E.put d (.bool false)) w) : LW P ops Q n ds (⟨d, .binOp .eql t x y u, ty, pos, aft, g⟩ :: rest) E w := by
  by_cases h : a = b
  · exact s_eqS hg hd hx hy (decide_eq_true h) (h1 h)
  · exact s_eqS hg hd hx hy (decide_eq_false h) (h2 h)
theorem y_neS {t u : TypeId} {x y : Operand} {a b : ByteArray} {c : Bool} (hx : ev E x = some (.string a)) (hy : ev E y = some (.string b))
    (hc : (!decide (a = b)) = c) : Yld P n ds E w ⟨d, .binOp .neq t x y u, ty, pos, aft, g⟩ (.bool c) :=
  ⟨fun f hf => by
    have e : (a.toList == b.toList) = decide (a = b) := by
      rw [Bool.eq_iff_iff]
      simp only [beq_iff_eq, decide_eq_true_eq, ByteArray.toList_eq]
      constructor
      · intro h; cases a; cases b; congr 1; exact Array.toList_inj.1 h
      · intro h; rw [h]
    simp [execOp, hf.eval hx, hf.eval hy, eqGuard, binOp, Op.stringOp, e, hc]⟩
theorem s_neS {t u : TypeId} {x y : Operand} {a b : ByteArray} {c : Bool} (hg : gd ops E g = some true) (hd : dok n d = true) (hx : ev E x = some (.string a)) (hy : ev E y = some (.string b))
    (hc : (!decide (a = b)) = c) (h : LW P ops Q n ds rest (E.put d (.bool c)) w) : LW P ops Q n ds (⟨d, .binOp .neq t x y u, ty, pos, aft, g⟩ :: rest) E w :=
  l_y hg hd (y_neS hx hy hc) h
theorem s_neS_split {t u : TypeId} {x y : Operand} {a b : ByteArray} (hg : gd ops E g = some true) (hd : dok n d = true) (hx : ev E x = some (.string a)) (hy : ev E y = some (.string b))
    (h1 : a ≠ b → LW P ops Q n ds rest (E.put d (.bool true)) w) (h2 : a = b → LW P ops Q n ds rest (E.put d (.bool false)) w) : LW P ops Q n ds (⟨d, .binOp .neq t x y u, ty, pos, aft, g⟩ :: rest) E w := by
  by_cases h : a = b
  · exact s_neS hg hd hx hy (by simp [h]) (h2 h)
  · exact s_neS hg hd hx hy (by simp [h]) (h1 h)
theorem y_eqB {t u : TypeId} [hu : Und P t .bool] {x y : Operand} {a b c : Bool} (hx : ev E x = some (.bool a)) (hy : ev E y = some (.bool b))
    (hc : (a == b) = c) : Yld P n ds E w ⟨d, .binOp .eql t x y u, ty, pos, aft, g⟩ (.bool c) :=
  ⟨fun f hf => by
    simp [execOp, hf.eval hx, hf.eval hy, eqGuard, run_eql_bool _ t a b hu.eq, hc]⟩
theorem s_eqB {t u : TypeId} [hu : Und P t .bool] {x y : Operand} {a b c : Bool} (hg : gd ops E g = some true) (hd : dok n d = true) (hx : ev E x = some (.bool a)) (hy : ev E y = some (.bool b))
    (hc : (a == b) = c) (h : LW P ops Q n ds rest (E.put d (.bool c)) w) : LW P ops Q n ds (⟨d, .binOp .eql t x y u, ty, pos, aft, g⟩ :: rest) E w :=
  l_y hg hd (y_eqB hx hy hc) h
theorem y_neB {t u : TypeId} [hu : Und P t .bool] {x y : Operand} {a b c : Bool} (hx : ev E x = some (.bool a)) (hy : ev E y = some (.bool b))
    (hc : (!(a == b)) = c) : Yld P n ds E w ⟨d, .binOp .neq t x y u, ty, pos, aft, g⟩ (.bool c) :=
  ⟨fun f hf => by
    simp [execOp, hf.eval hx, hf.eval hy, eqGuard, run_neq_bool _ t a b hu.eq, hc]⟩
theorem s_neB {t u : TypeId} [hu : Und P t .bool] {x y : Operand} {a b c : Bool} (hg : gd ops E g = some true) (hd : dok n d = true) (hx : ev E x = some (.bool a)) (hy : ev E y = some (.bool b))
    (hc : (!(a == b)) = c) (h : LW P ops Q n ds rest (E.put d (.bool c)) w) : LW P ops Q n ds (⟨d, .binOp .neq t x y u, ty, pos, aft, g⟩ :: rest) E w :=
  l_y hg hd (y_neB hx hy hc) h
theorem y_not {t : TypeId} {x : Operand} {a c : Bool} (hx : ev E x = some (.bool a)) (hc : (!a) = c) : Yld P n ds E w ⟨d, .unOp .not t x, ty, pos, aft, g⟩ (.bool c) :=
  ⟨fun f hf => by simp [execOp, hf.eval hx, Op.unary, hc]⟩
theorem s_not {t : TypeId} {x : Operand} {a c : Bool} (hg : gd ops E g = some true) (hd : dok n d = true) (hx : ev E x = some (.bool a)) (hc : (!a) = c)
    (h : LW P ops Q n ds rest (E.put d (.bool c)) w) : LW P ops Q n ds (⟨d, .unOp .not t x, ty, pos, aft, g⟩ :: rest) E w :=
  l_y hg hd (y_not hx hc) h
/-- a result that lies in memory -/
theorem finc {fn : Func} {T : Value → World → Prop} {t : Nat} {ty : TypeId} {m : Nat} [hl : Lay P ty true m] {a : Addr} {cs : List Value} (hrs : fn.results = #[.cell t ty]) (hv : look E t = some (.pointer (some a))) (hm : cs.length = m) (hh : Holds w a cs) (hT : T (.agg cs.toArray) w) :
    QW (bodyPost P fn fun e w' => ∃ v, e = .returned v ∧ T v w') n [] .ret E w := fun c hc =>
  ⟨hc.defers, _, by
    subst hm
    have := hc.at_ t _ hv
    simp only [Array.getD_eq_getD_getElem?] at this
    have h1 := run_loadCells_list (P := P) w a cs hh
    simp [results, hrs, this, asAddr, loadVar, hl.isAgg, hl.size, h1], _, rfl, hT⟩
theorem finc1 {fn : Func} {T : Value → World → Prop} {t u : Nat} {ty : TypeId} {m : Nat} {x : Value} [hl : Lay P ty true m] {a : Addr} {cs : List Value} (hrs : fn.results = #[.cell t ty, .tmp u]) (hv : look E t = some (.pointer (some a))) (hx : look E u = some x) (hm : cs.length = m) (hh : Holds w a cs) (hT : T (.tuple #[.agg cs.toArray, x]) w) :
    QW (bodyPost P fn fun e w' => ∃ v, e = .returned v ∧ T v w') n [] .ret E w := fun c hc =>
  ⟨hc.defers, _, by
    subst hm
    have := hc.at_ t _ hv
    have h2 := hc.at_ u _ hx
    simp only [Array.getD_eq_getD_getElem?] at this h2
    have h1 := run_loadCells_list (P := P) w a cs hh
    simp [results, hrs, this, h2, asAddr, loadVar, hl.isAgg, hl.size, h1], _, rfl, hT⟩
theorem finc2 {fn : Func} {T : Value → World → Prop} {t u s : Nat} {ty : TypeId} {m : Nat} {x y : Value} [hl : Lay P ty true m] {a : Addr} {cs : List Value} (hrs : fn.results = #[.cell t ty, .tmp u, .tmp s]) (hv : look E t = some (.pointer (some a))) (hx : look E u = some x) (hy : look E s = some y) (hm : cs.length = m) (hh : Holds w a cs) (hT : T (.tuple #[.agg cs.toArray, x, y]) w) :
    QW (bodyPost P fn fun e w' => ∃ v, e = .returned v ∧ T v w') n [] .ret E w := fun c hc =>
  ⟨hc.defers, _, by
    subst hm
    have := hc.at_ t _ hv
    have h2 := hc.at_ u _ hx
    have h3 := hc.at_ s _ hy
    simp only [Array.getD_eq_getD_getElem?] at this h2 h3
    have h1 := run_loadCells_list (P := P) w a cs hh
    simp [results, hrs, this, h2, h3, asAddr, loadVar, hl.isAgg, hl.size, h1], _, rfl, hT⟩
end
end Go.Hb

/- Calls that work on a part of what is owned; slices that grow; what is only read. -/
set_option linter.unusedVariables false
set_option linter.unusedSimpArgs false
namespace Go.Hb
open Go Go.RowKit

/-! ### 11. A part is taken out -/
inductive Pull : List HP → HP → List HP → Prop
  | hd (A : HP) (l : List HP) : Pull (A :: l) A l
  | tl {l : List HP} {A : HP} {l' : List HP} (C : HP) (h : Pull l A l') : Pull (C :: l) A (C :: l')
inductive Pulls : List HP → List HP → List HP → Prop
  | nil (l : List HP) : Pulls l [] l
  | cons {l l' l'' As : List HP} {A : HP} (h : Pull l A l') (hs : Pulls l' As l'') : Pulls l (A :: As) l''
theorem Pull.perm {l l' : List HP} {A : HP} (p : Pull l A l') : l.Perm (A :: l') := by
  induction p with
  | hd => exact List.Perm.refl _
  | tl C _ ih => exact (ih.cons C).trans (List.Perm.swap _ _ _)
theorem Pulls.perm {l l' As : List HP} (p : Pulls l As l') : l.Perm (As ++ l') := by
  induction p with
  | nil => exact List.Perm.refl _
  | cons h _ ih => exact h.perm.trans (ih.cons _)
section
variable {k k' : Ctx} {w w' : World} {l l' As rest' : List HP} {A : HP}
theorem Own.pull (h : Own k w l) (p : Pull l A l') : Own k w (A :: l') := h.perm p.perm
theorem Own.pulls (h : Own k w l) (p : Pulls l As l') : Own k w (As ++ l') := h.perm p.perm
/-- what holds for good while the context stands -/
def Ro (k : Ctx) (a : Addr) (cs : List Value) : Prop := ∀ j v, cs[j]? = some v → k.S a.block ∧ k.w0.cell? (a.add j) = some v
theorem add_block (a : Addr) (j : Nat) : (a.add j).block = a.block := by unfold Addr.add; split <;> rfl
theorem Ro.holds {a : Addr} {cs : List Value} (h : Ro k a cs) (hO : Own k w l) : Holds w a cs := fun j v hv => by
  obtain ⟨h1, h2⟩ := h j v hv
  have := hO.1.same _ h1
  rw [← h2]
  exact World.cell?_of_block (by rw [add_block]; exact this)
theorem Ro.ext {a : Addr} {cs : List Value} (h : Ro k a cs) (hO : Own k w l) (he : Ext k k' w) : Ro k' a cs := fun j v hv => by
  have h1 := (h j v hv).1
  have h2 := h.holds hO j v hv
  exact ⟨he.S _ h1, by rw [he.w0]; exact h2⟩
theorem Ro.start (w : World) {a : Addr} {cs : List Value} (h : Holds w a cs) : Ro (all w) a cs := fun j v hv => by
  have := h j v hv
  refine ⟨?_, this⟩
  have hb := World.block_lt_of_cell? w (a.add j) this
  rw [add_block] at hb
  exact hb
theorem Ro.sub {a : Addr} {cs cs' : List Value} (h : Ro k a cs) (i : Nat) (hs : ∀ j v, cs'[j]? = some v → cs[i + j]? = some v) (ha : a.spot = none) : Ro k ⟨a.block, a.off + i, none⟩ cs' := fun j v hv => by
  have := h (i + j) v (hs j v hv)
  refine ⟨this.1, ?_⟩
  have h2 := this.2
  rw [add_at ha] at h2
  rw [add_at rfl]
  simpa [Nat.add_assoc] using h2

/-- A call over a part of what is owned: R tells the answer and what the part has become. -/
def Tri (P : Program) (f : FuncId) (args : Array Value) (k : Ctx) (w : World) (R : Value → List HP → Prop) : Prop := Ret P f args w fun v w' => ∃ m, R v m ∧ Own k w' m
theorem Tri.mono {P : Program} {f : FuncId} {args : Array Value} {R R' : Value → List HP → Prop} (h : Tri P f args k w R) (hr : ∀ v m, R v m → R' v m) : Tri P f args k w R' :=
  Ret.mono h fun _ _ ⟨m, h1, h2⟩ => ⟨m, hr _ _ h1, h2⟩
end

section
variable {P : Program} {ops : Array Oper} {Q : Exit → Act → World → Prop} {n : Nat} {ds : List Deferred} {E E' : Env} {w w' : World}
variable {rest : List Oper} {d : Option Tmp} {ty : TypeId} {pos : String} {aft : Array Edge} {g : Option (Nat × Bool)}
variable {k : Ctx} {l l' rl As : List HP} {A A' : HP}
theorem Ret.framed {f : FuncId} {vs : Array Value} {R : Value → List HP → Prop} (hO : Own k w l) (hp : Pulls l As rl)
    (hc : ∀ k', Ext k k' w → (∀ A ∈ rl, ∀ a cs, Has A a cs → Ro k' a cs) → Own k' w As → Tri P f vs k' w R) : Ret P f vs w fun v w' => ∃ m, R v m ∧ Own k w' (m ++ rl) := by
  obtain ⟨k', he, hA, hr, back⟩ := (hO.pulls hp).frame
  refine Ret.mono (hc k' he (fun A hAm a cs hh j v hv => ?_) hA) fun v w' ⟨m, h1, h2⟩ => ⟨m, h1, back w' m h2⟩
  obtain ⟨hp', h1, h2⟩ := hr A hAm
  obtain ⟨hs, hc⟩ := hh
  obtain ⟨c, T, fz, h3, h4⟩ := hc hp' h1
  have h5 := h2 _ _ h3
  refine ⟨h5.1, ?_⟩
  rw [he.w0, add_at hs]
  simp only [World.cell?, h5.2, Option.isSome_none, Bool.false_eq_true, if_false]
  exact h4 j v hv
theorem s_callO {f : FuncId} [hf : Fun P f] {xs : List Operand} {tys : Array TypeId} {vs : List Value} {R : Value → List HP → Prop} (hO : Own k w l) (hp : Pulls l As rl) (hg : gd ops E g = some true) (hd : dok n d = true)
    (hx : evl E xs = some vs) (hc : ∀ k', Ext k k' w → (∀ A ∈ rl, ∀ a cs, Has A a cs → Ro k' a cs) → Own k' w As → Tri P f vs.toArray k' w R)
    (h : ∀ v m w', R v m → Own k w' (m ++ rl) → LW P ops Q n ds rest (E.put d v) w') :
    LW P ops Q n ds (⟨d, .call ⟨.value (.func f), xs.toArray, tys⟩, ty, pos, aft, g⟩ :: rest) E w :=
  s_call hg hd hx (Ret.framed hO hp hc) fun v w' ⟨m, h1, h2⟩ => h v m w' h1 h2
theorem s_callvO {f : FuncId} [hf : Fun P f] {x : Operand} {xs : List Operand} {tys : Array TypeId} {first captured vs : List Value} {R : Value → List HP → Prop} (hO : Own k w l) (hp : Pulls l As rl) (hg : gd ops E g = some true) (hd : dok n d = true)
    (hv : ev E x = some (.func (.func f) first.toArray captured.toArray))
    (hx : evl E xs = some vs) (hc : ∀ k', Ext k k' w → (∀ A ∈ rl, ∀ a cs, Has A a cs → Ro k' a cs) → Own k' w As → Tri P f (first ++ vs ++ captured).toArray k' w R)
    (h : ∀ v m w', R v m → Own k w' (m ++ rl) → LW P ops Q n ds rest (E.put d v) w') :
    LW P ops Q n ds (⟨d, .call ⟨.value x, xs.toArray, tys⟩, ty, pos, aft, g⟩ :: rest) E w :=
  s_callv hg hd hv hx (Ret.framed hO hp hc) fun v w' ⟨m, h1, h2⟩ => h v m w' h1 h2
end

/-! ### 12. Slices that grow -/
section
variable {P : Program} {k : Ctx} {w w' : World} {l l' : List HP}
/-- x gives the cells of news, of which there are m -/
structure Src (P : Program) (w : World) (sz : Nat) (x : Value) (m : Nat) (news : List Value) : Prop where
  len : ∀ d, (Builtin.lenOf x).run P { w with drawn := d } = .ok m { w with drawn := d }
  cells : ∀ d, (Builtin.firstCells sz m x).run P { w with drawn := d } = .ok news.toArray { w with drawn := d }
  size : news.length = m * sz
  one : ∀ v ∈ news, v.oneCell' = true
theorem Src.slice {sz m c : Nat} {a : Addr} {news : List Value} (hl : news.length = m * sz) (hh : Holds w a news) (h1 : ∀ v ∈ news, v.oneCell' = true) : Src P w sz (.slice (some a) m c) m news :=
  ⟨fun d => rfl, fun d => run_firstCells_some (P := P) { w with drawn := d } sz m a m c news hl (fun j v hv => hh j v hv), hl, h1⟩
theorem Src.nil {sz : Nat} : Src P w sz (.slice none 0 0) 0 [] := ⟨fun d => rfl, fun d => by simp [Builtin.firstCells], by simp, by simp⟩
theorem Src.string (s : ByteArray) : Src P w 1 (.string s) s.size (Lib.strCells s) :=
  ⟨fun d => rfl, fun d => Lib.run_firstCells_string (P := P) { w with drawn := d } 1 s, by simp [Lib.strCells_length], Lib.strCells_oneCell s⟩

theorem not_int {d : TypeDesc} (h : ∀ kk, d ≠ .int kk) : (match d with | .int _ => true | _ => false) = false := by cases d <;> first | rfl | exact absurd rfl (h _)
theorem zeros_rows {z : Value} {sz m : Nat} (hz : z.cells.size = sz) : (Builtin.zeroCells z.cells m).size = m * sz := by rw [size_zeroCells, hz]

section
variable {T : TypeId} {i : TypeInfo} {z : Value} {t u ty : TypeId} {d : TypeDesc} (hu : P.underlying t = some (.slice T)) (hd : P.underlying u = some d) (hdi : ∀ kk, d ≠ .int kk) (hi : P.info? T = some i) (hz0 : i.zero = some z)
variable {x : Value} {m : Nat} {news : List Value} (hx : Src P w i.size x m news)
include hu hd hdi hi hx
theorem run_app_room {b o n cap : Nat} {w' : World} (hroom : n + m ≤ cap) (hst : (storeCells ⟨b, o + n * i.size, none⟩ news).run P w = .ok () w') :
    (Builtin.append_ #[t, u] ty #[.slice (some ⟨b, o, none⟩) n cap, x]).run P w = .ok (.slice (some ⟨b, o, none⟩) (n + m) cap) w' := by
  have hdi' := not_int hdi
  have hlen : (Builtin.lenOf x).run P w = .ok m w := hx.len w.drawn
  have hcells : (Builtin.firstCells i.size m x).run P w = .ok news.toArray w := hx.cells w.drawn
  simp [Builtin.append_, run_underlying hu, run_underlying hd, sizeOf, typeInfo, hi, hdi', hlen, hroom, hcells, Addr.add_lit, hst]
theorem run_app_none (h0 : m = 0) : (Builtin.append_ #[t, u] ty #[.slice none 0 0, x]).run P w = .ok (.slice none 0 0) w := by
  subst h0
  have hdi' := not_int hdi
  have hlen : (Builtin.lenOf x).run P w = .ok 0 w := hx.len w.drawn
  have hcells : (Builtin.firstCells i.size 0 x).run P w = .ok news.toArray w := hx.cells w.drawn
  simp [Builtin.append_, run_underlying hu, run_underlying hd, sizeOf, typeInfo, hi, hdi', hlen, hcells]
include hz0 in
theorem run_app_grow {a : Option Addr} {n cap : Nat} {olds : List Value} (hold : (Builtin.firstCells i.size n (.slice a n cap)).run P w.drew = .ok olds.toArray w.drew) (hg : cap < n + m) (h63 : n + m ≤ 4611686018427387904) (hb : (n + m) * i.bytes ≤ 140737488355328) :
    (Builtin.append_ #[t, u] ty #[.slice a n cap, x]).run P w = .ok (.slice (some ⟨w.heap.size, 0, none⟩) (n + m) (grownCap w (n + m) cap T))
      (w.drew.alloc (.cells (olds.toArray ++ news.toArray ++ Builtin.zeroCells z.cells (grownCap w (n + m) cap T - (n + m))) T)) := by
  have hdi' := not_int hdi
  have hlen : (Builtin.lenOf x).run P w = .ok m w := hx.len w.drawn
  have hcells : (Builtin.firstCells i.size m x).run P w.drew = .ok news.toArray w.drew := hx.cells _
  have hn' : ¬ (n + m ≤ cap) := by omega
  have h63' : ¬ (9223372036854775807 < ((n : Int) + (m : Int))) := by omega
  have hfit := growslice_fits hg hb
  have h48' : ¬ (281474976710656 < Builtin.nextslicecap (n + m) cap * i.bytes) := by omega
  simp [Builtin.append_, run_underlying hu, run_underlying hd, sizeOf, typeInfo, zeroValue, hi, hz0, hdi', hlen, hn', h63', h48', Question.forced, hcells, hold, newRow, grownCap]
  congr 2
  apply Array.ext'
  simp
end

/-- v' is v with m more: new, or where it stood; nil only if nothing came to nil -/
structure Grew (v v' : Value) (m : Nat) : Prop where
  at_ : ∀ a n c, v' = .slice (some a) n c → a = ⟨a.block, 0, none⟩ ∨ ∃ n' c', v = .slice (some a) n' c'
  nil : v' = .slice none 0 0 ↔ v = .slice none 0 0 ∧ m = 0
theorem Own.append {T : TypeId} {sz bytes : Nat} {z : Value} [he : Elt P T sz bytes z] {t u ty : TypeId} {d : TypeDesc} [hu : Und P t (.slice T)] [hd : Und P u d] (hdi : ∀ kk, d ≠ .int kk)
    {v x : Value} {rows news : List (List Value)} (hO : Own k w (sl v T sz rows :: l)) (hx : Src P w sz x news.length news.flatten) (hn : ∀ r ∈ news, r.length = sz)
    (h63 : rows.length + news.length ≤ 4611686018427387904) (hb : (rows.length + news.length) * bytes ≤ 140737488355328) :
    ∃ v' w', (Builtin.append_ #[t, u] ty #[v, x]).run P w = .ok v' w' ∧ Own k w' (sl v' T sz (rows ++ news) :: l) ∧ Grew v v' news.length := by
  have hz := he.cells
  obtain ⟨i, hi, rfl, rfl, hz0⟩ := he.info
  -- a new row
  have fresh : ∀ (need old : Nat) (olds : List (List Value)), (∀ r ∈ olds, r.length = i.size) → need = olds.length + news.length → need ≤ 4611686018427387904 →
      sl (.slice (some ⟨w.heap.size, 0, none⟩) need (grownCap w need old T)) T i.size (olds ++ news) (one w.heap.size (.cells (olds.flatten.toArray ++ news.flatten.toArray ++ Builtin.zeroCells z.cells (grownCap w need old T - need)) T)) := by
    intro need old olds ho hneed hle
    have hge := grownCap_ge w need old T
    have hcm : grownCap w need old T ≤ maxLen := grownCap_le_maxLen w need old T (by simp only [maxLen]; omega)
    have hr : ∀ r ∈ olds ++ news, r.length = i.size := fun r hr => by
      rcases List.mem_append.1 hr with h | h
      · exact ho r h
      · exact hn r h
    refine .inr ⟨w.heap.size, 0, grownCap w need old T, by rw [List.length_append, ← hneed], [], (Builtin.zeroCells z.cells (grownCap w need old T - need)).toList, rfl, hr, ?_, by rw [List.length_append, ← hneed]; exact hge, hcm, ?_⟩
    · rw [List.length_append, ← hneed, Array.length_toList, zeros_rows hz, ← Nat.add_mul]
      exact Nat.mul_le_mul_right _ (by omega)
    · rw [one_self]
      congr 2
      apply Array.ext'
      simp
  rcases hO.heap (p := (v = .slice none 0 0 ∧ rows = []) ∨ ∃ b o cap pre spare, v = .slice (some ⟨b, o, none⟩) rows.length cap ∧ pre.length = o ∧ (∀ r ∈ rows, r.length = i.size) ∧ cap * i.size ≤ rows.length * i.size + spare.length ∧ rows.length ≤ cap ∧ cap ≤ maxLen ∧ w.heap[b]? = some (.cells (pre ++ rows.flatten ++ spare).toArray T (0, 0)))
    (fun hp hA hw => by
      rcases hA with hA | ⟨b, o, cap, hv, pre, spare, h1, h2, h3, h4, h5, h6⟩
      · exact .inl hA
      · exact .inr ⟨b, o, cap, pre, spare, hv, h1, h2, h3, h4, h5, (hw _ _ h6).2⟩) with ⟨rfl, rfl⟩ | ⟨b, o, cap, pre, spare, rfl, h1, h2, h3, h4, h5, h6⟩
  · by_cases hm : news.length = 0
    · have hn0 : news = [] := List.eq_nil_of_length_eq_zero hm
      refine ⟨.slice none 0 0, w, run_app_none hu.eq hd.eq hdi hi hx hm, by simpa [hn0] using hO, ⟨fun a n c e => (by cases e), by simp [hm]⟩⟩
    · refine ⟨_, _, run_app_grow (a := none) (n := 0) (cap := 0) (olds := []) hu.eq hd.eq hdi hi hz0 hx (run_firstCells_none (P := P) w.drew i.size 0 0 0) (by omega) (by simpa using h63) (by simpa using hb), ?_, ⟨fun a n c e => (by cases e; exact .inl rfl), by simp [hm]⟩⟩
      exact (hO.drop.drew).alloc _ (by have := fresh (0 + news.length) 0 [] (by simp) (by simp) (by simpa using h63); exact this)
  · have hf := flatten_length h2
    by_cases hroom : rows.length + news.length ≤ cap
    · have hfl : news.flatten.length = news.length * i.size := hx.size
      have hmul : (rows.length + news.length) * i.size ≤ cap * i.size := Nat.mul_le_mul_right _ hroom
      rw [Nat.add_mul] at hmul
      have hst := run_storeCells_at P b (o + rows.length * i.size) T news.flatten 0 (pre ++ rows.flatten ++ spare).toArray w h6 (by rw [hfl]; simp only [List.size_toArray, List.length_append, hf, h1]; omega) hx.one
      simp only [Nat.add_zero] at hst
      refine ⟨_, _, run_app_room hu.eq hd.eq hdi hi hx hroom hst, ?_, ⟨fun a n c e => (by cases e; exact .inr ⟨_, _, rfl⟩), by simp⟩⟩
      refine hO.write (b := b) (.hd _ _ _) (A' := sl (.slice (some ⟨b, o, none⟩) (rows.length + news.length) cap) T i.size (rows ++ news)) (fun h hA => ?_) h6 (setRow_heap w b _ _ T (0, 0) h6) ⟨rfl, rfl, rfl, by simp, fun x hx => setRow_other w b x _ hx⟩ ?_
      · rcases hA with ⟨hA, _⟩ | ⟨b', o', cap', hv, pre', spare', _, _, _, _, _, h6'⟩
        · cases hA
        · have e := hv
          simp only [Value.slice.injEq, Option.some.injEq, Addr.mk.injEq] at e
          obtain ⟨⟨rfl, _⟩, _⟩ := e
          exact ⟨_, h6'⟩
      · intro h hA hb2
        refine .inr ⟨b, o, cap, by rw [List.length_append], pre, spare.drop (news.length * i.size), h1, ?_, ?_, by simpa using hroom, h5, ?_⟩
        · intro r hr
          rcases List.mem_append.1 hr with h' | h'
          · exact h2 r h'
          · exact hn r h'
        · simp only [List.length_append, List.length_drop, Nat.add_mul]; omega
        · simp only [if_true]
          congr 2
          have e1 : (pre ++ rows.flatten ++ spare).take (o + rows.length * i.size) = pre ++ rows.flatten := by
            rw [← h1, ← hf, ← List.length_append]; exact List.take_left
          have e2 : (pre ++ rows.flatten ++ spare).drop (o + rows.length * i.size + news.flatten.length) = spare.drop (news.length * i.size) := by
            rw [← h1, ← hf, ← List.length_append, hfl, List.drop_append, List.drop_of_length_le (by omega), List.nil_append]
            congr 1; omega
          rw [e1, e2]
          simp only [List.flatten_append, List.append_assoc]
    · have hold : Holds w ⟨b, o, none⟩ rows.flatten := fun j v hv => by
        have hj : j < rows.flatten.length := by
          rcases Nat.lt_or_ge j rows.flatten.length with h' | h'
          · exact h'
          · rw [List.getElem?_eq_none h'] at hv; cases hv
        rw [add_at rfl]
        simp only [World.cell?, h6, Option.isSome_none, Bool.false_eq_true, if_false, List.getElem?_toArray]
        rw [List.append_assoc, List.getElem?_append_right (by omega), List.getElem?_append_left (by omega), show o + j - pre.length = j from by omega]
        exact hv
      have hfo := run_firstCells_some (P := P) w.drew i.size rows.length ⟨b, o, none⟩ rows.length cap rows.flatten hf (fun j v hv => hold j v hv)
      refine ⟨_, _, run_app_grow hu.eq hd.eq hdi hi hz0 hx hfo (by omega) h63 hb, ?_, ⟨fun a n c e => (by cases e; exact .inl rfl), by simp⟩⟩
      exact (hO.drop.drew).alloc _ (fresh _ cap rows h2 rfl h63)
end
end Go.Hb

/- Regions that draw their order. -/
set_option linter.unusedVariables false
set_option linter.unusedSimpArgs false
namespace Go.Hb
open Go Go.RowKit

/-! ### 13. Regions that draw their order: what only looks comes first; S holds all the way -/
section
variable {P : Program} {ops : Array Oper} {Q : Exit → Act → World → Prop} {n : Nat} {ds : List Deferred} {E E' : Env} {w w' : World} {S : World → Prop} {fuel : Nat} {listed : Array Bool} {lo : List Oper}
def nthO : List Oper → Nat → Option Oper
  | [], _ => none
  | o :: _, 0 => some o
  | _ :: l, i + 1 => nthO l i
theorem nthO_eq : ∀ (l : List Oper) (i : Nat), nthO l i = l[i]?
  | [], _ => rfl
  | _ :: _, 0 => rfl
  | _ :: l, i + 1 => by simp [nthO, nthO_eq l i]
def DW (P : Program) (ops : Array Oper) (Q : Exit → Act → World → Prop) (n : Nat) (ds : List Deferred) (S : World → Prop) (fuel : Nat) (listed : Array Bool) (E : Env) (w : World) : Prop :=
  ∀ a, Fits n ds E a → wpAnyH P .any ops Q S fuel listed a w
class Mixed (P : Program) : Prop where
  eq : P.follows .mixedOrders = true
theorem d_region [hm : Mixed P] {id : Nat} {l : List Oper} (S : World → Prop) (h : DW P l.toArray Q n ds S l.length (Array.replicate l.length false) E w.drew) : CW P Q n ds (.region id l.toArray true) E w :=
  fun a ha => wp_region_held (S := S) hm.eq (by simpa using h a ha)
/-- operation i is taken first: in all worlds of S it gives v -/
theorem d_take (i : Nat) {o : Oper} {v : Value} (hi : nthO lo i = some o) (hs : Region.noSelect lo.toArray = true) (hf : Region.free .any lo.toArray listed i = true) (hr : (Region.ready .any lo.toArray listed).contains i = true)
    (hQ : ∀ c a d v w, Q (.panic c) (Act.put a d v) w → Q (.panic c) a w) (hS : S w) (hg : gd lo.toArray E o.guard = some true) (hd : dok n o.dst = true) (hy : ∀ w, S w → Yld P n ds E w o v)
    (h : DW P lo.toArray Q n ds S fuel (listed.setIfInBounds i true) (E.put o.dst v) w) : DW P lo.toArray Q n ds S (fuel + 1) listed E w :=
  fun a ha => wpAnyH_take (by simpa [nthO_eq] using hi) hs hf hr (fun c a w => hQ c a _ _ w) (.inl ⟨gd_sound ha hg, fun w hw => (hy w hw).run a ha⟩) hS (h _ (ha.put hd v))
/-- operation i is passed over -/
theorem d_pass (i : Nat) {o : Oper} (hi : nthO lo i = some o) (hs : Region.noSelect lo.toArray = true) (hf : Region.free .any lo.toArray listed i = true) (hr : (Region.ready .any lo.toArray listed).contains i = true)
    (hQ : ∀ c a d v w, Q (.panic c) (Act.put a d v) w → Q (.panic c) a w) (hS : S w) (hg : gd lo.toArray E o.guard = some false) (hd : dok n o.dst = true)
    (h : DW P lo.toArray Q n ds S fuel (listed.setIfInBounds i true) (E.put o.dst undef) w) : DW P lo.toArray Q n ds S (fuel + 1) listed E w :=
  fun a ha => wpAnyH_take (by simpa [nthO_eq] using hi) hs hf hr (fun c a w => hQ c a _ _ w) (.inr ⟨gd_sound ha hg, rfl⟩) hS (h _ (ha.put hd undef))
/-- one operation of a region -/
def OW (P : Program) (ops : Array Oper) (Q : Exit → Act → World → Prop) (n : Nat) (ds : List Deferred) (o : Oper) (K : Env → World → Prop) (E : Env) (w : World) : Prop :=
  LW P ops (fun e a w => match e with | .normal => ∃ E', Fits n ds E' a ∧ K E' w | _ => False) n ds [o] E w
/-- only operation i may come up -/
theorem d_onlyK {K : Env → World → Prop} (i : Nat) {o : Oper} (hi : nthO lo i = some o) (hr : Region.ready .any lo.toArray listed = [i])
    (hK : ∀ E w, K E w → S w ∧ DW P lo.toArray Q n ds S fuel (listed.setIfInBounds i true) E w)
    (h : OW P lo.toArray Q n ds o K E w) : DW P lo.toArray Q n ds S (fuel + 1) listed E w := by
  intro a ha
  refine wpAnyH_all hr (by simp) ?_
  intro j hj
  have hji : j = i := by simpa using hj
  subst hji
  have := h a ha
  unfold wpOp
  rw [show lo.toArray[j]? = some o from by simpa [nthO_eq] using hi]
  simp only [wpList] at this ⊢
  split at this
  · rename_i hw
    rw [if_pos hw]
    rcases this with h1 | ⟨_, _, _, h1⟩
    · left
      unfold Oper.wp Oper.upon at *
      revert h1
      generalize (execOp a.eval o).run P w = r
      intro h1
      cases r with
      | ok x w1 =>
        cases x <;> simp only [LetsOut] at h1 ⊢ <;> first
          | (obtain ⟨E', hf, hSk⟩ := h1; obtain ⟨hS, hk⟩ := hK _ _ hSk; exact ⟨hS, hk _ hf⟩)
          | (refine Calls.mono h1 fun e w2 he => ?_
             cases e <;> simp only at he ⊢ <;> first
               | (obtain ⟨E', hf, hSk⟩ := he; obtain ⟨hS, hk⟩ := hK _ _ hSk; exact ⟨hS, hk _ hf⟩)
               | exact he.elim
               | (obtain ⟨_, _, he⟩ := he; exact he.elim))
          | (refine Rows.mono h1 fun v w2 he => ?_
             obtain ⟨E', hf, hSk⟩ := he
             obtain ⟨hS, hk⟩ := hK _ _ hSk
             exact ⟨hS, hk _ hf⟩)
          | exact h1.elim
      | halt x w1 => cases x <;> exact h1.elim
    · exact h1.elim
  · rename_i hw
    rw [if_neg hw]
    obtain ⟨E', hf, hSk⟩ := this
    obtain ⟨hS, hk⟩ := hK _ _ hSk
    exact ⟨hS, hk _ hf⟩
theorem d_only (i : Nat) {o : Oper} (hi : nthO lo i = some o) (hr : Region.ready .any lo.toArray listed = [i])
    (h : OW P lo.toArray Q n ds o (fun E w => S w ∧ DW P lo.toArray Q n ds S fuel (listed.setIfInBounds i true) E w) E w) : DW P lo.toArray Q n ds S (fuel + 1) listed E w :=
  d_onlyK i hi hr (fun _ _ h => h) h
theorem o_end {K : Env → World → Prop} (h : K E w) : QW (fun e a w => match e with | .normal => ∃ E', Fits n ds E' a ∧ K E' w | _ => False) n ds .normal E w := fun a ha => ⟨E, ha, h⟩
theorem d_done (hr : Region.ready .any lo.toArray listed = []) (h : QW Q n ds .normal E w) : DW P lo.toArray Q n ds S fuel listed E w := fun a ha => wpAnyH_done hr (h a ha) fuel
end
/-- these parts are there, and nobody writes them -/
def SO (k : Ctx) (L : List HP) (w : World) : Prop := ∃ m, Own k w (L ++ m)
theorem SO.of {k : Ctx} {w : World} {L l m : List HP} (h : Own k w l) (p : Pulls l L m) : SO k L w := ⟨m, h.pulls p⟩
end Go.Hb

/- More steps: pointers, conversions, strings, ranges over strings, appends, function values. -/
set_option linter.unusedVariables false
set_option linter.unusedSimpArgs false
namespace Go.Hb
open Go Go.RowKit

section
variable {P : Program} {ops : Array Oper} {Q : Exit → Act → World → Prop} {n : Nat} {ds : List Deferred} {E E' : Env} {w w' : World}
variable {rest : List Oper} {d : Option Tmp} {ty : TypeId} {pos : String} {aft : Array Edge} {g : Option (Nat × Bool)}
variable {k : Ctx} {l l' : List HP} {A A' : HP}

/-! ### 14. Pointers -/
theorem pt_eq {t e : TypeId} (h : P.underlying t = some (.pointer e)) : P.underlying t = some (.pointer (P.pointee t)) := by simp [Program.pointee, h]
theorem y_eqPnil {t e u : TypeId} [hu : Und P t (.pointer e)] {x y : Operand} {p : Option Addr} {c : Bool} (hx : ev E x = some (.pointer p)) (hy : ev E y = some (.pointer none)) (hc : p.isNone = c) :
    Yld P n ds E w ⟨d, .binOp .eql t x y u, ty, pos, aft, g⟩ (.bool c) :=
  ⟨fun a ha => by simp [execOp, ha.eval hx, ha.eval hy, eqGuard, run_eql_pointer_nil _ t p (pt_eq hu.eq), hc]⟩
theorem y_nePnil {t e u : TypeId} [hu : Und P t (.pointer e)] {x y : Operand} {p : Option Addr} {c : Bool} (hx : ev E x = some (.pointer p)) (hy : ev E y = some (.pointer none)) (hc : p.isSome = c) :
    Yld P n ds E w ⟨d, .binOp .neq t x y u, ty, pos, aft, g⟩ (.bool c) :=
  ⟨fun a ha => by simp [execOp, ha.eval hx, ha.eval hy, eqGuard, run_neq_pointer_nil _ t p (pt_eq hu.eq)]; cases p <;> simpa using hc⟩
theorem y_nePsame {t e u : TypeId} {b : Bool} {m : Nat} [hu : Und P t (.pointer e)] [hl : Lay P e b m] {x y : Operand} {p : Addr} (hx : ev E x = some (.pointer (some p))) (hy : ev E y = some (.pointer (some p))) :
    Yld P n ds E w ⟨d, .binOp .neq t x y u, ty, pos, aft, g⟩ (.bool false) :=
  ⟨fun a ha => by
    have h : ∀ d : Nat, (Op.equalIn (d + 1) t (.pointer (some p)) (.pointer (some p))).run P w = .ok true w := fun d => by
      by_cases h0 : m = 0
      · subst h0; simp [Op.equalIn, run_underlying hu.eq, hl.size]
      · simp [Op.equalIn, run_underlying hu.eq, hl.size, h0, run_sameAddr_same]
    simp only [execOp, ha.eval hx, ha.eval hy]
    simp [eqGuard, binOp, Op.equal, Op.maxDepth, h 9999]⟩

/-! ### 15. Conversions; calls of functions without a body -/
theorem y_convert {s t : TypeId} {x : Operand} {v v' : Value} (hx : ev E x = some v) (hr : (convert s t v).run P w = .ok v' w) : Yld P n ds E w ⟨d, .convert s t x, ty, pos, aft, g⟩ v' :=
  ⟨fun a ha => by simp [execOp, ha.eval hx, hr]⟩
theorem y_convI {s t : TypeId} {ds' : TypeDesc} {kd kd' : IntKind} [hs : Und P s ds'] [ht : Und P t (.int kd)] {x : Operand} {i r : Int} (hx : ev E x = some (.int kd' i)) (hr : kd.wrap i = r) :
    Yld P n ds E w ⟨d, .convert s t x, ty, pos, aft, g⟩ (.int kd r) :=
  y_convert hx (by subst hr; simp [convert, run_underlying hs.eq, run_underlying ht.eq, Conv.intToInt])
theorem y_convS {s t : TypeId} [hs : Und P s .string] [ht : Und P t .string] {x : Operand} {b : ByteArray} (hx : ev E x = some (.string b)) :
    Yld P n ds E w ⟨d, .convert s t x, ty, pos, aft, g⟩ (.string b) :=
  y_convert hx (by simp [convert, run_underlying hs.eq, run_underlying ht.eq])
theorem y_extern {f : FuncId} {xs : List Operand} {tys : Array TypeId} {vs : List Value} {v : Value} (hx : evl E xs = some vs) (hr : (callFunc f vs.toArray).run P w = .ok (.value v) w) :
    Yld P n ds E w ⟨d, .call ⟨.value (.func f), xs.toArray, tys⟩, ty, pos, aft, g⟩ v :=
  ⟨fun a ha => by
    have := evl_sound ha xs vs hx
    simp [execOp, resolve, Deferred.ofValue, Act.eval, invoke, this, hr]⟩
theorem y_built {b : Builtin} {xs : List Operand} {tys : Array TypeId} {vs : List Value} {v : Value} (hx : evl E xs = some vs) (hr : ∀ cs, (builtin b tys ty cs vs.toArray).run P w = .ok (.value v) w) :
    Yld P n ds E w ⟨d, .call ⟨.builtin b, xs.toArray, tys⟩, ty, pos, aft, g⟩ v :=
  ⟨fun a ha => by
    have := evl_sound ha xs vs hx
    simp [execOp, resolve, invoke, this, hr]⟩
theorem s_built {b : Builtin} {xs : List Operand} {tys : Array TypeId} {vs : List Value} {v : Value} (hg : gd ops E g = some true) (hd : dok n d = true) (hx : evl E xs = some vs) (hr : ∀ cs, (builtin b tys ty cs vs.toArray).run P w = .ok (.value v) w') (h : LW P ops Q n ds rest (E.put d v) w') :
    LW P ops Q n ds (⟨d, .call ⟨.builtin b, xs.toArray, tys⟩, ty, pos, aft, g⟩ :: rest) E w :=
  l_val (o := ⟨d, .call ⟨.builtin b, xs.toArray, tys⟩, ty, pos, aft, g⟩) hg hd (fun a ha => by
    have := evl_sound ha xs vs hx
    simp [execOp, resolve, invoke, this, hr]) h
theorem y_makeFunc {fn : Fn} {f c : List Operand} {vf vc : List Value} (hf : evl E f = some vf) (hc : evl E c = some vc) :
    Yld P n ds E w ⟨d, .makeFunc fn f.toArray c.toArray, ty, pos, aft, g⟩ (.func fn vf.toArray vc.toArray) :=
  ⟨fun a ha => by
    have h1 := evl_sound ha f vf hf
    have h2 := evl_sound ha c vc hc
    simp [execOp, Instr.makeFunc, h1, h2]⟩

theorem y_toUnsafe {s t e size bytes : Nat} {z : Value} [hs : Und P s (.pointer e)] [ht : Und P t .unsafePointer] [he : Elt P e size bytes z] {x : Operand} {a : Addr} {T cells : Nat} (hx : ev E x = some (.pointer (some a))) (h0 : size ≠ 0) (hsh : w.shape? a.block = some (T, cells)) (ho : a.off < cells) :
    Yld P n ds E w ⟨d, .convert s t x, ty, pos, aft, g⟩ (.pointer (some a)) := by
  obtain ⟨i, hi, rfl, _⟩ := he.info
  exact y_convert hx (Lib.run_to_unsafe w a hs.eq ht.eq hi h0 hsh ho)
theorem y_ofUnsafe {s t e size bytes : Nat} {z : Value} [hs : Und P s .unsafePointer] [ht : Und P t (.pointer e)] [he : Elt P e size bytes z] {x : Operand} {a : Addr} {T cells : Nat} (hx : ev E x = some (.pointer (some a))) (hsh : w.shape? a.block = some (T, cells)) (hl : liesAt P P.depth T (cells / P.cellsOf T) a.off e 1 = true) :
    Yld P n ds E w ⟨d, .convert s t x, ty, pos, aft, g⟩ (.pointer (some a)) := by
  obtain ⟨i, hi, _⟩ := he.info
  exact y_convert hx (Lib.run_from_unsafe w a hs.eq ht.eq hi hsh hl)
/-! ### 16. Strings -/
theorem y_indexS {t : TypeId} [hu : Und P t .string] {x y : Operand} {s : ByteArray} {i : Int} {kd : IntKind} {c : UInt8} (hx : ev E x = some (.string s)) (hy : ev E y = some (.int kd i)) (h0 : 0 ≤ i) (hc : s.data.toList[i.toNat]? = some c) :
    Yld P n ds E w ⟨d, .index t x y, ty, pos, aft, g⟩ (.int .u8 c.toNat) :=
  ⟨fun a ha => by
    have hlt : i.toNat < s.size := by
      rcases Nat.lt_or_ge i.toNat s.data.toList.length with h | h
      · simpa using h
      · rw [List.getElem?_eq_none h] at hc; cases hc
    have hs : s[i.toNat]? = some c := by
      rw [ByteArray.getElem?_lt' s i.toNat hlt]
      rw [List.getElem?_eq_getElem (by simpa using hlt)] at hc
      rw [← hc]; rfl
    simp only [execOp, ha.eval hx, ha.eval hy]
    simp [Instr.index, asIntOf, run_underlying hu.eq, h0, hs]⟩
theorem y_catS {t u : TypeId} {x y : Operand} {a b : ByteArray} (hx : ev E x = some (.string a)) (hy : ev E y = some (.string b)) (h : a.size + b.size ≤ 9223372036854775807) :
    Yld P n ds E w ⟨d, .binOp .add t x y u, ty, pos, aft, g⟩ (.string (a ++ b)) :=
  ⟨fun c hc => by simp [execOp, hc.eval hx, hc.eval hy, eqGuard, binOp, run_string_add_sum w a b h]⟩
/-- s[lo:hi] -/
theorem run_sub {t : TypeId} (hu : P.underlying t = some .string) {s : ByteArray} {lo hi : Option Value} {a b : Nat}
    (ha : match lo with | none => a = 0 | some v => ∃ kd i, v = .int kd i ∧ 0 ≤ i ∧ i.toNat = a)
    (hb : match hi with | none => b = s.size | some v => ∃ kd i, v = .int kd i ∧ 0 ≤ i ∧ i.toNat = b) (h1 : a ≤ b) (h2 : b ≤ s.size) :
    (Instr.sliceAt t (.string s) lo hi none).run P w = .ok (.string (s.extract a b)) w := by
  have hb' : (match hi with | some v => Instr.sliceBound v s.size (if false = true then .sliceAcap else .sliceAlen) | none => pure s.size : Sem Nat).run P w = .ok b w := by
    cases hi with
    | none => simp only at hb; subst hb; rfl
    | some v =>
      obtain ⟨kd, i, rfl, h0, rfl⟩ := hb
      have : i ≤ (s.size : Int) := by omega
      simp [Instr.sliceBound, asIntOf, h0, this]
  have ha' : (match lo with | some v => Instr.sliceBound v b (if (none : Option Value).isSome = true then .slice3C else .sliceB) | none => pure 0 : Sem Nat).run P w = .ok a w := by
    cases lo with
    | none => simp only at ha; subst ha; rfl
    | some v =>
      obtain ⟨kd, i, rfl, h0, rfl⟩ := ha
      have : i ≤ (b : Int) := by omega
      simp [Instr.sliceBound, asIntOf, h0, this]
  cases lo <;> cases hi <;> simp_all [Instr.sliceAt, Instr.slice, run_underlying hu, Instr.sliceBounds]
theorem y_sub {t : TypeId} [hu : Und P t .string] {x lo hi : Operand} {s : ByteArray} {i j : Int} {ki kj : IntKind} (hx : ev E x = some (.string s)) (hl : ev E lo = some (.int ki i)) (hh : ev E hi = some (.int kj j)) (h0 : 0 ≤ i) (h1 : i ≤ j) (h2 : j ≤ s.size) :
    Yld P n ds E w ⟨d, .slice t x (some lo) (some hi) none, ty, pos, aft, g⟩ (.string (s.extract i.toNat j.toNat)) :=
  ⟨fun a ha => by
    have := run_sub (P := P) (w := w) hu.eq (s := s) (lo := some (.int ki i)) (hi := some (.int kj j)) (a := i.toNat) (b := j.toNat) ⟨ki, i, rfl, h0, rfl⟩ ⟨kj, j, rfl, by omega, rfl⟩ (by omega) (by omega)
    simp [execOp, ha.eval hx, ha.eval hl, ha.eval hh, this]⟩
theorem y_subFrom {t : TypeId} [hu : Und P t .string] {x lo : Operand} {s : ByteArray} {i : Int} {ki : IntKind} (hx : ev E x = some (.string s)) (hl : ev E lo = some (.int ki i)) (h0 : 0 ≤ i) (h1 : i ≤ s.size) :
    Yld P n ds E w ⟨d, .slice t x (some lo) none none, ty, pos, aft, g⟩ (.string (s.extract i.toNat s.size)) :=
  ⟨fun a ha => by
    have := run_sub (P := P) (w := w) hu.eq (s := s) (lo := some (.int ki i)) (hi := none) (a := i.toNat) (b := s.size) ⟨ki, i, rfl, h0, rfl⟩ rfl (by omega) (by omega)
    simp [execOp, ha.eval hx, ha.eval hl, this]⟩
theorem y_subTo {t : TypeId} [hu : Und P t .string] {x hi : Operand} {s : ByteArray} {j : Int} {kj : IntKind} (hx : ev E x = some (.string s)) (hh : ev E hi = some (.int kj j)) (h0 : 0 ≤ j) (h2 : j ≤ s.size) :
    Yld P n ds E w ⟨d, .slice t x none (some hi) none, ty, pos, aft, g⟩ (.string (s.extract 0 j.toNat)) :=
  ⟨fun a ha => by
    have := run_sub (P := P) (w := w) hu.eq (s := s) (lo := none) (hi := some (.int kj j)) (a := 0) (b := j.toNat) rfl ⟨kj, j, rfl, h0, rfl⟩ (by omega) (by omega)
    simp [execOp, ha.eval hx, ha.eval hh, this]⟩
/-- a string's code points, one by one -/
theorem s_rangeS {t : TypeId} [hu : Und P t .string] {x : Operand} {s : ByteArray} (hO : Own k w l) (hg : gd ops E g = some true) (hd : dok n d = true) (hx : ev E x = some (.string s))
    (h : ∀ b w', Own k w' (obj b (.stringIter s 0) :: l) → LW P ops Q n ds rest (E.put d (.pointer (some ⟨b, 0, none⟩))) w') : LW P ops Q n ds (⟨d, .range t x, ty, pos, aft, g⟩ :: rest) E w :=
  l_val (o := ⟨d, .range t x, ty, pos, aft, g⟩) (w' := w.alloc (.stringIter s 0)) hg hd (fun c hc => by simp [execOp, hc.eval hx, Instr.range, run_underlying hu.eq]) (h _ _ (hO.obj_alloc _))
theorem Own.setObj {b : Nat} {o o' : Obj} (hO : Own k w (obj b o :: l)) : ∃ w', w' = { w with heap := w.heap.setIfInBounds b o' } ∧ w.heap[b]? = some o ∧ Own k w' (obj b o' :: l) := by
  have hb : w.heap[b]? = some o := hO.heap fun hp hA hw => (hw b o hA).2
  have hlt : b < w.heap.size := (Array.getElem?_eq_some_iff.1 hb).1
  refine ⟨_, rfl, hb, hO.write (b := b) (o' := o') (.hd _ _ _) (fun h hA => ⟨o, hA⟩) hb (by simp [hlt]) ⟨rfl, rfl, rfl, by simp, fun c hc => ?_⟩ (fun h hA hb2 => by simp [obj])⟩
  simp [Array.getElem?_setIfInBounds_ne (fun e => hc e.symm)]
theorem s_nextS {x : Operand} {b : Nat} {s : ByteArray} {p r wd : Nat} (hO : Own k w l) (hp : Pull l (obj b (.stringIter s p)) l') (hg : gd ops E g = some true) (hd : dok n d = true) (hx : ev E x = some (.pointer (some ⟨b, 0, none⟩)))
    (hlt : p < s.size) (hdec : Utf8.decode s p = (r, wd)) (h : ∀ w', Own k w' (obj b (.stringIter s (p + wd)) :: l') → LW P ops Q n ds rest (E.put d (.tuple #[.bool true, .int .i64 p, .int .i32 r])) w') :
    LW P ops Q n ds (⟨d, .next x true, ty, pos, aft, g⟩ :: rest) E w := by
  obtain ⟨w', rfl, hb, hO'⟩ := (hO.pull hp).setObj (o' := .stringIter s (p + wd))
  refine l_val (o := ⟨d, .next x true, ty, pos, aft, g⟩) hg hd (fun c hc => ?_) (h _ hO')
  simp [execOp, hc.eval hx, Instr.next, getObj, Sem.run, hb, hlt, setObj, goInt, hdec]
theorem y_nextS_end {x : Operand} {b : Nat} {s : ByteArray} {p : Nat} {m : List HP} (hO : Own k w l) (hp : Pull l (obj b (.stringIter s p)) m) (hx : ev E x = some (.pointer (some ⟨b, 0, none⟩))) (hlt : ¬ p < s.size) :
    Yld P n ds E w ⟨d, .next x true, ty, pos, aft, g⟩ (.tuple #[.bool false]) :=
  ⟨fun c hc => by
    have hb : w.heap[b]? = some (.stringIter s p) := (hO.pull hp).heap fun hp hA hw => (hw b _ hA).2
    simp [execOp, hc.eval hx, Instr.next, getObj, Sem.run, hb, hlt]⟩

/-! ### 17. Appends -/
theorem s_append {t u T : TypeId} {sz bytes : Nat} {z : Value} {dd : TypeDesc} [hu : Und P t (.slice T)] [he : Elt P T sz bytes z] [hd' : Und P u dd] {x y : Operand} {v vy : Value} {rows news : List (List Value)} (hdi : ∀ kk, dd ≠ .int kk)
    (hO : Own k w l) (hp : Pull l (sl v T sz rows) l') (hg : gd ops E g = some true) (hd : dok n d = true) (hx : ev E x = some v) (hy : ev E y = some vy) (hs : Src P w sz vy news.length news.flatten) (hn : ∀ r ∈ news, r.length = sz)
    (h63 : rows.length + news.length ≤ 4611686018427387904) (hb : (rows.length + news.length) * bytes ≤ 140737488355328)
    (h : ∀ v' w', Own k w' (sl v' T sz (rows ++ news) :: l') → Grew v v' news.length → LW P ops Q n ds rest (E.put d v') w') : LW P ops Q n ds (⟨d, .call ⟨.builtin .append, #[x, y], #[t, u]⟩, ty, pos, aft, g⟩ :: rest) E w := by
  obtain ⟨v', w', hr, hO', hgr⟩ := Own.append (P := P) (t := t) (u := u) (ty := ty) hdi (hO.pull hp) hs hn h63 hb
  refine l_val (o := ⟨d, .call ⟨.builtin .append, #[x, y], #[t, u]⟩, ty, pos, aft, g⟩) hg hd (fun c hc => ?_) (h v' w' hO' hgr)
  simp [execOp, resolve, hc.eval hx, hc.eval hy, invoke, builtin, hr]
end
theorem sl_shape {k : Ctx} {w : World} {l : List HP} {v : Value} {T : TypeId} {sz : Nat} {rows : List (List Value)} (hO : Own k w (sl v T sz rows :: l)) : ∃ a cap, v = .slice a rows.length cap :=
  hO.fact fun h hA => by
    rcases hA with ⟨rfl, rfl⟩ | ⟨b, o, cap, rfl, _⟩
    · exact ⟨none, 0, rfl⟩
    · exact ⟨_, _, rfl⟩
theorem sl_open {k : Ctx} {w : World} {l : List HP} {v : Value} {T : TypeId} {sz : Nat} {rows : List (List Value)} (hO : Own k w (sl v T sz rows :: l)) :
    (v = .slice none 0 0 ∧ rows = [] ∧ Own k w l) ∨ ∃ b o cap, v = .slice (some ⟨b, o, none⟩) rows.length cap ∧ Own k w (arr b o cap T sz rows :: l) := by
  obtain ⟨hb, hh, h1, a, c, dd, s1, s2, hA, hl⟩ := hO
  rcases hA with ⟨rfl, rfl⟩ | ⟨b, o, cap, rfl, hA⟩
  · exact .inl ⟨rfl, rfl, hb, c, fun x o e => h1 x o (s2 x o e), hl⟩
  · exact .inr ⟨b, o, cap, rfl, hb, hh, h1, a, c, dd, s1, s2, hA, hl⟩
theorem sl_shut {k : Ctx} {w : World} {l : List HP} {b o cap m : Nat} {T : TypeId} {sz : Nat} {rows : List (List Value)} (hO : Own k w (arr b o cap T sz rows :: l)) (hm : m = rows.length) : Own k w (sl (.slice (some ⟨b, o, none⟩) m cap) T sz rows :: l) :=
  hO.tell fun h hA => .inr ⟨b, o, cap, by rw [hm], hA⟩
theorem sl_nil {k : Ctx} {w : World} {l : List HP} (T : TypeId) (sz : Nat) (hO : Own k w l) : Own k w (sl (.slice none 0 0) T sz [] :: l) := by
  obtain ⟨hb, hh, h1, hl⟩ := hO
  exact ⟨hb, hh, h1, fun _ => none, hh, fun _ => .inl rfl, fun _ _ e => (by cases e), Sub.refl _, .inl ⟨rfl, rfl⟩, hl⟩
/-- bytes, a row each -/
def by1 (l : List UInt8) : List (List Value) := l.map fun x => [.int .u8 x.toNat]
theorem by1_flatten (l : List UInt8) : (by1 l).flatten = l.map fun x => Value.int .u8 x.toNat := by
  induction l with
  | nil => rfl
  | cons x l ih => simp only [by1, List.map_cons, List.flatten_cons] at ih ⊢; rw [ih]; rfl
theorem by1_length (l : List UInt8) : (by1 l).length = l.length := by simp [by1]
theorem by1_append (l m : List UInt8) : by1 (l ++ m) = by1 l ++ by1 m := by simp [by1]
theorem by1_one (l : List UInt8) : ∀ r ∈ by1 l, r.length = 1 := by simp [by1]
theorem src_str {P : Program} {w : World} (s : ByteArray) : Src P w 1 (.string s) (by1 s.data.toList).length (by1 s.data.toList).flatten := by
  have := Src.string (P := P) (w := w) s
  rw [by1_length, by1_flatten]
  exact this
theorem Has.whole {b o cap : Nat} {T : TypeId} {sz : Nat} {rows : List (List Value)} : Has (arr b o cap T sz rows) ⟨b, o, none⟩ rows.flatten :=
  ⟨rfl, fun hp hA => by
    obtain ⟨pre, spare, h1, h2, h3, h4, h5, h6⟩ := hA
    refine ⟨_, T, (0, 0), h6, fun j v hv => ?_⟩
    have hj : j < rows.flatten.length := by
      rcases Nat.lt_or_ge j rows.flatten.length with h' | h'
      · exact h'
      · rw [List.getElem?_eq_none h'] at hv; cases hv
    simp only [List.getElem?_toArray]
    rw [List.append_assoc, List.getElem?_append_right (by omega), List.getElem?_append_left (by omega), show o + j - pre.length = j from by omega]
    exact hv⟩
theorem wrote_freeze (w : World) (a : Addr) (m : Nat) : Wrote w (w.freeze a m) a.block := by
  unfold World.freeze
  split
  · exact Wrote.refl w _
  · refine ⟨rfl, rfl, rfl, by simp, fun c hc => ?_⟩
    simp only [Array.getElem?_modify]
    rw [if_neg (fun e => hc e.symm)]
theorem Own.freeze {k : Ctx} {w : World} {l : List HP} {b o cap m : Nat} {T : TypeId} {sz : Nat} {rows : List (List Value)} (hO : Own k w (arr b o cap T sz rows :: l)) : Own k (w.freeze ⟨b, o, none⟩ m) l := by
  by_cases h0 : m = 0
  · rw [show w.freeze ⟨b, o, none⟩ m = w by simp [World.freeze, h0]]
    exact hO.drop
  · obtain ⟨c, T', hb⟩ : ∃ c T', w.heap[b]? = some (.cells c T' (0, 0)) := hO.heap fun hp hA hw => by
      obtain ⟨pre, spare, h1, h2, h3, h4, h5, h6⟩ := hA
      exact ⟨_, _, (hw _ _ h6).2⟩
    have hb' : (w.freeze ⟨b, o, none⟩ m).heap[b]? = some (.cells c T' (o, o + m)) := by
      simp only [World.freeze, h0, if_false, Array.getElem?_modify, if_true, hb, Option.map_some]
      simp
    refine (hO.write (b := b) (A' := fun _ => True) (.hd _ _ _) (fun h hA => ?_) hb hb' (wrote_freeze w _ m) (fun _ _ _ => trivial)).drop
    obtain ⟨pre, spare, h1, h2, h3, h4, h5, h6⟩ := hA
    exact ⟨_, h6⟩
theorem shape_arr {k : Ctx} {w : World} {l : List HP} {b o cap : Nat} {T : TypeId} {sz : Nat} {rows : List (List Value)} (hO : Own k w (arr b o cap T sz rows :: l)) : ∃ m, w.shape? b = some (T, m) ∧ o + cap * sz ≤ m ∧ rows.flatten.length ≤ cap * sz := hO.heap fun hp hA hw => by
  obtain ⟨pre, spare, h1, h2, h3, h4, h5, h6⟩ := hA
  have hf := flatten_length h2
  refine ⟨_, by simp only [World.shape?, (hw _ _ h6).2]; rfl, ?_, by rw [hf]; exact Nat.mul_le_mul_right _ h4⟩
  simp only [List.size_toArray, List.length_append]; omega
theorem blk_shape {k : Ctx} {w : World} {l : List HP} {b : Nat} {T : TypeId} {vs : List Value} (h : Own k w (blk b T vs :: l)) : w.shape? b = some (T, vs.length) :=
  h.heap fun hp hA hw => by simp [World.shape?, (hw b _ hA).2]
theorem by1_holds {w : World} {b o : Nat} {bs : List UInt8} (h : Holds w ⟨b, o, none⟩ (by1 bs).flatten) (j : Nat) (x : UInt8) (hj : bs[j]? = some x) : w.cell? ((⟨b, o, none⟩ : Addr).add j) = some (.int .u8 x.toNat) := by
  refine h j _ ?_
  rw [by1_flatten, List.getElem?_map, hj]; rfl
end Go.Hb

/- More steps: parts found by their block, slice literals, bytes as a string. -/
set_option linter.unusedVariables false
set_option linter.unusedSimpArgs false
namespace Go.Hb
open Go Go.RowKit

theorem Own.none {k : Ctx} {w : World} : ∀ {l : List HP}, Own k w l → Own k w []
  | [], h => h
  | _ :: _, h => Own.none h.drop
theorem Own.front {k : Ctx} {w : World} {m : List HP} : ∀ {l : List HP}, Own k w (l ++ m) → Own k w l := fun {l} h => by
  have := h.perm (List.perm_append_comm (l₁ := l) (l₂ := m))
  clear h
  induction m with
  | nil => exact this
  | cons A m ih => exact ih this.drop
theorem Own.snoc {k : Ctx} {w : World} {l m : List HP} {A : HP} (h : Own k w (sep l :: A :: m)) : Own k w (sep (l ++ [A]) :: m) := by
  have h2 : Own k w (l ++ (A :: m)) := Own.open h
  refine Own.shut ?_
  rw [List.append_assoc]
  exact h2
theorem Pulls.refl_app : ∀ (l m : List HP), Pulls (l ++ m) l m
  | [], m => .nil m
  | A :: l, m => .cons (.hd A (l ++ m)) (Pulls.refl_app l m)
theorem Own.cut {k : Ctx} {w : World} {A : HP} {rest l : List HP} (h : Own k w ((A :: rest) ++ l)) : Own k w (A :: l) := by
  have h2 : Own k w ((A :: l) ++ rest) := h.perm (by
    rw [List.cons_append, List.cons_append]
    exact List.Perm.cons _ (List.perm_append_comm (l₁ := rest) (l₂ := l)))
  exact h2.front
/-! ### 18. The part whose block is b -/
class AtB (l : List HP) (b : Nat) (T : outParam TypeId) (vs : outParam (List Value)) (L : outParam (HP → List HP)) : Prop where
  nth : ∀ A', Nth l (blk b T vs) A' (L A')
instance (priority := high) AtB.hd (b : Nat) (T : TypeId) (vs : List Value) (l : List HP) : AtB (blk b T vs :: l) b T vs (fun A => A :: l) := ⟨fun A' => .hd _ A' l⟩
instance AtB.tl (b : Nat) (T : TypeId) (vs : List Value) (l : List HP) (C : HP) (L : HP → List HP) [h : AtB l b T vs L] : AtB (C :: l) b T vs (fun A => C :: L A) := ⟨fun A' => .tl C (h.nth A')⟩
instance AtB.app (b : Nat) (T : TypeId) (vs : List Value) (m l : List HP) (C : HP) (L : HP → List HP) [h : AtB (C :: (m ++ l)) b T vs L] : AtB ((C :: m) ++ l) b T vs L := h
instance AtB.app0 (b : Nat) (T : TypeId) (vs : List Value) (l : List HP) (L : HP → List HP) [h : AtB l b T vs L] : AtB ([] ++ l) b T vs L := h
instance AtB.app1 (b : Nat) (T : TypeId) (vs : List Value) (m l : List HP) (C : HP) (L : HP → List HP) [h : AtB (C :: (m ++ l)) b T vs L] : AtB (List.append (C :: m) l) b T vs L := h
instance AtB.app2 (b : Nat) (T : TypeId) (vs : List Value) (l : List HP) (L : HP → List HP) [h : AtB l b T vs L] : AtB (List.append [] l) b T vs L := h
theorem AtB.self {l : List HP} {b : Nat} {T : TypeId} {vs : List Value} {L : HP → List HP} (h : AtB l b T vs L) : ∃ m, Nth l (blk b T vs) (blk b T vs) m := ⟨_, h.nth _⟩

section
variable {P : Program} {ops : Array Oper} {Q : Exit → Act → World → Prop} {n : Nat} {ds : List Deferred} {E E' : Env} {w w' : World}
variable {rest : List Oper} {d : Option Tmp} {ty : TypeId} {pos : String} {aft : Array Edge} {g : Option (Nat × Bool)}
variable {k : Ctx} {l l' : List HP} {A A' : HP}
theorem Y0 {t : TypeId} {x : Operand} {b o : Nat} {T : TypeId} {vs : List Value} {v : Value} {L : HP → List HP} (hO : Own k w l) (hx : ev E x = some (.pointer (some ⟨b, o, none⟩))) [hl : Lay P t false 1] [ha : AtB l b T vs L]
    (h : LW P ops Q n ds rest (E.put d v) w) (hg : gd ops E g = some true := by rfl) (hd : dok n d = true := by rfl) (hv : vs[o]? = some v := by rfl) :
    LW P ops Q n ds (⟨d, .load t x, ty, pos, aft, g⟩ :: rest) E w := by
  obtain ⟨m, hm⟩ := ha.self
  exact s_load1 hg hd hx (hO.holds hm (.ofBlk1 hv)) h
theorem Y1 {t : TypeId} {x y : Operand} {b o : Nat} {T : TypeId} {vs : List Value} {v : Value} {L : HP → List HP} (hO : Own k w l) (hx : ev E x = some (.pointer (some ⟨b, o, none⟩))) (hy : ev E y = some v) [hl : Lay P t false 1] [ha : AtB l b T vs L]
    (h : ∀ w', Own k w' (L (blk b T (vs.set o v))) → LW P ops Q n ds rest (E.put d undef) w') (hg : gd ops E g = some true := by rfl) (hd : dok n d = true := by rfl) (h1 : v.oneCell' = true := by rfl) (ho : Nat.blt o vs.length = true := by rfl) :
    LW P ops Q n ds (⟨d, .store t x y, ty, pos, aft, g⟩ :: rest) E w :=
  s_store1 hO hg hd hx hy h1 (ha.nth _) (.ofBlk1 ho) h

theorem Y2 {t : TypeId} {m : Nat} {x : Operand} {b o : Nat} {T : TypeId} {vs cs : List Value} {L : HP → List HP} (hO : Own k w l) (hx : ev E x = some (.pointer (some ⟨b, o, none⟩))) [hl : Lay P t true m] [ha : AtB l b T vs L]
    (h : LW P ops Q n ds rest (E.put d (.agg cs.toArray)) w) (hg : gd ops E g = some true := by rfl) (hd : dok n d = true := by rfl) (hv : (vs.drop o).take m = cs := by rfl) (hm : cs.length = m := by rfl) :
    LW P ops Q n ds (⟨d, .load t x, ty, pos, aft, g⟩ :: rest) E w := by
  obtain ⟨q, hq⟩ := ha.self
  exact s_loadA hg hd hx hm (hO.holds hq (.ofBlkA m hv)) h
theorem Y3 {t : TypeId} {m : Nat} {x y : Operand} {b : Nat} {T : TypeId} {vs us : List Value} {L : HP → List HP} (hO : Own k w l) (hx : ev E x = some (.pointer (some ⟨b, 0, none⟩))) (hy : ev E y = some (.agg us.toArray)) [hl : Lay P t true m] [ha : AtB l b T vs L]
    (h : ∀ w', Own k w' (L (blk b T us)) → LW P ops Q n ds rest (E.put d undef) w') (hg : gd ops E g = some true := by rfl) (hd : dok n d = true := by rfl) (hm : us.length = m := by rfl) (h1 : us.all (·.oneCell') = true := by rfl) (ho : us.length = vs.length := by rfl) :
    LW P ops Q n ds (⟨d, .store t x y, ty, pos, aft, g⟩ :: rest) E w :=
  s_storeA hO hg hd hx hy hm h1 (ha.nth _) (.ofBlkAll ho) h
/-! ### 18b. A drawn region, in the order of its text -/
def done (j m : Nat) : Array Bool := (List.replicate j true ++ List.replicate (m - j) false).toArray
theorem done_set {j m : Nat} (h : j < m) : (done j m).setIfInBounds j true = done (j + 1) m := by
  unfold done
  apply Array.ext'
  simp only [Array.toList_setIfInBounds]
  obtain ⟨q, hq⟩ : ∃ q, m - j = q + 1 := ⟨m - j - 1, by omega⟩
  rw [hq, show m - (j + 1) = q by omega, List.set_append_right _ _ (by simp)]
  rw [List.length_replicate, Nat.sub_self, List.replicate_succ, List.set_cons_zero, List.replicate_succ', List.append_assoc]
  rfl
def okAt (lo : List Oper) (j : Nat) : Bool := Region.noSelect lo.toArray && Region.free .any lo.toArray (done j lo.length) j && (Region.ready .any lo.toArray (done j lo.length)).contains j
/-- rest: what of lo is still to do, from number j on -/
def DL (P : Program) (lo : List Oper) (Q : Exit → Act → World → Prop) (n : Nat) (ds : List Deferred) (S : World → Prop) (j : Nat) (rest : List Oper) (E : Env) (w : World) : Prop :=
  (∀ c a d v w, Q (.panic c) (Act.put a d v) w → Q (.panic c) a w) → S w → lo.drop j = rest → DW P lo.toArray Q n ds S (lo.length - j) (done j lo.length) E w
theorem dl_start [hm : Mixed P] {id : Nat} {lo : List Oper} (S : World → Prop) (hQ : ∀ c a d v w, Q (.panic c) (Act.put a d v) w → Q (.panic c) a w) (hS : S w.drew) (h : DL P lo Q n ds S 0 lo E w.drew) : CW P Q n ds (.region id lo.toArray true) E w := by
  refine d_region S ?_
  have := h hQ hS rfl
  rw [Nat.sub_zero] at this
  rwa [show Array.replicate lo.length false = done 0 lo.length from by unfold done; simp]
theorem drop_some {lo rest : List Oper} {j : Nat} {o : Oper} (h : lo.drop j = o :: rest) : nthO lo j = some o ∧ j < lo.length ∧ lo.drop (j + 1) = rest := by
  have h1 : lo[j]? = some o := by
    have := congrArg List.head? h
    simpa [List.head?_drop] using this
  refine ⟨by rw [nthO_eq]; exact h1, (List.getElem?_eq_some_iff.1 h1).1, ?_⟩
  rw [← List.drop_drop, h]; rfl
theorem dl_y {lo : List Oper} {S : World → Prop} {j : Nat} {o : Oper} {v : Value} (hok : okAt lo j = true) (hg : gd lo.toArray E o.guard = some true) (hd : dok n o.dst = true) (hy : ∀ w, S w → Yld P n ds E w o v)
    (h : DL P lo Q n ds S (j + 1) rest (E.put o.dst v) w) : DL P lo Q n ds S j (o :: rest) E w := fun hQ hS hr => by
  obtain ⟨h1, h2, h3⟩ := drop_some hr
  simp only [okAt, Bool.and_eq_true] at hok
  have := h hQ hS h3
  obtain ⟨f, hf⟩ : ∃ f, lo.length - j = f + 1 := ⟨lo.length - j - 1, by omega⟩
  rw [show lo.length - (j + 1) = f by omega, ← done_set h2] at this
  rw [hf]
  exact d_take j h1 hok.1.1 hok.1.2 hok.2 hQ hS hg hd hy this
theorem dl_pass {lo : List Oper} {S : World → Prop} {j : Nat} {o : Oper} (hok : okAt lo j = true) (hg : gd lo.toArray E o.guard = some false) (hd : dok n o.dst = true)
    (h : DL P lo Q n ds S (j + 1) rest (E.put o.dst undef) w) : DL P lo Q n ds S j (o :: rest) E w := fun hQ hS hr => by
  obtain ⟨h1, h2, h3⟩ := drop_some hr
  simp only [okAt, Bool.and_eq_true] at hok
  have := h hQ hS h3
  obtain ⟨f, hf⟩ : ∃ f, lo.length - j = f + 1 := ⟨lo.length - j - 1, by omega⟩
  rw [show lo.length - (j + 1) = f by omega, ← done_set h2] at this
  rw [hf]
  exact d_pass j h1 hok.1.1 hok.1.2 hok.2 hQ hS hg hd this
theorem dl_only {lo : List Oper} {S : World → Prop} {j : Nat} {o : Oper} (hr : Region.ready .any lo.toArray (done j lo.length) = [j])
    (h : OW P lo.toArray Q n ds o (fun E w => S w ∧ DL P lo Q n ds S (j + 1) rest E w) E w) : DL P lo Q n ds S j (o :: rest) E w := fun hQ hS hr' => by
  obtain ⟨h1, h2, h3⟩ := drop_some hr'
  obtain ⟨f, hf⟩ : ∃ f, lo.length - j = f + 1 := ⟨lo.length - j - 1, by omega⟩
  rw [hf]
  refine d_onlyK j h1 hr (fun E w ⟨hS, hk⟩ => ⟨hS, ?_⟩) h
  have := hk hQ hS h3
  rw [show lo.length - (j + 1) = f by omega, ← done_set h2] at this
  exact this
theorem dl_end {lo : List Oper} {S : World → Prop} {j : Nat} (hr : Region.ready .any lo.toArray (done j lo.length) = []) (h : QW Q n ds .normal E w) : DL P lo Q n ds S j [] E w := fun _ _ _ => d_done hr h

/-! ### 19. Slice literals -/
theorem run_slices {t T : TypeId} {sz bytes : Nat} {z : Value} [hu : Und P t (.slice T)] [he : Elt P T sz bytes z] (w : World) (vs : List Value) (hv : ∀ v ∈ vs, v.cells.size = sz) (h0 : 0 < sz) (hn : vs ≠ []) (hs : vs.length * sz ≤ 16777216) :
    (Instr.buildSlice t vs.length ((vs.zipIdx 0).map fun x => (x.2, x.1)).toArray).run P w = .ok (.slice (some ⟨w.heap.size, 0, none⟩) vs.length vs.length) (w.alloc (.cells (vs.map fun v => v.cells.toList).flatten.toArray T)) := by
  obtain ⟨i, hi, hi2, hi3, hi4⟩ := he.info
  subst hi2
  have hlen : 0 < vs.length := List.length_pos_iff.2 hn
  have hpos : 0 < vs.length * i.size := Nat.mul_pos hlen h0
  refine run_buildSlice (P := P) w t T vs.length _ _ i z hu.eq hi hi4 (by omega) (by omega) ?_
  have hf := Great.fill_whole (s := i.size) h0 vs ((Array.range (vs.length * i.size)).map (z.cells[· % z.cells.size]!)) hv (by simp)
  rw [show (vs.map fun v => v.cells.toList).flatten = vs.flatMap fun v => v.cells.toList from by rw [List.flatMap_def]]
  exact hf
theorem s_slices {t T : TypeId} {sz bytes len : Nat} {z : Value} [hu : Und P t (.slice T)] [he : Elt P T sz bytes z] {parts : List (Nat × Operand)} (vs : List Value) (hO : Own k w l) (hg : gd ops E g = some true) (hd : dok n d = true) (hlen : vs.length = len)
    (hp : partsOf E parts = some ((vs.zipIdx 0).map fun x => (x.2, x.1))) (hv : ∀ v ∈ vs, v.cells.size = sz) (h0 : 0 < sz) (hn : vs ≠ []) (hs : vs.length * sz ≤ 16777216)
    (h : ∀ b w', Own k w' (arr b 0 len T sz (vs.map fun v => v.cells.toList) :: l) → LW P ops Q n ds rest (E.put d (.slice (some ⟨b, 0, none⟩) len len)) w') : LW P ops Q n ds (⟨d, .buildSlice t len parts.toArray, ty, pos, aft, g⟩ :: rest) E w := by
  subst hlen
  have hr := run_slices (P := P) (t := t) w vs hv h0 hn hs
  refine l_val (o := ⟨d, .buildSlice t vs.length parts.toArray, ty, pos, aft, g⟩) hg hd (fun c hc => ?_) (h w.heap.size _ ?_) (w' := w.alloc (.cells (vs.map fun v => v.cells.toList).flatten.toArray T))
  · have e := partsOf_sound hc parts _ hp
    simp only [execOp, List.map_toArray]
    rw [show (parts.map fun x => match x with | (i, x) => (i, c.eval x)) = (vs.zipIdx 0).map fun x => (x.2, x.1) from e]
    simp [hr]
  · have hrow : ∀ r ∈ (vs.map fun v => v.cells.toList), r.length = sz := by
      intro r hr
      obtain ⟨v, hv1, rfl⟩ := List.mem_map.1 hr
      simpa using hv v hv1
    refine hO.alloc _ ⟨[], [], rfl, hrow, by simp, by simp, ?_, by simp [one]⟩
    have : vs.length ≤ vs.length * sz := Nat.le_mul_of_pos_right _ h0
    simp only [maxLen]; omega

theorem src_arr {b o cap m c sz : Nat} {T : TypeId} {rows : List (List Value)} (hO : Own k w (arr b o cap T sz rows :: l)) (hm : m = rows.length) (h1 : ∀ r ∈ rows, ∀ v ∈ r, v.oneCell' = true) : Src P w sz (.slice (some ⟨b, o, none⟩) m c) rows.length rows.flatten := by
  subst hm
  have hr : ∀ r ∈ rows, r.length = sz := hO.fact fun h hA => by obtain ⟨_, _, _, h2, _⟩ := hA; exact h2
  exact Src.slice (flatten_length hr) (hO.holds (.hd _ _ _) Has.whole) (fun v hv => by
    obtain ⟨r, hr1, hr2⟩ := List.mem_flatten.1 hv
    exact h1 r hr1 v hr2)
/-- append(x, c) of a byte c -/
theorem S1 {t u T : TypeId} {x y : Operand} {v : Value} {bs : List UInt8} {c : UInt8} {bytes : Nat} {z : Value} [hu : Und P t (.slice T)] [hu' : Und P u (.slice T)] [he : Elt P T 1 bytes z] {d' : Option Tmp} {ty' ty'' : TypeId} {pos' : String} {aft' : Array Edge} {g' : Option (Nat × Bool)}
    (hO : Own k w l) (hp : Pull l (sl v T 1 (by1 bs)) l') (hy : ev E y = some (.int .u8 c.toNat)) (hg : gd ops E g = some true) (hd : dok n d = true) (hg2 : ∀ b, gd ops (E.put d (.slice (some ⟨b, 0, none⟩) 1 1)) g' = some true) (hd2 : dok n d' = true)
    (hx : ∀ b, ev (E.put d (.slice (some ⟨b, 0, none⟩) 1 1)) x = some v) {dd : Tmp} (hdd : d = some dd) (hlen : bs.length + 1 ≤ 4611686018427387904) (hby : (bs.length + 1) * bytes ≤ 140737488355328)
    (h : ∀ b v' w', Own k w' (sl v' T 1 (by1 (bs ++ [c])) :: l') → Grew v v' 1 → LW P ops Q n ds rest ((E.put d (.slice (some ⟨b, 0, none⟩) 1 1)).put d' v') w') :
    LW P ops Q n ds (⟨d, .buildSlice t 1 #[(0, y)], ty', pos, aft, g⟩ :: ⟨d', .call ⟨.builtin .append, #[x, .tmp dd], #[t, u]⟩, ty'', pos', aft', g'⟩ :: rest) E w := by
  subst hdd
  refine s_slices (parts := [(0, y)]) [.int .u8 c.toNat] hO hg hd rfl (by simp [partsOf, hy]) (by intro v hv; simp at hv; subst hv; rfl) (by decide) (by simp) (by simp) fun b w' hO' => ?_
  refine s_append (vy := .slice (some ⟨b, 0, none⟩) 1 1) (by intro kk h; cases h) hO' (.tl _ hp) (hg2 b) hd2 (hx b) ?_ (src_arr hO' rfl ?_) ?_ ?_ ?_ ?_
  · simp [ev, look, Env.put]
  · intro r hr v hv; simp at hr; subst hr; simp [Value.cells] at hv; subst hv; rfl
  · intro r hr; simp at hr; subst hr; rfl
  · simpa [by1_length] using hlen
  · simpa [by1_length] using hby
  · intro v' w'' hO'' hgr
    refine h b v' w'' ?_ hgr
    rw [by1_append]
    exact (hO''.swap).drop
/-- append(x, s...) of a string -/
theorem S2 {t u T : TypeId} {x y : Operand} {v : Value} {bs : List UInt8} {s : ByteArray} {bytes : Nat} {z : Value} [hu : Und P t (.slice T)] [he : Elt P T 1 bytes z] [hu' : Und P u .string] (m : Nat)
    (hO : Own k w l) (hp : Pull l (sl v T 1 (by1 bs)) l') (hy : ev E y = some (.string s)) (hg : gd ops E g = some true) (hd : dok n d = true) (hx : ev E x = some v) (hm : s.size = m) (hlen : bs.length + m ≤ 4611686018427387904) (hby : (bs.length + m) * bytes ≤ 140737488355328)
    (h : ∀ v' w', Own k w' (sl v' T 1 (by1 (bs ++ s.data.toList)) :: l') → Grew v v' m → LW P ops Q n ds rest (E.put d v') w') :
    LW P ops Q n ds (⟨d, .call ⟨.builtin .append, #[x, y], #[t, u]⟩, ty, pos, aft, g⟩ :: rest) E w := by
  have e : (by1 s.data.toList).length = m := by rw [by1_length, ← hm]; exact Array.length_toList
  refine s_append (by intro kk h; cases h) hO hp hg hd hx hy (src_str s) (by1_one _) (by rw [e, by1_length]; exact hlen) (by rw [e, by1_length]; exact hby) fun v' w' hO' hgr => ?_
  rw [← by1_append] at hO'
  rw [e] at hgr
  exact h v' w' hO' hgr
theorem s_slices0 {t T : TypeId} {sz bytes : Nat} {z : Value} [hu : Und P t (.slice T)] [he : Elt P T sz bytes z] (hO : Own k w l) (hg : gd ops E g = some true) (hd : dok n d = true)
    (h : ∀ v w', Own k w' (sl v T sz [] :: l) → (∃ b, v = .slice (some ⟨b, 0, none⟩) 0 0) → LW P ops Q n ds rest (E.put d v) w') : LW P ops Q n ds (⟨d, .buildSlice t 0 #[], ty, pos, aft, g⟩ :: rest) E w := by
  obtain ⟨i, hi, hi2, hi3, hi4⟩ := he.info
  have hr : (Instr.buildSlice t 0 #[]).run P w = .ok (.slice (some ⟨w.heap.size, 0, none⟩) 0 0) (w.alloc (.cells #[] T)) := by
    simp [Instr.buildSlice, run_underlying hu.eq, sizeOf, typeInfo, hi, Instr.fill, newRow, Array.range_zero']
  refine l_val (o := ⟨d, .buildSlice t 0 #[], ty, pos, aft, g⟩) hg hd (fun c hc => ?_) (h _ _ ?_ ⟨w.heap.size, rfl⟩) (w' := w.alloc (.cells #[] T))
  · simp [execOp, hr]
  · refine hO.alloc _ (.inr ⟨w.heap.size, 0, 0, rfl, [], [], rfl, by simp, by simp, by simp, by simp, by simp [one]⟩)
/-- append(x, u) of one value -/
theorem S3 {t u T : TypeId} {x y : Operand} {v uv : Value} {rows : List (List Value)} {row : List Value} {sz bytes : Nat} {z : Value} [hu : Und P t (.slice T)] [hu' : Und P u (.slice T)] [he : Elt P T sz bytes z] {d' : Option Tmp} {ty' ty'' : TypeId} {pos' : String} {aft' : Array Edge} {g' : Option (Nat × Bool)}
    (hO : Own k w l) (hp : Pull l (sl v T sz rows) l') (hy : ev E y = some uv) (hrow : uv.cells.toList = row) (hsz : row.length = sz) (h1 : row.all (·.oneCell') = true) (h0 : 0 < sz) (hs : sz ≤ 4096) (hg : gd ops E g = some true) (hd : dok n d = true) (hg2 : ∀ b, gd ops (E.put d (.slice (some ⟨b, 0, none⟩) 1 1)) g' = some true) (hd2 : dok n d' = true)
    (hx : ∀ b, ev (E.put d (.slice (some ⟨b, 0, none⟩) 1 1)) x = some v) {dd : Tmp} (hdd : d = some dd) (hlen : rows.length + 1 ≤ 4611686018427387904) (hby : (rows.length + 1) * bytes ≤ 140737488355328)
    (h : ∀ b v' w', Own k w' (sl v' T sz (rows ++ [row]) :: l') → Grew v v' 1 → LW P ops Q n ds rest ((E.put d (.slice (some ⟨b, 0, none⟩) 1 1)).put d' v') w') :
    LW P ops Q n ds (⟨d, .buildSlice t 1 #[(0, y)], ty', pos, aft, g⟩ :: ⟨d', .call ⟨.builtin .append, #[x, .tmp dd], #[t, u]⟩, ty'', pos', aft', g'⟩ :: rest) E w := by
  subst hdd
  subst hrow
  refine s_slices (parts := [(0, y)]) [uv] hO hg hd rfl (by simp [partsOf, hy]) (by intro v hv; simp at hv; subst hv; simpa using hsz) h0 (by simp) (by simp; omega) fun b w' hO' => ?_
  refine s_append (vy := .slice (some ⟨b, 0, none⟩) 1 1) (by intro kk h; cases h) hO' (.tl _ hp) (hg2 b) hd2 (hx b) ?_ (src_arr hO' rfl ?_) ?_ ?_ ?_ ?_
  · simp [ev, look, Env.put]
  · intro r hr v hv; simp only [List.map_cons, List.map_nil, List.mem_singleton] at hr; subst hr; exact List.all_eq_true.1 h1 v hv
  · intro r hr; simp only [List.map_cons, List.map_nil, List.mem_singleton] at hr; subst hr; exact hsz
  · simpa using hlen
  · simpa using hby
  · intro v' w'' hO'' hgr
    exact h b v' w'' (hO''.swap).drop hgr
/-! ### 19b. Remainders, the lesser of two -/
theorem y_rem {t u : TypeId} {x y : Operand} {kd : IntKind} {a b : Int} (hx : ev E x = some (.int kd a)) (hy : ev E y = some (.int kd b)) (hb : b ≠ 0) : Yld P n ds E w ⟨d, .binOp .rem t x y u, ty, pos, aft, g⟩ (.int kd (a.tmod b)) :=
  ⟨fun c hc => by simp [execOp, hc.eval hx, hc.eval hy, eqGuard, binOp, Op.intDiv, hb]⟩
theorem y_remN {t u : TypeId} {x y : Operand} {kd : IntKind} {a b : Int} (hx : ev E x = some (.int kd a)) (hy : ev E y = some (.int kd b)) (ha : 0 ≤ a) (hb : b ≠ 0) : Yld P n ds E w ⟨d, .binOp .rem t x y u, ty, pos, aft, g⟩ (.int kd (a % b)) := by
  rw [← Int.tmod_eq_emod_of_nonneg ha]
  exact y_rem hx hy hb
theorem y_quoN {t u : TypeId} {x y : Operand} {kd : IntKind} {a b : Int} (hx : ev E x = some (.int kd a)) (hy : ev E y = some (.int kd b)) (ha : 0 ≤ a) (hb : b ≠ 0) (hw : kd.wrap (a / b) = a / b) : Yld P n ds E w ⟨d, .binOp .quo t x y u, ty, pos, aft, g⟩ (.int kd (a / b)) :=
  ⟨fun c hc => by simp [execOp, hc.eval hx, hc.eval hy, eqGuard, binOp, Op.intDiv, hb, Int.tdiv_eq_ediv_of_nonneg ha, hw]⟩
theorem y_min {t u : TypeId} {x y : Operand} {kd : IntKind} {a b : Int} (hx : ev E x = some (.int kd a)) (hy : ev E y = some (.int kd b)) : Yld P n ds E w ⟨d, .call ⟨.builtin .min, #[x, y], #[t, u]⟩, ty, pos, aft, g⟩ (.int kd (min a b)) :=
  y_built (xs := [x, y]) (vs := [.int kd a, .int kd b]) (by simp [evl, hx, hy]) (fun cs => by
    simp [builtin, Builtin.min_, Builtin.min2]
    omega)
/-! ### 20. Bytes as a string -/
theorem y_bytesStr {s t T : TypeId} {bs : List UInt8} {l' : List HP} [hs : Und P s (.slice T)] [hb : Und P T (.int .u8)] [ht : Und P t .string] {x : Operand} {v : Value} (hO : Own k w l) (hp : Pull l (sl v T 1 (by1 bs)) l') (hx : ev E x = some v) :
    Yld P n ds E w ⟨d, .convert s t x, ty, pos, aft, g⟩ (.string ⟨bs.toArray⟩) := by
  refine y_convert hx ?_
  rcases sl_open (hO.pull hp) with ⟨rfl, h0, _⟩ | ⟨b, o, cap, rfl, hO'⟩
  · have : bs = [] := by cases bs with
      | nil => rfl
      | cons a l => simp [by1] at h0
    subst this
    rw [run_convert_bytes_string w s t T none 0 0 hs.eq hb.eq ht.eq]
    simp [Conv.bytesToString]; rfl
  · have hh := hO'.holds (.hd _ _ _) Has.whole
    rw [by1_length]
    exact run_convert_bytes_back w s t T _ cap bs hs.eq hb.eq ht.eq (fun j hj => by1_holds hh j _ (List.getElem?_eq_getElem hj))
end
end Go.Hb

/- From a contract to the row of a law. -/
set_option linter.unusedVariables false
set_option linter.unusedSimpArgs false
namespace Go.Hb
open Go Go.RowKit Go.ChangeShapes Go.WideShapes Go.ChangeAt

/-! ### 18. Laws -/
theorem trodAll_below {H : Type} {enc : TypeId × Value → H} {P : Program} (hl : laidOutB P = true) {W W' : World} (hb : Below W.heap.size W W') : ∀ (ts : List TypeId) (vs : List Value) (ds : List (DataW H)) (ps : List MemPlace),
    (∀ t ∈ ts, P.readableRec t = true ∧ t < P.types.size) → DataW.TrodAll enc P W 0 (fun _ => true) true ts vs ds ps → (∀ x ∈ ps, x.block < W.heap.size) →
    DataW.TrodAll enc P W' 0 (fun b => decide (b < W.heap.size)) true ts vs ds ps
  | [], [], [], ps, _, h, _ => h
  | t :: ts, v :: vs, d :: ds, ps, hr, h, hlt => by
    obtain ⟨p, q, h1, h2, rfl⟩ := h
    exact ⟨p, q, Below.trod hl (hr t (by simp)).1 (hr t (by simp)).2 h1 hb (fun x hx => hlt x (by simp [hx])), trodAll_below hl hb ts vs ds q (fun t ht => hr t (by simp [ht])) h2 (fun x hx => hlt x (by simp [hx])), rfl⟩
  | [], [], _ :: _, _, _, h, _ => h.elim
  | [], _ :: _, _, _, _, h, _ => h.elim
  | _ :: _, [], _, _, _, h, _ => h.elim
  | _ :: _, _ :: _, [], _, _, h, _ => h.elim
def rowsOk (P : Program) (f : Func) : Bool := f.params.toList.all fun t => P.readableRec t && Nat.blt t P.types.size
/-- the end of a law's proof: true, and nothing that was there has turned -/
theorem post_law {H : Type} {enc : TypeId × Value → H} {P : Program} {f : Func} {s : ChangeSpec} {W W' : World} {args : Array Value} {ds : List (DataW H)} {before : List MemPlace} {tb : TypeId}
    (hl : laidOutB P = true) (hrs : rowsOk P f = true) (hv : s.vars = []) (hW : DataW.Whole enc P f.params.toList s.vars false W args.toList ds [] before) (hb : Below W.heap.size W W')
    (hres : f.resultTypes = #[tb]) (hub : P.underlying tb = some .bool) (hfn : s.fn H (ds ++ []) = { results := [.lit (.bool true)], args := ds }) : s.post enc P f false true false false W args (.bool true) W' := by
  have hW' := hW
  obtain ⟨p, q, hA, hV, hpq, hfz, hnd⟩ := hW
  have hlt := hW'.lt
  refine ⟨ds, [], before, [], p, [], hW', ?_, ?_, ?_, hb.frame _, fun h => by cases h⟩
  · rw [hfn, hres]
    exact trodAll_mk1 (shut_bool hub true)
  · rw [hfn]
    have hrs' : ∀ t ∈ f.params.toList, P.readableRec t = true ∧ t < P.types.size := fun t ht => by
      have := List.all_eq_true.1 hrs t ht
      simpa [Nat.blt_eq] using this
    exact trodAll_below hl hb _ _ _ _ hrs' hA (fun x hx => hlt x (by rw [hpq]; simp [hx]))
  · rw [hfn, hv]
    rfl
/-- a law's walk, as the row wants it -/
theorem law_calls {P : Program} {f : FuncId} {args : Array Value} {W : World} (h : Tri P f args (all W) W fun r m => r = .bool true) :
    Calls P f args W fun e W' => e = .returned (.bool true) ∧ Below W.heap.size W W' :=
  Calls.mono h fun e W' ⟨v, he, m, hr, hO⟩ => ⟨by rw [he, hr], hO.below⟩
theorem wf_int {k : IntKind} {n : Int} (h : (Lit.int k n).wf = true) : k.min ≤ n ∧ n ≤ k.max := by simpa [Lit.wf] using h
theorem lit_u8 {n : Int} (h : (Lit.int .u8 n).wf = true) : 0 ≤ n ∧ n ≤ 255 := wf_int h
theorem lit_u16 {n : Int} (h : (Lit.int .u16 n).wf = true) : 0 ≤ n ∧ n ≤ 65535 := wf_int h
theorem lit_i8 {n : Int} (h : (Lit.int .i8 n).wf = true) : -128 ≤ n ∧ n ≤ 127 := wf_int h
theorem lit_i32 {n : Int} (h : (Lit.int .i32 n).wf = true) : -2147483648 ≤ n ∧ n ≤ 2147483647 := wf_int h
theorem lit_i64 {n : Int} (h : (Lit.int .i64 n).wf = true) : -9223372036854775808 ≤ n ∧ n ≤ 9223372036854775807 := wf_int h
end Go.Hb

/- Slices as a law's arguments. -/
set_option linter.unusedVariables false
set_option linter.unusedSimpArgs false
namespace Go.Hb
open Go Go.RowKit Go.ChangeShapes Go.WideShapes Go.ChangeAt
/-- a slice that is read: rows of sz cells; Q tells of each row and what stands for it -/
structure ArgSl {H : Type} (k : Ctx) (sz : Nat) (Q : List Value → DataW H → Prop) (v : Value) (d : DataW H) (rows : List (List Value)) (ds : List (DataW H)) : Prop where
  shape : ∃ p cap, v = .slice p rows.length cap ∧ (rows ≠ [] → ∃ b o, p = some ⟨b, o, none⟩ ∧ Ro k ⟨b, o, none⟩ rows.flatten)
  len : ds.length = rows.length
  data : (d = .nil ∧ ds = []) ∨ ∃ rest, d = .slice ds rest
  row : ∀ r ∈ rows, r.length = sz
  each : ∀ (i : Nat) r x, rows[i]? = some r → ds[i]? = some x → Q r x
  room : ∀ p n cap, v = .slice p n cap → n ≤ cap
  max : rows.length ≤ 9223372036854775807
theorem mem_row {rows : List (List Value)} {sz : Nat} (h : ∀ r ∈ rows, r.length = sz) (j : Nat) (v : Value) (hj : rows.flatten[j]? = some v) : ∃ i x r, j = i * sz + x ∧ rows[i]? = some r ∧ r[x]? = some v := by
  induction rows generalizing j with
  | nil => simp at hj
  | cons r rows ih =>
    have hr : r.length = sz := h r (by simp)
    rw [List.flatten_cons] at hj
    by_cases hlt : j < sz
    · rw [List.getElem?_append_left (by omega)] at hj
      exact ⟨0, j, r, by omega, rfl, hj⟩
    · rw [List.getElem?_append_right (by omega), hr] at hj
      obtain ⟨i, x, r', h1, h2, h3⟩ := ih (fun r hm => h r (by simp [hm])) _ hj
      exact ⟨i + 1, x, r', by rw [Nat.add_mul]; omega, h2, h3⟩
theorem open_sl {H : Type} {enc : TypeId × Value → H} {P : Program} {W : World} {t e : TypeId} {sz bytes : Nat} {z : Value} [hu : Und P t (.slice e)] [he : Elt P e sz bytes z] {Q : List Value → DataW H → Prop} {fuel : Nat} {v : Value} {x : DataW H × List MemPlace} (hsz : 0 < sz)
    (hQ : ∀ fuel cs x, DataW.trod enc P W 0 (fun _ => true) true fuel e cs = some x → Q cs x.1) (h : DataW.trod enc P W 0 (fun _ => true) true fuel t [v] = some x) :
    ∃ rows ds, ArgSl (all W) sz Q v x.1 rows ds := by
  obtain ⟨i, hi, hi2, hi3, hi4⟩ := he.info
  have hc : P.cellsOf e = sz := by simp [Program.cellsOf, hi, hi2]
  rcases DataW.trod_slice hu.eq h with ⟨h0, rfl⟩ | ⟨a, len, cap, elems, rest, n, _, h0, rfl, hb, hl, hm, hlen, hel, hsp, hns⟩
  · obtain rfl : v = .slice none 0 0 := by simpa using h0
    exact ⟨[], [], ⟨⟨none, 0, rfl, fun h => absurd rfl h⟩, rfl, .inl ⟨rfl, rfl⟩, by simp, by simp, fun p n c h => (by cases h; exact Nat.le_refl _), by simp⟩⟩
  · obtain rfl : v = .slice (some a) len cap := by simpa using h0
    have key : ∀ j, j < len → ∃ cs y, W.cells? 0 (a.add (j * sz)) sz = some cs ∧ DataW.trod enc P W 0 (fun _ => true) true n e cs = some y ∧ elems[j]? = some y := by
      intro j hj
      have h1 := hel j hj
      rw [hc, List.getElem?_eq_getElem (by omega)] at h1
      obtain ⟨cs, h2, h3⟩ := Option.bind_eq_some_iff.1 h1
      exact ⟨cs, _, h2, h3, List.getElem?_eq_getElem (by omega)⟩
    let row : Nat → List Value := fun j => (W.cells? 0 (a.add (j * sz)) sz).getD []
    have hrow : ∀ j, j < len → ∃ y, W.cells? 0 (a.add (j * sz)) sz = some (row j) ∧ DataW.trod enc P W 0 (fun _ => true) true n e (row j) = some y ∧ elems[j]? = some y := by
      intro j hj
      obtain ⟨cs, y, h1, h2, h3⟩ := key j hj
      have : row j = cs := by simp [row, h1]
      exact ⟨y, by rw [this]; exact h1, by rw [this]; exact h2, h3⟩
    have hat : ∀ j r, ((List.range len).map row)[j]? = some r → j < len ∧ r = row j := by
      intro j r hj
      rw [List.getElem?_map, Option.map_eq_some_iff] at hj
      obtain ⟨q, h1, h2⟩ := hj
      have h3 := List.getElem?_eq_some_iff.1 h1
      obtain ⟨h4, h5⟩ := h3
      simp at h4 h5
      subst h5
      exact ⟨h4, h2.symm⟩
    have hl1 : ∀ r ∈ (List.range len).map row, r.length = sz := by
      intro r hr
      obtain ⟨j, hj⟩ := List.getElem?_of_mem hr
      obtain ⟨h1, rfl⟩ := hat j r hj
      obtain ⟨y, h2, _⟩ := hrow j h1
      exact (World.cells?_some h2).2.1
    refine ⟨(List.range len).map row, elems.map (·.1), ⟨some a, cap, by simp, fun hne => ?_⟩, by simp [hlen], .inr ⟨_, rfl⟩, hl1, ?_, fun p n c h => (by cases h; exact hl), by simp; have : cap ≤ 9223372036854775807 := hm; omega⟩
    · have h0 : 0 < len := by
        rcases Nat.eq_zero_or_pos len with h | h
        · subst h; simp at hne
        · exact h
      have hcell : ∀ j x, j < len → x < sz → W.cell? ((a.add (j * sz)).add x) = (row j)[x]? := fun j x hj hx => by
        obtain ⟨y, h2, _⟩ := hrow j hj
        exact (World.cells?_some h2).2.2 x hx
      have hspot : a.spot = none := by
        obtain ⟨y, h2, _⟩ := hrow 0 h0
        have h3 := hcell 0 0 h0 hsz
        have h4 := (World.cells?_some h2).2.1
        rw [List.getElem?_eq_getElem (by omega)] at h3
        cases hs : a.spot with
        | none => rfl
        | some q =>
          exfalso
          have h5 : ((a.add (0 * sz)).add 0).spot ≠ none := by
            unfold Addr.add
            simp [hs]
          unfold World.cell? at h3
          cases h6 : ((a.add (0 * sz)).add 0).spot with
          | none => exact h5 h6
          | some q' =>
            have h7 : ((a.add (0 * sz)).add 0).spot.isSome = true := by rw [h6]; rfl
            simp only [h7, if_true] at h3
            split at h3 <;> simp at h3
      obtain ⟨b, o, sp⟩ := a
      simp only at hspot
      subst hspot
      refine ⟨b, o, rfl, Ro.start W fun j v hv => ?_⟩
      obtain ⟨i', x', r, h1, h2, h3⟩ := mem_row hl1 j v hv
      obtain ⟨h4, rfl⟩ := hat i' r h2
      have hx : x' < sz := by
        have := (List.getElem?_eq_some_iff.1 h3).1
        rw [hl1 _ (List.mem_of_getElem? h2)] at this
        exact this
      have := hcell i' x' h4 hx
      rw [h3] at this
      rw [← this, h1, Addr.add_lit, Addr.add_lit, Addr.add_lit, Nat.add_assoc]
    · intro j r x hr hx
      obtain ⟨h1, rfl⟩ := hat j r hr
      obtain ⟨y, h2, h3, h4⟩ := hrow j h1
      rw [List.getElem?_map, h4] at hx
      simp at hx
      subst hx
      exact hQ _ _ _ h3
theorem open_slT {H : Type} {enc : TypeId × Value → H} {P : Program} {W : World} {t e : TypeId} {sz bytes : Nat} {z : Value} [hu : Und P t (.slice e)] [he : Elt P e sz bytes z] {Q : List Value → DataW H → Prop} {v : Value} {d : DataW H} {ps : List MemPlace} {r : Reach} {b0 : Nat}
    (hsz : 0 < sz) (hv : Value.okWide P W r b0 t v) (hQ : ∀ fuel cs x, DataW.trod enc P W 0 (fun _ => true) true fuel e cs = some x → Q cs x.1) (h : DataW.Trod enc P W 0 (fun _ => true) true t v d ps) :
    ∃ rows ds, ArgSl (all W) sz Q v d rows ds := by
  obtain ⟨fuel, h⟩ := h
  obtain ⟨a, l, c, rfl⟩ := okWide_slice hu.eq hv
  exact open_sl hsz hQ h
theorem ArgSl.all {H : Type} {k : Ctx} {sz : Nat} {Q : List Value → DataW H → Prop} {v : Value} {d : DataW H} {rows : List (List Value)} {ds : List (DataW H)} (A : ArgSl k sz Q v d rows ds) (r : List Value) (hr : r ∈ rows) : ∃ x ∈ ds, Q r x := by
  obtain ⟨i, hi⟩ := List.getElem?_of_mem hr
  have hlt := (List.getElem?_eq_some_iff.1 hi).1
  have hd : ds[i]? = some (ds[i]'(by rw [A.len]; exact hlt)) := List.getElem?_eq_getElem _
  exact ⟨_, List.mem_of_getElem? hd, A.each i r _ hi hd⟩
/-- an int that is read -/
def QInt {H : Type} (k : IntKind) (cs : List Value) (d : DataW H) : Prop := ∃ n, cs = [.int k n] ∧ d = .lit (.int k n) ∧ (Lit.int k n).wf = true
theorem q_int {H : Type} {enc : TypeId × Value → H} {P : Program} {W : World} {e : TypeId} {k : IntKind} [hu : Und P e (.int k)] (fuel : Nat) (cs : List Value) (x : DataW H × List MemPlace) (h : DataW.trod enc P W 0 (fun _ => true) true fuel e cs = some x) : QInt k cs x.1 := by
  obtain ⟨n, h1, rfl, h3⟩ := DataW.trod_int hu.eq h
  exact ⟨n, h1, rfl, h3⟩
/-- the shape of an argument's slice -/
def Shape (k : Ctx) (p : Option Addr) (rows : List (List Value)) : Prop := rows ≠ [] → ∃ b o, p = some ⟨b, o, none⟩ ∧ Ro k ⟨b, o, none⟩ rows.flatten
theorem src_arg {P : Program} {k : Ctx} {w : World} {l : List HP} {sz cap : Nat} {p : Option Addr} {rows : List (List Value)} (hS : Shape k p rows) (hO : Own k w l) (hr : ∀ r ∈ rows, r.length = sz) (h1 : ∀ r ∈ rows, ∀ v ∈ r, v.oneCell' = true) : Src P w sz (.slice p rows.length cap) rows.length rows.flatten := by
  cases rows with
  | nil =>
    cases p with
    | none => exact ⟨fun d => rfl, fun d => by simp [Builtin.firstCells], by simp, by simp⟩
    | some a => exact Src.slice (by simp) (fun j v h => by simp at h) (by simp)
  | cons r rows =>
    obtain ⟨b, o, rfl, hR⟩ := hS (by simp)
    exact Src.slice (flatten_length hr) (hR.holds hO) (fun v hv => by
      obtain ⟨r, hr1, hr2⟩ := List.mem_flatten.1 hv
      exact h1 r hr1 v hr2)
theorem y_bytesArg {P : Program} {n : Nat} {ds : List Deferred} {E : Env} {w : World} {d : Option Tmp} {ty : TypeId} {pos : String} {aft : Array Edge} {g : Option (Nat × Bool)} {k : Ctx} {l : List HP} {s t T : TypeId} {cap : Nat} {p : Option Addr} {bs : List UInt8} [hs : Und P s (.slice T)] [hb : Und P T (.int .u8)] [ht : Und P t .string] {x : Operand} (hS : Shape k p (by1 bs)) (hO : Own k w l) (hx : ev E x = some (.slice p (by1 bs).length cap)) :
    Yld P n ds E w ⟨d, .convert s t x, ty, pos, aft, g⟩ (.string ⟨bs.toArray⟩) := by
  refine y_convert hx ?_
  rw [by1_length]
  cases bs with
  | nil =>
    cases p with
    | none =>
      rw [List.length_nil, run_convert_bytes_string w s t T none 0 cap hs.eq hb.eq ht.eq]
      simp [Conv.bytesToString]; rfl
    | some a => exact run_convert_bytes_back (P := P) w s t T a cap [] hs.eq hb.eq ht.eq (fun j hj => by simp at hj)
  | cons c bs =>
    obtain ⟨b, o, rfl, hR⟩ := hS (by simp [by1])
    have hh := hR.holds hO
    exact run_convert_bytes_back w s t T _ cap (c :: bs) hs.eq hb.eq ht.eq (fun j hj => by1_holds hh j _ (List.getElem?_eq_getElem hj))
theorem by1_cells (bs : List UInt8) : ∀ r ∈ by1 bs, ∀ v ∈ r, v.oneCell' = true := by
  intro r hr v hv
  obtain ⟨x, _, rfl⟩ := List.mem_map.1 hr
  simp at hv
  subst hv; rfl
theorem rows_by1 {rows : List (List Value)} (h : ∀ r ∈ rows, ∃ n : Int, r = [.int .u8 n] ∧ 0 ≤ n ∧ n ≤ 255) : ∃ bs : List UInt8, rows = by1 bs := by
  induction rows with
  | nil => exact ⟨[], rfl⟩
  | cons r rows ih =>
    obtain ⟨bs, rfl⟩ := ih fun r hr => h r (by simp [hr])
    obtain ⟨n, rfl, h1, h2⟩ := h r (by simp)
    refine ⟨UInt8.ofNat n.toNat :: bs, ?_⟩
    have : ((UInt8.ofNat n.toNat).toNat : Int) = n := by
      rw [UInt8.toNat_ofNat_of_lt' (by show n.toNat < 256; omega)]
      omega
    simp only [by1, List.map_cons, this]
end Go.Hb

/- More of slices: rows of ints, parts of slices, made slices, copies. -/
set_option linter.unusedVariables false
set_option linter.unusedSimpArgs false
namespace Go.Hb
open Go Go.RowKit
/-! ### 22. Rows of ints -/
def iv (kd : IntKind) (l : List Int) : List (List Value) := l.map fun x => [.int kd x]
theorem iv_length (kd : IntKind) (l : List Int) : (iv kd l).length = l.length := by simp [iv]
theorem iv_append (kd : IntKind) (l m : List Int) : iv kd (l ++ m) = iv kd l ++ iv kd m := by simp [iv]
theorem iv_one (kd : IntKind) (l : List Int) : ∀ r ∈ iv kd l, r.length = 1 := by intro r hr; simp [iv] at hr; obtain ⟨x, _, rfl⟩ := hr; rfl
theorem iv_cells (kd : IntKind) (l : List Int) : ∀ r ∈ iv kd l, ∀ v ∈ r, v.oneCell' = true := by
  intro r hr v hv; simp [iv] at hr; obtain ⟨x, _, rfl⟩ := hr; simp at hv; subst hv; rfl
theorem iv_flatten (kd : IntKind) (l : List Int) : (iv kd l).flatten = l.map (.int kd) := by
  induction l with
  | nil => rfl
  | cons x l ih => simp [iv] at ih ⊢; exact ih
theorem iv_get {kd : IntKind} {l : List Int} {i : Nat} {x : Int} (h : l[i]? = some x) : (iv kd l)[i]? = some [.int kd x] := by simp [iv, h]
theorem iv_set (kd : IntKind) (l : List Int) (i : Nat) (x : Int) : (iv kd l).set i [.int kd x] = iv kd (l.set i x) := by simp [iv, List.map_set]
theorem iv_take (kd : IntKind) (l : List Int) (i : Nat) : (iv kd l).take i = iv kd (l.take i) := by simp [iv, List.map_take]
theorem iv_drop (kd : IntKind) (l : List Int) (i : Nat) : (iv kd l).drop i = iv kd (l.drop i) := by simp [iv, List.map_drop]
theorem iv_rep (kd : IntKind) (n : Nat) (x : Int) : List.replicate n [Value.int kd x] = iv kd (List.replicate n x) := by simp [iv]
theorem rows_iv {kd : IntKind} {Q : Int → Prop} {rows : List (List Value)} (h : ∀ r ∈ rows, ∃ n : Int, r = [.int kd n] ∧ Q n) : ∃ l : List Int, rows = iv kd l ∧ ∀ x ∈ l, Q x := by
  induction rows with
  | nil => exact ⟨[], rfl, by simp⟩
  | cons r rows ih =>
    obtain ⟨l, rfl, hl⟩ := ih fun r hr => h r (by simp [hr])
    obtain ⟨n, rfl, hn⟩ := h r (by simp)
    exact ⟨n :: l, rfl, fun x hx => (List.mem_cons.1 hx).elim (fun e => e ▸ hn) (hl x)⟩

/-! ### 23. A slice's value, and what it shows -/
/-- v shows these rows; H tells what lies where -/
def Sli (H : Addr → List Value → Prop) (v : Value) (rows : List (List Value)) : Prop :=
  ∃ p cap, v = .slice p rows.length cap ∧ rows.length ≤ cap ∧ (rows ≠ [] → ∃ b o, p = some ⟨b, o, none⟩ ∧ H ⟨b, o, none⟩ rows.flatten)
theorem Sli.nil {H : Addr → List Value → Prop} {v : Value} {p : Option Addr} {c : Nat} (h : v = .slice p 0 c) : Sli H v [] := ⟨p, c, h, Nat.zero_le _, fun h => absurd rfl h⟩
theorem Sli.fits {H : Addr → List Value → Prop} {p : Option Addr} {n cap : Nat} {rows : List (List Value)} (h : Sli H (.slice p n cap) rows) : n = rows.length ∧ n ≤ cap := by
  obtain ⟨_, _, h1, h2, _⟩ := h
  simp only [Value.slice.injEq] at h1
  obtain ⟨_, h3, h4⟩ := h1
  omega
theorem Sli.mono {H H' : Addr → List Value → Prop} {v : Value} {rows : List (List Value)} (h : Sli H v rows) (hh : ∀ b o cs, H ⟨b, o, none⟩ cs → H' ⟨b, o, none⟩ cs) : Sli H' v rows := by
  obtain ⟨p, cap, h1, h2, h3⟩ := h
  exact ⟨p, cap, h1, h2, fun hne => by obtain ⟨b, o, h4, h5⟩ := h3 hne; exact ⟨b, o, h4, hh _ _ _ h5⟩⟩
theorem Sli.ext {k k' : Ctx} {w : World} {l : List HP} {v : Value} {rows : List (List Value)} (h : Sli (Ro k) v rows) (hO : Own k w l) (he : Ext k k' w) : Sli (Ro k') v rows := h.mono fun b o cs hh => hh.ext hO he
theorem Sli.holds {k : Ctx} {w : World} {l : List HP} {v : Value} {rows : List (List Value)} (h : Sli (Ro k) v rows) (hO : Own k w l) : Sli (Holds w) v rows := h.mono fun b o cs hh => hh.holds hO
theorem Sli.src {P : Program} {w : World} {v : Value} {rows : List (List Value)} {sz : Nat} (h : Sli (Holds w) v rows) (hr : ∀ r ∈ rows, r.length = sz) (h1 : ∀ r ∈ rows, ∀ v ∈ r, v.oneCell' = true) : Src P w sz v rows.length rows.flatten := by
  obtain ⟨p, cap, rfl, h2, h3⟩ := h
  cases rows with
  | nil =>
    cases p with
    | none => exact ⟨fun d => rfl, fun d => by simp [Builtin.firstCells], by simp, by simp⟩
    | some a => exact Src.slice (by simp) (fun j v h => by simp at h) (by simp)
  | cons r rows =>
    obtain ⟨b, o, rfl, hR⟩ := h3 (by simp)
    exact Src.slice (flatten_length hr) hR (fun v hv => by
      obtain ⟨r, hr1, hr2⟩ := List.mem_flatten.1 hv
      exact h1 r hr1 v hr2)
theorem sl_sli {k : Ctx} {w : World} {l l' : List HP} {v : Value} {T : TypeId} {sz : Nat} {rows : List (List Value)} (hO : Own k w l) (hp : Pull l (sl v T sz rows) l') : Sli (Holds w) v rows := by
  have hO1 := hO.pull hp
  rcases sl_open hO1 with ⟨rfl, rfl, _⟩ | ⟨b, o, cap, rfl, hO2⟩
  · exact Sli.nil rfl
  · have hc : rows.length ≤ cap := hO2.fact fun h ⟨_, _, _, _, _, h4, _, _⟩ => h4
    exact ⟨_, cap, rfl, hc, fun _ => ⟨b, o, rfl, hO2.holds (.hd _ _ _) Has.whole⟩⟩
/-- a slice that a caller keeps, to its callee -/
theorem sl_ro {k' : Ctx} {v : Value} {T : TypeId} {sz : Nat} {rows : List (List Value)} {rl : List HP} (hr : ∀ A ∈ rl, ∀ a cs, Has A a cs → Ro k' a cs) (hm : sl v T sz rows ∈ rl) {k : Ctx} {w : World} {l l' : List HP} (hO : Own k w l) (hp : Pull l (sl v T sz rows) l') : Sli (Ro k') v rows := by
  obtain ⟨p, cap, rfl, h2, h3⟩ := sl_sli hO hp
  refine ⟨p, cap, rfl, h2, fun hne => ?_⟩
  obtain ⟨b, o, rfl, _⟩ := h3 hne
  refine ⟨b, o, rfl, hr _ hm _ _ ⟨rfl, fun h hA => ?_⟩⟩
  rcases hA with ⟨_, rfl⟩ | ⟨b', o', cap', he, hA⟩
  · exact absurd rfl hne
  · cases he
    exact Has.whole.2 h hA
theorem ArgSl.sli {H : Type} {k : Ctx} {sz : Nat} {Q : List Value → DataW H → Prop} {v : Value} {d : DataW H} {rows : List (List Value)} {ds : List (DataW H)} (A : ArgSl k sz Q v d rows ds) : Sli (Ro k) v rows := by
  obtain ⟨p, cap, rfl, h⟩ := A.shape
  exact ⟨p, cap, rfl, A.room _ _ _ rfl, h⟩
theorem ivs {k : Ctx} {w : World} {m : List HP} {v : Value} {T : TypeId} {kd : IntKind} {l : List Int} {x : Int} (h : Own k w (sl v T 1 (iv kd l ++ [(Value.int kd x).cells.toList]) :: m)) : Own k w (sl v T 1 (iv kd (l ++ [x])) :: m) := by rw [iv_append]; exact h
theorem flat_sub {sz : Nat} {rows : List (List Value)} (h : ∀ r ∈ rows, r.length = sz) (i m j : Nat) (v : Value) (hj : ((rows.drop i).take m).flatten[j]? = some v) : rows.flatten[i * sz + j]? = some v := by
  obtain ⟨q, x, r, rfl, h2, h3⟩ := mem_row (fun r hr => h r (List.mem_of_mem_drop (List.mem_of_mem_take hr))) j v hj
  have hx : x < sz := by
    have := (List.getElem?_eq_some_iff.1 h3).1
    rw [h r (List.mem_of_mem_drop (List.mem_of_mem_take (List.mem_of_getElem? h2)))] at this
    exact this
  rw [List.getElem?_take] at h2
  split at h2
  · rw [List.getElem?_drop] at h2
    rw [← Nat.add_assoc, ← Nat.add_mul, flatten_get h (i + q) x r h2 hx]
    exact h3
  · cases h2
/-- what H must allow -/
def Cuts (H : Addr → List Value → Prop) : Prop := ∀ b o cs cs' i, H ⟨b, o, none⟩ cs → (∀ j v, cs'[j]? = some v → cs[i + j]? = some v) → H ⟨b, o + i, none⟩ cs'
theorem cuts_holds (w : World) : Cuts (Holds w) := fun b o cs cs' i h hs j v hj => by
  have := h _ _ (hs j v hj)
  rw [Addr.add_lit] at this ⊢
  rw [Nat.add_assoc]; exact this
theorem cuts_ro (k : Ctx) : Cuts (Ro k) := fun b o cs cs' i h hs => h.sub i hs rfl
theorem Sli.cut {H : Addr → List Value → Prop} (hH : Cuts H) {p : Option Addr} {n cap sz : Nat} {rows : List (List Value)} (hr : ∀ r ∈ rows, r.length = sz) (h : Sli H (.slice p n cap) rows) (i j m : Nat) (hij : i ≤ j) (hj : j ≤ n) (hm : j ≤ m) :
    Sli H (.slice (if m = i then p else p.map (·.add (i * sz))) (j - i) (m - i)) ((rows.drop i).take (j - i)) := by
  obtain ⟨p', cap', he, h2, h3⟩ := h
  cases he
  have hl : ((rows.drop i).take (j - i)).length = j - i := by simp; omega
  refine ⟨_, m - i, by rw [hl], by omega, fun hne => ?_⟩
  have hne' : rows ≠ [] := by rintro rfl; simp at hne
  have hji : j ≠ i := by rintro rfl; simp at hne
  obtain ⟨b, o, rfl, h4⟩ := h3 hne'
  rw [if_neg (by omega)]
  refine ⟨b, o + i * sz, by simp [Addr.add_lit], hH _ _ _ _ _ h4 fun q v hq => flat_sub hr i (j - i) q v hq⟩
theorem Sli.get {H : Addr → List Value → Prop} (hH : Cuts H) {p : Option Addr} {n cap sz : Nat} {rows : List (List Value)} (hr : ∀ r ∈ rows, r.length = sz) (h : Sli H (.slice p n cap) rows) {i : Nat} {r : List Value} (hi : rows[i]? = some r) :
    ∃ b o, p = some ⟨b, o, none⟩ ∧ H ⟨b, o + (i * sz + 0), none⟩ r := by
  obtain ⟨p', cap', he, h2, h3⟩ := h
  cases he
  obtain ⟨b, o, rfl, h4⟩ := h3 (by rintro rfl; simp at hi)
  refine ⟨b, o, rfl, hH _ _ _ _ _ h4 fun j v hj => ?_⟩
  have hrl := hr r (List.mem_of_getElem? hi)
  have hlt : j < sz := by rw [← hrl]; exact (List.getElem?_eq_some_iff.1 hj).1
  rw [Nat.add_zero, flatten_get hr i j r hi hlt]
  exact hj
variable {P : Program} {ops : Array Oper} {Q : Exit → Act → World → Prop} {n : Nat} {ds : List Deferred} {E E' : Env} {w w' : World}
variable {rest : List Oper} {d : Option Tmp} {ty : TypeId} {pos : String} {aft : Array Edge} {g : Option (Nat × Bool)}
variable {k : Ctx} {l l' : List HP} {A A' : HP}
def bnd (x : Option Value) (dflt i : Nat) : Prop := match x with
  | none => i = dflt
  | some v => ∃ kd, ∃ z : Int, v = .int kd z ∧ z = (i : Int)
def bndE (E : Env) (x : Option Operand) (dflt i : Nat) : Prop := match x with
  | none => i = dflt
  | some x => ∃ kd, ∃ z : Int, ev E x = some (.int kd z) ∧ z = (i : Int)
theorem bnd_of {x : Option Operand} {dflt i : Nat} {a : Act} (ha : Fits n ds E a) (h : bndE E x dflt i) : bnd (x.map a.eval) dflt i := by
  cases x with
  | none => exact h
  | some x => obtain ⟨kd, z, h1, h2⟩ := h; exact ⟨kd, z, ha.eval h1, h2⟩
theorem run_bnd {y i : Nat} {kd : IntKind} {z : Int} {code : BoundsCode} (hz : z = (i : Int)) (h : i ≤ y) : (Instr.sliceBound (.int kd z) y code).run P w = .ok i w := by
  subst hz
  simp [Instr.sliceBound, asIntOf, h]
theorem run_bnds {lo hi mx : Option Value} {len cap i j m : Nat} (h1 : bnd lo 0 i) (h2 : bnd hi len j) (h3 : bnd mx cap m) (hmx : mx.isSome = true → hi.isSome = true) (hij : i ≤ j) (hjm : j ≤ m) (hm : m ≤ cap) :
    (Instr.sliceBounds true len cap lo hi mx).run P w = .ok (i, j, m) w := by
  cases lo with
  | none =>
    cases hi with
    | none =>
      cases mx with
      | none => simp only [bnd] at h1 h2 h3; subst h1 h2 h3; simp [Instr.sliceBounds]
      | some v => exact absurd (hmx rfl) (by simp)
    | some v =>
      obtain ⟨k2, z2, rfl, f2⟩ := h2
      cases mx with
      | none => simp only [bnd] at h1 h3; subst h1 h3; simp [Instr.sliceBounds, run_bnd f2 hjm]
      | some v => obtain ⟨k3, z3, rfl, f3⟩ := h3; simp only [bnd] at h1; subst h1; simp [Instr.sliceBounds, run_bnd f2 hjm, run_bnd f3 hm]
  | some v =>
    obtain ⟨k1, z1, rfl, f1⟩ := h1
    cases hi with
    | none =>
      cases mx with
      | none => simp only [bnd] at h2 h3; subst h2 h3; simp [Instr.sliceBounds, run_bnd f1 hij]
      | some v => exact absurd (hmx rfl) (by simp)
    | some v =>
      obtain ⟨k2, z2, rfl, f2⟩ := h2
      cases mx with
      | none => simp only [bnd] at h3; subst h3; simp [Instr.sliceBounds, run_bnd f1 hij, run_bnd f2 hjm]
      | some v => obtain ⟨k3, z3, rfl, f3⟩ := h3; simp [Instr.sliceBounds, run_bnd f1 hij, run_bnd f2 hjm, run_bnd f3 hm]
/-- x[lo:hi:max] of a slice -/
theorem y_part {t e : TypeId} {agg : Bool} {sz : Nat} [hu : Und P t (.slice e)] [hl : Lay P e agg sz] {x : Operand} {lo hi mx : Option Operand} {p : Option Addr} {len cap : Nat} (i j m : Nat)
    (hx : ev E x = some (.slice p len cap)) (h1 : bndE E lo 0 i) (h2 : bndE E hi len j) (h3 : bndE E mx cap m) (hmx : mx.isSome = true → hi.isSome = true) (hij : i ≤ j) (hjm : j ≤ m) (hm : m ≤ cap) :
    Yld P n ds E w ⟨d, .slice t x lo hi mx, ty, pos, aft, g⟩ (.slice (if m = i then p else p.map (·.add (i * sz))) (j - i) (m - i)) := by
  constructor
  intro a ha
  have hb := run_bnds (P := P) (w := w) (bnd_of ha h1) (bnd_of ha h2) (bnd_of ha h3) (by simpa using hmx) hij hjm hm
  simp [execOp, ha.eval hx, Instr.sliceAt, Instr.slice, run_underlying hu.eq, hb, hl.size]
/-! ### 24. Made slices, copies, parts of what is owned -/
theorem made_rows {z : Value} {sz : Nat} (hz : z.cells.size = sz) (c : Nat) : (madeCells z.cells (c * sz)).toList = (List.replicate c z.cells.toList).flatten := by
  apply List.ext_getElem?
  intro j
  by_cases hs : sz = 0
  · have h0 : z.cells.toList = [] := by apply List.eq_nil_of_length_eq_zero; simp [hz, hs]
    subst hs
    simp [madeCells, h0, Array.range_zero']
  have hrl : ∀ r ∈ List.replicate c z.cells.toList, r.length = sz := by intro r hr; rw [(List.mem_replicate.1 hr).2]; simpa using hz
  by_cases hj : j < c * sz
  · have hd := Nat.div_add_mod j sz
    have hq : j / sz < c := Nat.div_lt_of_lt_mul (by rw [Nat.mul_comm]; exact hj)
    have hm : j % sz < sz := Nat.mod_lt _ (by omega)
    have h1 : (List.replicate c z.cells.toList)[j / sz]? = some z.cells.toList := by simp [hq]
    have h2 := flatten_get hrl (j / sz) (j % sz) _ h1 hm
    rw [show j / sz * sz + j % sz = j by rw [Nat.mul_comm]; exact hd] at h2
    rw [h2]
    simp [madeCells, hj, hz, hm]
  · rw [List.getElem?_eq_none (by simp [madeCells]; omega), List.getElem?_eq_none (by rw [flatten_length hrl]; simp; omega)]
theorem s_make {t T : TypeId} {sz bytes : Nat} {z : Value} [hu : Und P t (.slice T)] [he : Elt P T sz bytes z] {x y : Operand} {m c : Nat} {kl kc : IntKind} {zl zc : Int} (hO : Own k w l) (hg : gd ops E g = some true) (hd : dok n d = true)
    (hx : ev E x = some (.int kl zl)) (hy : ev E y = some (.int kc zc)) (hzl : zl = (m : Int)) (hzc : zc = (c : Int)) (hmc : m ≤ c) (hby : bytes * c ≤ 281474976710656) (h63 : c ≤ maxLen)
    (h : ∀ b w', Own k w' (sl (.slice (some ⟨b, 0, none⟩) m c) T sz (List.replicate m z.cells.toList) :: l) → LW P ops Q n ds rest (E.put d (.slice (some ⟨b, 0, none⟩) m c)) w') : LW P ops Q n ds (⟨d, .makeSlice t x y, ty, pos, aft, g⟩ :: rest) E w := by
  obtain ⟨i, hi, hi2, hi3, hi4⟩ := he.info
  subst hzl hzc
  have h63' : (c : Int) ≤ 9223372036854775807 := by have : c ≤ 9223372036854775807 := h63; omega
  have hr := run_make (P := P) w t T i z hu.eq hi hi4 kl kc (m : Int) (c : Int) (by omega) (by omega) (by rw [hi3]; have : bytes * c ≤ 281474976710656 := hby; exact Int.ofNat_le.2 this) h63'
  rw [hi2] at hr
  simp only [Int.toNat_natCast] at hr
  refine l_val (o := ⟨d, .makeSlice t x y, ty, pos, aft, g⟩) hg hd (fun a ha => ?_) (h w.heap.size _ ?_) (w' := w.alloc (.cells (madeCells z.cells (c * sz)) T))
  · simp [execOp, ha.eval hx, ha.eval hy, hr]
  · refine hO.alloc _ (.inr ⟨w.heap.size, 0, c, by simp, [], (List.replicate (c - m) z.cells.toList).flatten, rfl, ?_, ?_, ?_, h63, ?_⟩)
    · intro r hr; rw [(List.mem_replicate.1 hr).2]; simpa using he.cells
    · rw [flatten_length (sz := sz) (by intro r hr; rw [(List.mem_replicate.1 hr).2]; simpa using he.cells)]
      simp only [List.length_replicate]
      rw [← Nat.add_mul]; exact Nat.mul_le_mul_right _ (by omega)
    · simp; omega
    · have := made_rows he.cells c
      simp only [one, if_true, Option.some.injEq, Obj.cells.injEq, and_true, List.nil_append]
      apply Array.ext'
      rw [this]
      simp only [List.toList_toArray]
      rw [← List.flatten_append, List.replicate_append_replicate]
      congr 2; omega
theorem splice_rows {sz : Nat} {rows news : List (List Value)} (hr : ∀ r ∈ rows, r.length = sz) (hn : ∀ r ∈ news, r.length = sz) (i : Nat) (hi : i + news.length ≤ rows.length) :
    splice rows.flatten (i * sz) news.flatten = (rows.take i ++ news ++ rows.drop (i + news.length)).flatten := by
  have e1 : rows.flatten.take (i * sz) = (rows.take i).flatten := by
    have h1 : (rows.take i).flatten.length = i * sz := by
      rw [flatten_length (fun r h => hr r (List.mem_of_mem_take h)), List.length_take]; congr 1; omega
    conv => lhs; rw [← List.take_append_drop i rows, List.flatten_append]
    rw [← h1, List.take_left]
  have e2 : ∀ q, q ≤ rows.length → rows.flatten.drop (q * sz) = (rows.drop q).flatten := by
    intro q hq
    have h1 : (rows.take q).flatten.length = q * sz := by
      rw [flatten_length (fun r h => hr r (List.mem_of_mem_take h)), List.length_take]; congr 1; omega
    conv => lhs; rw [← List.take_append_drop q rows, List.flatten_append]
    rw [← h1, List.drop_left]
  unfold splice
  rw [e1, flatten_length hn, ← Nat.add_mul, e2 _ hi]
  simp
theorem Upd.ofRows {b o cap i : Nat} {T : TypeId} {sz : Nat} {rows news : List (List Value)} (hn : ∀ r ∈ news, r.length = sz) (hi : i + news.length ≤ rows.length) :
    Upd (arr b o cap T sz rows) b (o + i * sz) news.flatten (arr b o cap T sz (rows.take i ++ news ++ rows.drop (i + news.length))) := by
  refine ⟨fun h ⟨pre, spare, _, _, _, _, _, hb⟩ => ⟨_, hb⟩, fun h hA => ?_⟩
  obtain ⟨pre, spare, h1, h2, h3, h4, h5, hb⟩ := hA
  have hfl := flatten_length h2
  have hnl := flatten_length hn
  have hmul : (i + news.length) * sz ≤ rows.length * sz := Nat.mul_le_mul_right _ hi
  rw [Nat.add_mul] at hmul
  refine ⟨_, T, hb, by simp [hfl, hnl]; omega, pre, spare, h1, ?_, ?_, ?_, h5, ?_⟩
  · intro r hr
    simp only [List.mem_append] at hr
    rcases hr with (hr | hr) | hr
    · exact h2 r (List.mem_of_mem_take hr)
    · exact hn r hr
    · exact h2 r (List.mem_of_mem_drop hr)
  · rw [show (rows.take i ++ news ++ rows.drop (i + news.length)).length = rows.length by simp; omega]; exact h3
  · rw [show (rows.take i ++ news ++ rows.drop (i + news.length)).length = rows.length by simp; omega]; exact h4
  · simp only [if_true]
    rw [← h1, splice_mid _ _ _ _ _ (by rw [hfl, hnl]; omega), splice_rows h2 hn i hi]
/-- copy into a part of what is owned; what is copied fits -/
theorem s_copy {t u e : TypeId} {agg : Bool} {sz : Nat} [hu : Und P t (.slice e)] [hl : Lay P e agg sz] {T : TypeId} {x y : Operand} {b o cap i dl dc : Nat} {p : Option Addr} {vy : Value} {rows news : List (List Value)} (hO : Own k w l) (hp : Pull l (arr b o cap T sz rows) l') (hg : gd ops E g = some true) (hd : dok n d = true)
    (hx : ev E x = some (.slice p dl dc)) (hy : ev E y = some vy) (hs : Src P w sz vy news.length news.flatten) (hn : ∀ r ∈ news, r.length = sz) (hlen : news.length ≤ dl) (hi : i + news.length ≤ rows.length) (hat : news ≠ [] → p = some ⟨b, o + i * sz, none⟩)
    (h : ∀ w', Own k w' (arr b o cap T sz (rows.take i ++ news ++ rows.drop (i + news.length)) :: l') → LW P ops Q n ds rest (E.put d (.int .i64 news.length)) w') : LW P ops Q n ds (⟨d, .call ⟨.builtin .copy, #[x, y], #[t, u]⟩, ty, pos, aft, g⟩ :: rest) E w := by
  have hlen2 : Nat.min news.length dl = news.length := Nat.min_eq_left hlen
  have hO1 := hO.pull hp
  have hL := hs.len w.drawn
  have hC := hs.cells w.drawn
  by_cases hne : news = []
  · subst hne
    have hr : (Builtin.copy_ #[t, u] ty #[.slice p dl dc, vy]).run P w = .ok (.int .i64 0) w := by
      cases p <;> simp [Builtin.copy_, run_underlying hu.eq, hL, hl.size, storeCells] <;> simp at hC <;> simp [hC, storeCells, goInt]
    refine l_val (o := ⟨d, .call ⟨.builtin .copy, #[x, y], #[t, u]⟩, ty, pos, aft, g⟩) hg hd (fun a ha => ?_) (h w (by simpa using hO1))
    simp [execOp, resolve, ha.eval hx, ha.eval hy, invoke, builtin, hr]
  · obtain rfl := hat hne
    obtain ⟨w', hst, hO2⟩ := hO1.store (P := P) (.hd _ _ _) (Upd.ofRows (i := i) hn hi) hs.one
    have hr : (Builtin.copy_ #[t, u] ty #[.slice (some ⟨b, o + i * sz, none⟩) dl dc, vy]).run P w = .ok (.int .i64 news.length) w' := by
      simp [Builtin.copy_, run_underlying hu.eq, hL, hl.size, hlen2, hC, hst, goInt]
    refine l_val (o := ⟨d, .call ⟨.builtin .copy, #[x, y], #[t, u]⟩, ty, pos, aft, g⟩) hg hd (fun a ha => ?_) (h w' hO2)
    simp [execOp, resolve, ha.eval hx, ha.eval hy, invoke, builtin, hr]
/-- a slice is cut: v[i:j] of it -/
theorem sl_cut {T : TypeId} {p : Option Addr} {len cap sz : Nat} {rows : List (List Value)} (hO : Own k w (sl (.slice p len cap) T sz rows :: l)) (i j : Nat) (hij : i ≤ j) (hj : j ≤ len) :
    Own k w (sl (.slice (if cap = i then p else p.map (·.add (i * sz))) (j - i) (cap - i)) T sz ((rows.drop i).take (j - i)) :: l) := by
  refine hO.tell fun h hA => ?_
  rcases hA with ⟨he, rfl⟩ | ⟨b, o, c, he, hA⟩
  · cases he
    obtain rfl : i = 0 := by omega
    obtain rfl : j = 0 := by omega
    exact .inl ⟨by simp, by simp⟩
  · cases he
    obtain ⟨pre, spare, h1, h2, h3, h4, h5, hb⟩ := hA
    have hfl := flatten_length h2
    have hd2 : ∀ r ∈ (rows.drop i).take (j - i), r.length = sz := fun r hr => h2 r (List.mem_of_mem_drop (List.mem_of_mem_take hr))
    have hdl : ((rows.drop i).take (j - i)).length = j - i := by simp; omega
    have e0 : rows = rows.take i ++ ((rows.drop i).take (j - i) ++ (rows.drop i).drop (j - i)) := by rw [List.take_append_drop, List.take_append_drop]
    have e1 : rows.flatten = (rows.take i).flatten ++ (((rows.drop i).take (j - i)).flatten ++ ((rows.drop i).drop (j - i)).flatten) := by
      rw [← List.flatten_append, ← List.flatten_append, ← e0]
    have e2 : (rows.take i).flatten.length = i * sz := by rw [flatten_length (fun r h => h2 r (List.mem_of_mem_take h)), List.length_take]; congr 1; omega
    have e3 : ((rows.drop i).drop (j - i)).flatten.length = (rows.length - j) * sz := by
      rw [flatten_length (fun r h => h2 r (List.mem_of_mem_drop (List.mem_of_mem_drop h)))]; congr 1; simp; omega
    have e4 : (cap - i) * sz = cap * sz - i * sz := Nat.sub_mul _ _ _
    have e5 : (j - i) * sz = j * sz - i * sz := Nat.sub_mul _ _ _
    have e6 : (rows.length - j) * sz = rows.length * sz - j * sz := Nat.sub_mul _ _ _
    have e7 : i * sz ≤ j * sz := Nat.mul_le_mul_right _ hij
    have e8 : j * sz ≤ rows.length * sz := Nat.mul_le_mul_right _ hj
    by_cases hc : cap = i
    · obtain rfl : j = i := by omega
      rw [if_pos hc]
      refine .inr ⟨b, o, cap - j, by simp, pre, rows.flatten ++ spare, h1, by simp, ?_, by simp, by omega, by simpa using hb⟩
      rw [e4]; subst hc; simp
    · rw [if_neg hc]
      refine .inr ⟨b, o + i * sz, cap - i, by simp [Addr.add_lit]; omega, pre ++ (rows.take i).flatten, ((rows.drop i).drop (j - i)).flatten ++ spare, by rw [List.length_append, h1, e2], hd2, ?_, by rw [hdl]; omega, by omega, ?_⟩
      · rw [hdl, List.length_append, e3, e4, e5, e6]; omega
      · rw [hb, e1]; simp
end Go.Hb

/- What is read of an argument: strings, truths, structs, slices in slices. -/
set_option linter.unusedVariables false
set_option linter.unusedSimpArgs false
namespace Go.Hb
open Go Go.RowKit Go.ChangeShapes Go.WideShapes Go.ChangeAt
/-- how a type is read: the fuel does not matter -/
def Reads {H : Type} (enc : TypeId × Value → H) (P : Program) (W : World) (e : TypeId) (Q : List Value → DataW H → Prop) : Prop := ∀ fuel cs x, DataW.trod enc P W 0 (fun _ => true) true fuel e cs = some x → Q cs x.1
theorem r_int {H : Type} {enc : TypeId × Value → H} {P : Program} {W : World} {e : TypeId} {k : IntKind} [hu : Und P e (.int k)] : Reads enc P W e (QInt k) := q_int
def QStr {H : Type} (cs : List Value) (d : DataW H) : Prop := ∃ s : ByteArray, cs = [.string s] ∧ d = .lit (.string s.data.toList) ∧ s.size ≤ maxLen
theorem r_str {H : Type} {enc : TypeId × Value → H} {P : Program} {W : World} {e : TypeId} [hu : Und P e .string] : Reads enc P W e QStr := by
  intro fuel cs x h
  cases fuel with
  | zero => simp [DataW.trod] at h
  | succ n =>
    unfold DataW.trod at h
    rw [hu.eq] at h
    split at h <;> simp_all
    obtain ⟨h1, rfl⟩ := h
    exact ⟨_, rfl, rfl, h1⟩
def QBool {H : Type} (cs : List Value) (d : DataW H) : Prop := ∃ b : Bool, cs = [.bool b] ∧ d = .lit (.bool b)
theorem r_bool {H : Type} {enc : TypeId × Value → H} {P : Program} {W : World} {e : TypeId} [hu : Und P e .bool] : Reads enc P W e QBool := by
  intro fuel cs x h
  cases fuel with
  | zero => simp [DataW.trod] at h
  | succ n =>
    unfold DataW.trod at h
    rw [hu.eq] at h
    split at h <;> simp_all
    subst h
    exact ⟨_, rfl, rfl⟩
def QSl {H : Type} (W : World) (sz : Nat) (Q : List Value → DataW H → Prop) (cs : List Value) (d : DataW H) : Prop := ∃ v rows ds, cs = [v] ∧ ArgSl (all W) sz Q v d rows ds
theorem r_sl {H : Type} {enc : TypeId × Value → H} {P : Program} {W : World} {t e : TypeId} {sz bytes : Nat} {z : Value} [hu : Und P t (.slice e)] [he : Elt P e sz bytes z] {Q : List Value → DataW H → Prop} (hsz : 0 < sz) (hQ : Reads enc P W e Q) : Reads enc P W t (QSl W sz Q) := by
  intro fuel cs x h
  obtain ⟨v, rfl⟩ : ∃ v, cs = [v] := by
    rcases DataW.trod_slice hu.eq h with ⟨h0, _⟩ | ⟨a, len, cap, elems, rest, n, _, h0, _⟩
    · exact ⟨_, h0⟩
    · exact ⟨_, h0⟩
  obtain ⟨rows, ds, A⟩ := open_sl hsz hQ h
  exact ⟨v, rows, ds, rfl, A⟩
/-- one after the other -/
inductive QAll {H : Type} : List (List Value → DataW H → Prop) → List Value → List (DataW H) → Prop
  | nil : QAll [] [] []
  | cons {Q : List Value → DataW H → Prop} {Qs : List (List Value → DataW H → Prop)} {c cs : List Value} {d : DataW H} {ds : List (DataW H)} (h : Q c d) (hs : QAll Qs cs ds) : QAll (Q :: Qs) (c ++ cs) (d :: ds)
theorem QAll.un {H : Type} {Q : List Value → DataW H → Prop} {Qs : List (List Value → DataW H → Prop)} {cs : List Value} {ds : List (DataW H)} (h : QAll (Q :: Qs) cs ds) : ∃ c cs' d ds', cs = c ++ cs' ∧ ds = d :: ds' ∧ Q c d ∧ QAll Qs cs' ds' := by
  cases h with | cons h hs => exact ⟨_, _, _, _, rfl, rfl, h, hs⟩
theorem QAll.un0 {H : Type} {cs : List Value} {ds : List (DataW H)} (h : QAll [] cs ds) : cs = [] ∧ ds = [] := by cases h; exact ⟨rfl, rfl⟩
def QSt {H : Type} (Qs : List (List Value → DataW H → Prop)) (cs : List Value) (d : DataW H) : Prop := ∃ ds, d = .agg ds ∧ QAll Qs cs ds
/-- the fields of a struct, with the places that they take -/
inductive FAll {H : Type} (enc : TypeId × Value → H) (P : Program) (W : World) : Nat → List Field → List (List Value → DataW H → Prop) → Nat → Prop
  | nil (o : Nat) : FAll enc P W o [] [] o
  | cons {o m : Nat} {f : Field} {fs : List Field} {Q : List Value → DataW H → Prop} {Qs : List (List Value → DataW H → Prop)} {e : Nat} (ho : f.offset = o) (hm : P.cellsOf f.type = m) (hQ : Reads enc P W f.type Q) (hs : FAll enc P W (o + m) fs Qs e) : FAll enc P W o (f :: fs) (Q :: Qs) e
theorem fall_end {H : Type} {enc : TypeId × Value → H} {P : Program} {W : World} {o e : Nat} {fs : List Field} {Qs : List (List Value → DataW H → Prop)} (h : FAll enc P W o fs Qs e) : o ≤ e := by
  induction h with
  | nil => exact Nat.le_refl _
  | cons _ _ _ _ ih => omega
theorem qall_of {H : Type} {enc : TypeId × Value → H} {P : Program} {W : World} {n : Nat} {cs : List Value} {o e : Nat} {fs : List Field} {Qs : List (List Value → DataW H → Prop)} (h : FAll enc P W o fs Qs e) :
    ∀ (xs : List (DataW H × List MemPlace)), cs.length = e → xs.length = fs.length → (∀ (i : Nat) (f : Field), fs[i]? = some f → DataW.trod enc P W 0 (fun _ => true) true n f.type ((cs.drop f.offset).take (P.cellsOf f.type)) = xs[i]?) → QAll Qs (cs.drop o) (xs.map (·.1)) := by
  induction h with
  | nil o =>
    intro xs hl hx hf
    obtain rfl : xs = [] := List.eq_nil_of_length_eq_zero hx
    rw [List.drop_of_length_le (by omega)]
    exact .nil
  | @cons o m f fs Q Qs e ho hm hQ hs ih =>
    intro xs hl hx hf
    have hle := fall_end hs
    cases xs with
    | nil => simp at hx
    | cons x xs =>
      have h0 := hf 0 f rfl
      rw [ho, hm] at h0
      have h1 := ih xs hl (by simpa using hx) (fun i g hg => hf (i + 1) g hg)
      have h2 := hQ _ _ _ h0
      rw [← List.drop_drop] at h1
      have e1 : cs.drop o = (cs.drop o).take m ++ (cs.drop o).drop m := (List.take_append_drop _ _).symm
      rw [e1]
      exact .cons h2 h1
theorem r_st {H : Type} {enc : TypeId × Value → H} {P : Program} {W : World} {e : TypeId} {fs : Array Field} {Qs : List (List Value → DataW H → Prop)} [hu : Und P e (.struct fs)] (hF : FAll enc P W 0 fs.toList Qs (P.cellsOf e)) : Reads enc P W e (QSt Qs) := by
  intro fuel cs x h
  obtain ⟨xs, n, _, rfl, hl, hx, hf⟩ := DataW.trod_struct hu.eq h
  have h1 := qall_of hF xs hl (by simpa using hx) (fun i f hi => hf i f (by simpa using hi))
  exact ⟨_, rfl, by simpa using h1⟩
/-- the elements of a slice, read as xs -/
theorem rows_of {α : Type} {R : List Value → α → Prop} {rows : List (List Value)} (h : ∀ r ∈ rows, ∃ x, R r x) : ∃ xs : List α, xs.length = rows.length ∧ ∀ (i : Nat) r x, rows[i]? = some r → xs[i]? = some x → R r x := by
  induction rows with
  | nil => exact ⟨[], rfl, by simp⟩
  | cons r rows ih =>
    obtain ⟨xs, hl, hx⟩ := ih fun r hr => h r (by simp [hr])
    obtain ⟨x, h1⟩ := h r (by simp)
    refine ⟨x :: xs, by simp [hl], fun i r' x' hr hx' => ?_⟩
    cases i with
    | zero => simp at hr hx'; subst hr hx'; exact h1
    | succ i => exact hx i r' x' (by simpa using hr) (by simpa using hx')
end Go.Hb

/- Regions that draw their order and end in one store: S holds until then. -/
set_option linter.unusedVariables false
set_option linter.unusedSimpArgs false
namespace Go.Hb
open Go Go.RowKit
section
variable {P : Program} {md : Region.Mode} {ops : Array Oper} {Q : Exit → Act → World → Prop} {S : World → Prop}
/-- operation c is the last one; S holds behind all others -/
def wpC (P : Program) (md : Region.Mode) (ops : Array Oper) (Q : Exit → Act → World → Prop) (S : World → Prop) (c : Nat) : Nat → Array Bool → Act → World → Prop
  | 0, listed, a, w => Region.ready md ops listed = [] ∧ Q .normal a w
  | f + 1, listed, a, w => (Region.ready md ops listed = [] → Q .normal a w) ∧
      ∀ i ∈ Region.ready md ops listed, wpOp P ops Q i (fun a' w' => (i = c → Region.ready md ops (listed.setIfInBounds i true) = [] ∧ Q .normal a' w') ∧ (i ≠ c → S w' ∧ wpC P md ops Q S c f (listed.setIfInBounds i true) a' w')) a w
theorem wpC_any {c : Nat} : ∀ (f : Nat) (listed : Array Bool) (a : Act) (w : World), wpC P md ops Q S c f listed a w → wpAny P md ops Q f listed a w
  | 0, _, _, _, h => h
  | f + 1, listed, a, w, h => ⟨h.1, fun i hi => wpOp_mono (fun a' w' hk => by
      by_cases hc : i = c
      · exact wpAny_done (hk.1 hc).1 (hk.1 hc).2 f
      · exact wpC_any f _ _ _ (hk.2 hc).2) (h.2 i hi)⟩
/-- operation c waits for operation i -/
def waits (md : Region.Mode) (ops : Array Oper) (c i : Nat) : Bool := match ops[c]? with
  | some o => o.after.toList.any fun e => Region.binds md e && Nat.beq e.on i
  | none => false
theorem waits_not {c i : Nat} (h : waits md ops c i = true) {listed : Array Bool} (hi : i ∈ Region.ready md ops listed) (hc : c ∈ Region.ready md ops listed) : False := by
  obtain ⟨_, oc, hoc, hall⟩ := mem_ready.1 hc
  unfold waits at h
  rw [hoc] at h
  simp only [List.any_eq_true, Bool.and_eq_true] at h
  obtain ⟨e, he, hb, hn⟩ := h
  have he' : e ∈ oc.after := by simpa using he
  have hon : e.on = i := Nat.eq_of_beq_eq_true hn
  have h1 := hall e he' hb
  have h0 := (mem_ready.1 hi).1
  rw [hon] at h1
  rcases Nat.lt_or_ge i listed.size with hs | hs
  · simp [hs] at h0 h1; rw [h0] at h1; cases h1
  · simp [Array.getElem?_eq_none hs] at h1
theorem wpC_take {c i : Nat} {o : Oper} {v : Value} (ho : ops[i]? = some o) (hsel : ∀ (j : Nat) (o : Oper) cs b, ops[j]? = some o → o.op ≠ .select cs b) (hw : waits md ops c i = true)
    (hQ : ∀ c a w, Q (.panic c) (a.put o.dst v) w → Q (.panic c) a w) : ∀ (f : Nat) (listed : Array Bool) (a : Act) (w : World),
      (∀ j oj, ops[j]? = some oj → j ≠ i → listed.getD j true = false → (∀ e ∈ oj.after, Region.binds md e = true → e.on ≠ i) → o.apart ops oj = true) →
      i ∈ Region.ready md ops listed → YieldsIf P ops S o v a → S w → wpC P md ops Q S c f (listed.setIfInBounds i true) (a.put o.dst v) w → wpC P md ops Q S c (f + 1) listed a w
  | f, listed, a, w, hfree, hr, hy, hS, H => by
    have hic : i ≠ c := by
      rintro rfl
      exact waits_not hw hr hr
    refine ⟨fun h => (by rw [h] at hr; cases hr), fun j hj => ?_⟩
    by_cases hji : j = i
    · subst hji
      exact hy.wpOp ho hS ⟨fun h => absurd h hic, fun _ => ⟨hS, H⟩⟩
    · have hjc : j ≠ c := by
        rintro rfl
        exact waits_not hw hr hj
      cases f with
      | zero =>
        have := ready_mono hj hji
        rw [H.1] at this
        cases this
      | succ f =>
        have h1 := H.2 j (ready_mono hj hji)
        obtain ⟨hjun, oj, hoj, hall⟩ := mem_ready.1 hj
        have hnot : ∀ e ∈ oj.after, Region.binds md e = true → e.on ≠ i := fun e he hb heq => by
          have h1 := hall e he hb
          have h0 := (mem_ready.1 hr).1
          rw [heq] at h1
          rcases Nat.lt_or_ge i listed.size with hs | hs
          · simp [hs] at h0 h1; rw [h0] at h1; cases h1
          · simp [Array.getElem?_eq_none hs] at h1
        have h2 := wpOp_putIf hoj (hfree j oj hoj hji hjun hnot) (fun cs b => hsel i o cs b ho) (fun cs b => hsel j oj cs b hoj) hQ hy h1
        refine wpOp_mono (fun a' w' h3 => ⟨fun h => absurd h hjc, fun _ => ?_⟩) h2
        obtain ⟨hS3, h4⟩ := h3.2.2 hjc
        refine ⟨hS3, wpC_take ho hsel hw hQ f (listed.setIfInBounds j true) a' w' (fun q oq hq hqi hun hno => hfree q oq hq hqi ?_ hno) (ready_mono hr (Ne.symm hji)) h3.1 hS3 ?_⟩
        · by_cases hjq : j = q
          · subst hjq; exact hjun
          · rw [getD_set_ne true hjq] at hun; exact hun
        · rw [Array.setIfInBounds_comm _ _ hji]
          exact h4
end
section
variable {P : Program} {ops : Array Oper} {Q : Exit → Act → World → Prop} {n : Nat} {ds : List Deferred} {E E' : Env} {w w' : World} {S : World → Prop} {rest : List Oper}
/-- what is still to do of lo, from number j on; number c is the last -/
def DC (P : Program) (lo : List Oper) (Q : Exit → Act → World → Prop) (n : Nat) (ds : List Deferred) (S : World → Prop) (c j : Nat) (rest : List Oper) (E : Env) (w : World) : Prop :=
  (∀ c a d v w, Q (.panic c) (Act.put a d v) w → Q (.panic c) a w) → S w → lo.drop j = rest → ∀ a, Fits n ds E a → wpC P .any lo.toArray Q S c (lo.length - j) (done j lo.length) a w
theorem dc_start [hm : Mixed P] {id : Nat} {lo : List Oper} (c : Nat) (S : World → Prop) (hQ : ∀ c a d v w, Q (.panic c) (Act.put a d v) w → Q (.panic c) a w) (hS : S w.drew) (h : DC P lo Q n ds S c 0 lo E w.drew) : CW P Q n ds (.region id lo.toArray true) E w := by
  intro a ha
  have := h hQ hS rfl a ha
  rw [Nat.sub_zero] at this
  refine wp_region_any hm.eq (wpC_any (S := S) (c := c) _ _ _ _ ?_)
  rw [show Array.replicate lo.toArray.size false = done 0 lo.length from by unfold done; simp]
  exact this
def okC (lo : List Oper) (c j : Nat) : Bool := okAt lo j && waits .any lo.toArray c j
theorem dc_y {lo : List Oper} {c j : Nat} {o : Oper} {v : Value} (hok : okC lo c j = true) (hg : gd lo.toArray E o.guard = some true) (hd : dok n o.dst = true) (hy : ∀ w, S w → Yld P n ds E w o v)
    (h : DC P lo Q n ds S c (j + 1) rest (E.put o.dst v) w) : DC P lo Q n ds S c j (o :: rest) E w := fun hQ hS hr a ha => by
  obtain ⟨h1, h2, h3⟩ := drop_some hr
  simp only [okC, okAt, Bool.and_eq_true] at hok
  have := h hQ hS h3 _ (ha.put hd v)
  obtain ⟨f, hf⟩ : ∃ f, lo.length - j = f + 1 := ⟨lo.length - j - 1, by omega⟩
  rw [show lo.length - (j + 1) = f by omega, ← done_set h2] at this
  rw [hf]
  exact wpC_take (by simpa [nthO_eq] using h1) (Region.noSelect_spec hok.1.1.1) hok.2 (fun c a w => hQ c a _ _ w) f _ a w (Region.free_spec (by simpa [nthO_eq] using h1) hok.1.1.2) (by simpa using hok.1.2) (.inl ⟨gd_sound ha hg, fun w hw => (hy w hw).run a ha⟩) hS this
theorem dc_pass {lo : List Oper} {c j : Nat} {o : Oper} (hok : okC lo c j = true) (hg : gd lo.toArray E o.guard = some false) (hd : dok n o.dst = true)
    (h : DC P lo Q n ds S c (j + 1) rest (E.put o.dst undef) w) : DC P lo Q n ds S c j (o :: rest) E w := fun hQ hS hr a ha => by
  obtain ⟨h1, h2, h3⟩ := drop_some hr
  simp only [okC, okAt, Bool.and_eq_true] at hok
  have := h hQ hS h3 _ (ha.put hd undef)
  obtain ⟨f, hf⟩ : ∃ f, lo.length - j = f + 1 := ⟨lo.length - j - 1, by omega⟩
  rw [show lo.length - (j + 1) = f by omega, ← done_set h2] at this
  rw [hf]
  exact wpC_take (by simpa [nthO_eq] using h1) (Region.noSelect_spec hok.1.1.1) hok.2 (fun c a w => hQ c a _ _ w) f _ a w (Region.free_spec (by simpa [nthO_eq] using h1) hok.1.1.2) (by simpa using hok.1.2) (.inr ⟨gd_sound ha hg, rfl⟩) hS this
/-- one operation, of a region in which only it may come up -/
theorem op_of {lo : List Oper} {i : Nat} {o : Oper} {K : Env → World → Prop} {K' : Act → World → Prop} (hi : nthO lo i = some o) (h : OW P lo.toArray Q n ds o K E w) (hK : ∀ E' a w, Fits n ds E' a → K E' w → K' a w) {a : Act} (ha : Fits n ds E a) : wpOp P lo.toArray Q i K' a w := by
  have := h a ha
  unfold wpOp
  rw [show lo.toArray[i]? = some o from by simpa [nthO_eq] using hi]
  simp only [wpList] at this ⊢
  split at this
  · rename_i hw
    rw [if_pos hw]
    rcases this with h1 | ⟨_, _, _, h1⟩
    · left
      unfold Oper.wp Oper.upon at *
      revert h1
      generalize (execOp a.eval o).run P w = r
      intro h1
      cases r with
      | ok x w1 =>
        cases x <;> simp only [LetsOut] at h1 ⊢ <;> first
          | (obtain ⟨E', hf, hk⟩ := h1; exact hK _ _ _ hf hk)
          | (refine Calls.mono h1 fun e w2 he => ?_
             cases e <;> simp only at he ⊢ <;> first
               | (obtain ⟨E', hf, hk⟩ := he; exact hK _ _ _ hf hk)
               | exact he.elim
               | (obtain ⟨_, _, he⟩ := he; exact he.elim))
          | (refine Rows.mono h1 fun v w2 he => ?_
             obtain ⟨E', hf, hk⟩ := he
             exact hK _ _ _ hf hk)
          | exact h1.elim
      | halt x w1 => cases x <;> exact h1.elim
    · exact h1.elim
  · rename_i hw
    rw [if_neg hw]
    obtain ⟨E', hf, hk⟩ := this
    exact hK _ _ _ hf hk
theorem dc_only {lo : List Oper} {c j : Nat} {o : Oper} (hr : Region.ready .any lo.toArray (done j lo.length) = [j]) (hjc : Nat.beq j c = false)
    (h : OW P lo.toArray Q n ds o (fun E w => S w ∧ DC P lo Q n ds S c (j + 1) rest E w) E w) : DC P lo Q n ds S c j (o :: rest) E w := fun hQ hS hr' a ha => by
  obtain ⟨h1, h2, h3⟩ := drop_some hr'
  obtain ⟨f, hf⟩ : ∃ f, lo.length - j = f + 1 := ⟨lo.length - j - 1, by omega⟩
  rw [hf]
  have hne : j ≠ c := fun e => by rw [e] at hjc; simp at hjc
  refine ⟨fun h0 => (by rw [hr] at h0; cases h0), fun i hi => ?_⟩
  rw [hr] at hi
  obtain rfl : i = j := by simpa using hi
  refine op_of h1 h (fun E' a' w' hf' hk => ⟨fun e => absurd e hne, fun _ => ⟨hk.1, ?_⟩⟩) ha
  have := hk.2 hQ hk.1 h3 a' hf'
  rw [show lo.length - (i + 1) = f by omega, ← done_set h2] at this
  exact this
theorem dc_last {lo : List Oper} {c : Nat} {o : Oper} (hr : Region.ready .any lo.toArray (done c lo.length) = [c]) (hr2 : Region.ready .any lo.toArray (done (c + 1) lo.length) = [])
    (h : OW P lo.toArray Q n ds o (fun E w => QW Q n ds .normal E w) E w) : DC P lo Q n ds S c c (o :: rest) E w := fun hQ hS hr' a ha => by
  obtain ⟨h1, h2, h3⟩ := drop_some hr'
  obtain ⟨f, hf⟩ : ∃ f, lo.length - c = f + 1 := ⟨lo.length - c - 1, by omega⟩
  rw [hf]
  refine ⟨fun h0 => (by rw [hr] at h0; cases h0), fun i hi => ?_⟩
  rw [hr] at hi
  obtain rfl : i = c := by simpa using hi
  exact op_of h1 h (fun E' a' w' hf' hk => ⟨fun _ => ⟨by rw [done_set h2]; exact hr2, hk _ hf'⟩, fun e => absurd rfl e⟩) ha
end
section
variable {P : Program} {md : Region.Mode} {ops : Array Oper} {Q : Exit → Act → World → Prop} {S S2 : World → Prop} {n : Nat} {ds : List Deferred} {E : Env} {w : World}
theorem wpAnyH_more (hs : ∀ w, S2 w → S w) : ∀ (f : Nat) (listed : Array Bool) (a : Act) (w : World), wpAnyH P md ops Q S2 f listed a w → wpAnyH P md ops Q S f listed a w
  | 0, _, _, _, h => h
  | f + 1, _, _, _, h => ⟨h.1, fun i hi => wpOp_mono (fun a' w' hk => ⟨hs _ hk.1, wpAnyH_more hs f _ _ _ hk.2⟩) (h.2 i hi)⟩
/-- from here on more is known to hold -/
theorem d_more (S2 : World → Prop) {fuel : Nat} {listed : Array Bool} (hs : ∀ w, S2 w → S w) (h : DW P ops Q n ds S2 fuel listed E w) : DW P ops Q n ds S fuel listed E w := fun a ha => wpAnyH_more hs _ _ _ _ (h a ha)
theorem SO.less {k : Ctx} {A : HP} {L : List HP} {w : World} (h : SO k (A :: L) w) : SO k L w := by
  obtain ⟨m, hO⟩ := h
  exact ⟨m, (hO : Own k w (A :: (L ++ m))).drop⟩
end
/-! ### 26. Beginnings of slices -/
theorem part0 {p : Option Addr} {m sz : Nat} : (if m = 0 then p else p.map (·.add (0 * sz))) = p := by
  split
  · rfl
  · cases p with
    | none => rfl
    | some a => simp [Addr.add]
section
variable {P : Program} {ops : Array Oper} {Q : Exit → Act → World → Prop} {n : Nat} {ds : List Deferred} {E E' : Env} {w w' : World}
variable {rest : List Oper} {d : Option Tmp} {ty : TypeId} {pos : String} {aft : Array Edge} {g : Option (Nat × Bool)}
variable {k : Ctx} {l l' : List HP} {A A' : HP}
/-- x[:hi] -/
theorem y_head {t e : TypeId} {agg : Bool} {sz : Nat} [hu : Und P t (.slice e)] [hl : Lay P e agg sz] {x hi : Operand} {p : Option Addr} {len cap : Nat} {kd : IntKind} {z : Int} (j : Nat)
    (hx : ev E x = some (.slice p len cap)) (hh : ev E hi = some (.int kd z)) (hz : z = (j : Int)) (hj : j ≤ cap) : Yld P n ds E w ⟨d, .slice t x none (some hi) none, ty, pos, aft, g⟩ (.slice p j cap) := by
  have := y_part (P := P) (n := n) (ds := ds) (E := E) (w := w) (d := d) (ty := ty) (pos := pos) (aft := aft) (g := g) (t := t) (lo := none) (hi := some hi) (mx := none) 0 j cap hx rfl ⟨kd, z, hh, hz⟩ rfl (fun _ => rfl) (Nat.zero_le _) hj (Nat.le_refl _)
  rwa [part0] at this
/-- x[:hi:max] -/
theorem y_head3 {t e : TypeId} {agg : Bool} {sz : Nat} [hu : Und P t (.slice e)] [hl : Lay P e agg sz] {x hi mx : Operand} {p : Option Addr} {len cap : Nat} {kd kd' : IntKind} {z z' : Int} (j m : Nat)
    (hx : ev E x = some (.slice p len cap)) (hh : ev E hi = some (.int kd z)) (hz : z = (j : Int)) (hh' : ev E mx = some (.int kd' z')) (hz' : z' = (m : Int)) (hj : j ≤ m) (hm : m ≤ cap) : Yld P n ds E w ⟨d, .slice t x none (some hi) (some mx), ty, pos, aft, g⟩ (.slice p j m) := by
  have := y_part (P := P) (n := n) (ds := ds) (E := E) (w := w) (d := d) (ty := ty) (pos := pos) (aft := aft) (g := g) (t := t) (lo := none) (hi := some hi) (mx := some mx) 0 j m hx rfl ⟨kd, z, hh, hz⟩ ⟨kd', z', hh', hz'⟩ (fun _ => rfl) (Nat.zero_le _) hj hm
  rwa [part0] at this
/-- x[lo:] -/
theorem y_tail {t e : TypeId} {agg : Bool} {sz : Nat} [hu : Und P t (.slice e)] [hl : Lay P e agg sz] {x lo : Operand} {p : Option Addr} {len cap : Nat} {kd : IntKind} {z : Int} (i : Nat)
    (hx : ev E x = some (.slice p len cap)) (hh : ev E lo = some (.int kd z)) (hz : z = (i : Int)) (hi : i ≤ len) (hc : len ≤ cap) : Yld P n ds E w ⟨d, .slice t x (some lo) none none, ty, pos, aft, g⟩ (.slice (if cap = i then p else p.map (·.add (i * sz))) (len - i) (cap - i)) :=
  y_part i len cap hx ⟨kd, z, hh, hz⟩ rfl rfl (fun h => by cases h) hi hc (Nat.le_refl _)
end
theorem Sli.head {H : Addr → List Value → Prop} (hH : Cuts H) {p : Option Addr} {n cap sz : Nat} {rows : List (List Value)} (hr : ∀ r ∈ rows, r.length = sz) (h : Sli H (.slice p n cap) rows) (j m : Nat) (hj : j ≤ n) (hm : j ≤ m) : Sli H (.slice p j m) (rows.take j) := by
  have := h.cut hH hr 0 j m (Nat.zero_le _) hj hm
  rwa [part0] at this
theorem Sli.tail {H : Addr → List Value → Prop} (hH : Cuts H) {p : Option Addr} {n cap sz : Nat} {rows : List (List Value)} (hr : ∀ r ∈ rows, r.length = sz) (h : Sli H (.slice p n cap) rows) (i : Nat) (hi : i ≤ n) : Sli H (.slice (if cap = i then p else p.map (·.add (i * sz))) (n - i) (cap - i)) (rows.drop i) := by
  have hn : n = rows.length ∧ rows.length ≤ cap := by obtain ⟨_, _, h1, h2, _⟩ := h; cases h1; exact ⟨rfl, h2⟩
  have := h.cut hH hr i n cap hi (Nat.le_refl _) (by omega)
  rwa [List.take_of_length_le (by simp; omega)] at this
theorem sl_head {k : Ctx} {w : World} {l : List HP} {T : TypeId} {p : Option Addr} {len cap sz : Nat} {rows : List (List Value)} (hO : Own k w (sl (.slice p len cap) T sz rows :: l)) (j : Nat) (hj : j ≤ len) : Own k w (sl (.slice p j cap) T sz (rows.take j) :: l) := by
  have := sl_cut hO 0 j (Nat.zero_le _) hj
  rwa [part0] at this
theorem sl_tail {k : Ctx} {w : World} {l : List HP} {T : TypeId} {p : Option Addr} {len cap sz : Nat} {rows : List (List Value)} (hO : Own k w (sl (.slice p len cap) T sz rows :: l)) (i : Nat) (hi : i ≤ len) : Own k w (sl (.slice (if cap = i then p else p.map (·.add (i * sz))) (len - i) (cap - i)) T sz (rows.drop i) :: l) := by
  have hn : len = rows.length := by obtain ⟨a, c, h⟩ := sl_shape hO; cases h; rfl
  have := sl_cut hO i len hi (Nat.le_refl _)
  rwa [List.take_of_length_le (by simp; omega)] at this
theorem three {α : Type} (z A B C : List α) (h : z.length = A.length + B.length + C.length) :
    (((z.take 0 ++ A ++ z.drop (0 + A.length)).take A.length ++ B ++ (z.take 0 ++ A ++ z.drop (0 + A.length)).drop (A.length + B.length)).take (A.length + B.length) ++ C ++ ((z.take 0 ++ A ++ z.drop (0 + A.length)).take A.length ++ B ++ (z.take 0 ++ A ++ z.drop (0 + A.length)).drop (A.length + B.length)).drop (A.length + B.length + C.length)) = A ++ B ++ C := by
  simp only [List.take_zero, List.nil_append, Nat.zero_add, List.take_left]
  rw [show A.length + B.length = (A ++ B).length by simp, List.take_left, List.drop_append, List.drop_append]
  rw [List.drop_of_length_le (by simp; omega), List.nil_append, List.drop_of_length_le (by simp [h]; omega)]
  simp [h]
end Go.Hb

/- The steps under short names; what 'rfl' shows is left to it. -/
set_option linter.unusedVariables false
namespace Go.Hb
open Go Go.RowKit
section
variable {P : Program} {ops : Array Oper} {Q : Exit → Act → World → Prop} {n : Nat} {ds : List Deferred} {E E' : Env} {w w' : World}
variable {rest : List Oper} {d : Option Tmp} {ty : TypeId} {pos : String} {aft : Array Edge} {g : Option (Nat × Bool)}
theorem K0 {x y : Code} (h : CW P (Exit.then (y.wp P Q) Q) n ds x E w) : CW P Q n ds (.seq x y) E w := c_seq h
theorem K1 {id : Nat} {l : List Oper} (h : LW P l.toArray Q n ds l E w) : CW P Q n ds (.region id l.toArray false) E w := c_region h
theorem K2 (h : QW Q n ds .normal E w) : LW P ops Q n ds [] E w := l_nil h
theorem K3 {y : Code} (h : CW P Q n ds y E w) : QW (Exit.then (y.wp P Q) Q) n ds .normal E w := q_normal h
theorem K4 {id : Nat} {c : Code} (h : CW P (Exit.inBlock id Q) n ds c E w) : CW P Q n ds (.block id c) E w := c_block h
theorem K5 (h : QW Q n ds .normal E w) : CW P Q n ds .skip E w := c_skip h
theorem K6 (h : QW Q n ds .ret E w) : CW P Q n ds .ret E w := c_ret h
theorem K7 {id : Nat} (h : QW Q n ds (.exit id) E w) : CW P Q n ds (.exit id) E w := c_exit h
theorem K8 {id : Nat} (h : QW Q n ds .normal E w) : QW (Exit.inBlock id Q) n ds .normal E w := qb_normal h
theorem K9 {K : Act → World → Prop} (h : QW Q n ds .ret E w) : QW (Exit.then K Q) n ds .ret E w := q_ret h
theorem L0 {id : Nat} (h : QW Q n ds .ret E w) : QW (Exit.inBlock id Q) n ds .ret E w := qb_ret h
theorem L1 {K : Act → World → Prop} {id : Nat} (h : QW Q n ds (.exit id) E w) : QW (Exit.then K Q) n ds (.exit id) E w := q_exit h
theorem L2 {id : Nat} (h : QW Q n ds .normal E w) : QW (Exit.inBlock id Q) n ds (.exit id) E w := qb_here h
theorem L3 (h : QW Q n ds .normal E w) : QW (Exit.noGoto Q) n ds .normal E w := qs_normal h
theorem L4 (h : QW Q n ds .ret E w) : QW (Exit.noGoto Q) n ds .ret E w := qs_ret h
theorem L5 {l : Nat} (h : QW Q n ds .normal E w) : CW P Q n ds (.label l) E w := c_label h
theorem L6 {c : Code} (h : CW P (Exit.noGoto Q) n ds c E w) : CW P Q n ds (.scope c) E w := c_scope h
theorem L7 {id id' : Nat} (h : QW Q n ds (.exit id') E w) (hne : Nat.beq id' id = false := by rfl) : QW (Exit.inBlock id Q) n ds (.exit id') E w := qb_other hne h
theorem L8 {c : Operand} {x y : Code} (h : CW P Q n ds x E w) (hc : ev E c = some (.bool true) := by rfl) : CW P Q n ds (.cond c x y) E w := c_true hc h
theorem L9 {c : Operand} {x y : Code} (h : CW P Q n ds y E w) (hc : ev E c = some (.bool false) := by rfl) : CW P Q n ds (.cond c x y) E w := c_false hc h
theorem M0 {x : Operand} {v : Value} (h : LW P ops Q n ds rest (E.put d v) w) (hg : gd ops E g = some true := by rfl) (hd : dok n d = true := by rfl) (hx : ev E x = some v := by rfl) :
    LW P ops Q n ds (⟨d, .move x, ty, pos, aft, g⟩ :: rest) E w := s_move hg hd hx h
theorem M1 {x : Operand} {v : Value} (h : LW P ops Q n ds rest (E.put d v) w) (hg : gd ops E g = some true := by rfl) (hd : dok n d = true := by rfl) (hx : ev E x = some v := by rfl) :
    LW P ops Q n ds (⟨d, .assign x, ty, pos, aft, g⟩ :: rest) E w := s_assign hg hd hx h
theorem M2 {o : Oper} (h : LW P ops Q n ds rest (E.put o.dst undef) w) (hg : gd ops E o.guard = some false := by rfl) (hd : dok n o.dst = true := by rfl) : LW P ops Q n ds (o :: rest) E w := l_pass hg hd h
theorem M3 {c x y : Operand} {v : Value} (h : LW P ops Q n ds rest (E.put d v) w) (hg : gd ops E g = some true := by rfl) (hd : dok n d = true := by rfl) (hc : ev E c = some (.bool true) := by rfl) (hx : ev E x = some v := by rfl) :
    LW P ops Q n ds (⟨d, .pick c x y, ty, pos, aft, g⟩ :: rest) E w := s_pick_t hg hd hc hx h
theorem M4 {c x y : Operand} {v : Value} (h : LW P ops Q n ds rest (E.put d v) w) (hg : gd ops E g = some true := by rfl) (hd : dok n d = true := by rfl) (hc : ev E c = some (.bool false) := by rfl) (hy : ev E y = some v := by rfl) :
    LW P ops Q n ds (⟨d, .pick c x y, ty, pos, aft, g⟩ :: rest) E w := s_pick_f hg hd hc hy h
theorem M5 {x : Operand} {v : Value} (h : LW P ops Q n ds rest (E.put d v) w) (hg : gd ops E g = some true := by rfl) (hd : dok n d = true := by rfl) (hx : ev E x = some v := by rfl) (hs : solid v = true := by rfl) :
    LW P ops Q n ds (⟨d, .nilCheck x, ty, pos, aft, g⟩ :: rest) E w := s_nilCheck hg hd hx hs h
theorem M6 {x : Operand} {i : Nat} {l : List Value} {v : Value} (h : LW P ops Q n ds rest (E.put d v) w) (hg : gd ops E g = some true := by rfl) (hd : dok n d = true := by rfl) (hx : ev E x = some (.tuple l.toArray) := by rfl) (hv : l[i]? = some v := by rfl) :
    LW P ops Q n ds (⟨d, .extract x i, ty, pos, aft, g⟩ :: rest) E w := s_extract hg hd hx hv h
theorem M7 {s : TypeId} {f off : Nat} [hf : Fld P s f off] {x : Operand} {b o i j : Nat} (h : LW P ops Q n ds rest (E.put d (.pointer (some ⟨b, o + (i + (j + off)), none⟩))) w) (hg : gd ops E g = some true := by rfl) (hd : dok n d = true := by rfl) (hx : ev E x = some (.pointer (some ⟨b, o + (i + j), none⟩)) := by rfl) :
    LW P ops Q n ds (⟨d, .fieldAddr s x f, ty, pos, aft, g⟩ :: rest) E w := s_fieldAddr_row hg hd hx h
theorem M8 {s : TypeId} {f off : Nat} [hf : Fld P s f off] {x : Operand} {b o : Nat} (h : LW P ops Q n ds rest (E.put d (.pointer (some ⟨b, o + off, none⟩))) w) (hg : gd ops E g = some true := by rfl) (hd : dok n d = true := by rfl) (hx : ev E x = some (.pointer (some ⟨b, o, none⟩)) := by rfl) :
    LW P ops Q n ds (⟨d, .fieldAddr s x f, ty, pos, aft, g⟩ :: rest) E w := s_fieldAddr hg hd hx h
theorem M9 {t e : TypeId} [hu : Und P t (.slice e)] {x : Operand} {a : Option Addr} {len cap : Nat} (h : LW P ops Q n ds rest (E.put d (.int .i64 len)) w) (hg : gd ops E g = some true := by rfl) (hd : dok n d = true := by rfl) (hx : ev E x = some (.slice a len cap) := by rfl) :
    LW P ops Q n ds (⟨d, .call ⟨.builtin .len, #[x], #[t]⟩, ty, pos, aft, g⟩ :: rest) E w := s_lenL hg hd hx h
theorem N0 {t : TypeId} [hu : Und P t .string] {x : Operand} {s : ByteArray} (h : LW P ops Q n ds rest (E.put d (.int .i64 s.size)) w) (hg : gd ops E g = some true := by rfl) (hd : dok n d = true := by rfl) (hx : ev E x = some (.string s) := by rfl) :
    LW P ops Q n ds (⟨d, .call ⟨.builtin .len, #[x], #[t]⟩, ty, pos, aft, g⟩ :: rest) E w := s_lenS hg hd hx h
theorem N1 {op : BinOp} {t u : TypeId} {x y : Operand} {a b r : Int} (h : LW P ops Q n ds rest (E.put d (.int .i64 r)) w) (hg : gd ops E g = some true := by rfl) (hd : dok n d = true := by rfl) (hx : ev E x = some (.int .i64 a) := by rfl) (hy : ev E y = some (.int .i64 b) := by rfl)
    (hr : arith op a b = some r := by rfl) (h1 : -9223372036854775808 ≤ r := by omega) (h2 : r ≤ 9223372036854775807 := by omega) :
    LW P ops Q n ds (⟨d, .binOp op t x y u, ty, pos, aft, g⟩ :: rest) E w := s_arith hg hd hx hy hr (w64 h1 h2) h
theorem N2 {op : BinOp} {t u : TypeId} {x y : Operand} {k : IntKind} {a b : Int} {p : Prop} [Decidable p] (h : LW P ops Q n ds rest (E.put d (.bool true)) w) (hg : gd ops E g = some true := by rfl) (hd : dok n d = true := by rfl) (hx : ev E x = some (.int k a) := by rfl) (hy : ev E y = some (.int k b) := by rfl)
    (hr : cmpI op a b = some (decide p) := by rfl) (hp : p := by omega) : LW P ops Q n ds (⟨d, .binOp op t x y u, ty, pos, aft, g⟩ :: rest) E w := s_cmpI hg hd hx hy (hr.trans (congrArg some (decide_eq_true hp))) h
theorem N3 {op : BinOp} {t u : TypeId} {x y : Operand} {k : IntKind} {a b : Int} {p : Prop} [Decidable p] (h : LW P ops Q n ds rest (E.put d (.bool false)) w) (hg : gd ops E g = some true := by rfl) (hd : dok n d = true := by rfl) (hx : ev E x = some (.int k a) := by rfl) (hy : ev E y = some (.int k b) := by rfl)
    (hr : cmpI op a b = some (decide p) := by rfl) (hp : ¬ p := by omega) : LW P ops Q n ds (⟨d, .binOp op t x y u, ty, pos, aft, g⟩ :: rest) E w := s_cmpI hg hd hx hy (hr.trans (congrArg some (decide_eq_false hp))) h
theorem N4 {op : BinOp} {t u : TypeId} {x y : Operand} {k : IntKind} {a b : Int} {p : Prop} [Decidable p] (h : LW P ops Q n ds rest (E.put d (.bool false)) w) (hg : gd ops E g = some true := by rfl) (hd : dok n d = true := by rfl) (hx : ev E x = some (.int k a) := by rfl) (hy : ev E y = some (.int k b) := by rfl)
    (hr : cmpI op a b = some (!decide p) := by rfl) (hp : p := by omega) : LW P ops Q n ds (⟨d, .binOp op t x y u, ty, pos, aft, g⟩ :: rest) E w := s_cmpI hg hd hx hy (hr.trans (congrArg (fun b => some (!b)) (decide_eq_true hp))) h
theorem N5 {op : BinOp} {t u : TypeId} {x y : Operand} {k : IntKind} {a b : Int} {p : Prop} [Decidable p] (h : LW P ops Q n ds rest (E.put d (.bool true)) w) (hg : gd ops E g = some true := by rfl) (hd : dok n d = true := by rfl) (hx : ev E x = some (.int k a) := by rfl) (hy : ev E y = some (.int k b) := by rfl)
    (hr : cmpI op a b = some (!decide p) := by rfl) (hp : ¬ p := by omega) : LW P ops Q n ds (⟨d, .binOp op t x y u, ty, pos, aft, g⟩ :: rest) E w := s_cmpI hg hd hx hy (hr.trans (congrArg (fun b => some (!b)) (decide_eq_false hp))) h
theorem N6 {t u : TypeId} {x y : Operand} {a b : ByteArray} (h : LW P ops Q n ds rest (E.put d (.bool true)) w) (hg : gd ops E g = some true := by rfl) (hd : dok n d = true := by rfl) (hx : ev E x = some (.string a) := by rfl) (hy : ev E y = some (.string b) := by rfl)
    (hp : a = b := by first | assumption | rfl) : LW P ops Q n ds (⟨d, .binOp .eql t x y u, ty, pos, aft, g⟩ :: rest) E w := s_eqS hg hd hx hy (decide_eq_true hp) h
theorem N7 {t u : TypeId} {x y : Operand} {a b : ByteArray} (h : LW P ops Q n ds rest (E.put d (.bool false)) w) (hg : gd ops E g = some true := by rfl) (hd : dok n d = true := by rfl) (hx : ev E x = some (.string a) := by rfl) (hy : ev E y = some (.string b) := by rfl)
    (hp : a ≠ b := by first | assumption | decide) : LW P ops Q n ds (⟨d, .binOp .eql t x y u, ty, pos, aft, g⟩ :: rest) E w := s_eqS hg hd hx hy (decide_eq_false hp) h
theorem N8 {t u : TypeId} {x y : Operand} {a b : ByteArray} (h : LW P ops Q n ds rest (E.put d (.bool false)) w) (hg : gd ops E g = some true := by rfl) (hd : dok n d = true := by rfl) (hx : ev E x = some (.string a) := by rfl) (hy : ev E y = some (.string b) := by rfl)
    (hp : a = b := by first | assumption | rfl) : LW P ops Q n ds (⟨d, .binOp .neq t x y u, ty, pos, aft, g⟩ :: rest) E w := s_neS hg hd hx hy (by simp [hp]) h
theorem N9 {t u : TypeId} {x y : Operand} {a b : ByteArray} (h : LW P ops Q n ds rest (E.put d (.bool true)) w) (hg : gd ops E g = some true := by rfl) (hd : dok n d = true := by rfl) (hx : ev E x = some (.string a) := by rfl) (hy : ev E y = some (.string b) := by rfl)
    (hp : a ≠ b := by first | assumption | decide) : LW P ops Q n ds (⟨d, .binOp .neq t x y u, ty, pos, aft, g⟩ :: rest) E w := s_neS hg hd hx hy (by simp [hp]) h
theorem R0 {t u : TypeId} [hu : Und P t .bool] {x y : Operand} {a b c : Bool} (h : LW P ops Q n ds rest (E.put d (.bool c)) w) (hg : gd ops E g = some true := by rfl) (hd : dok n d = true := by rfl) (hx : ev E x = some (.bool a) := by rfl) (hy : ev E y = some (.bool b) := by rfl)
    (hc : (a == b) = c := by rfl) : LW P ops Q n ds (⟨d, .binOp .eql t x y u, ty, pos, aft, g⟩ :: rest) E w := s_eqB hg hd hx hy hc h
theorem R1 {t u : TypeId} [hu : Und P t .bool] {x y : Operand} {a b c : Bool} (h : LW P ops Q n ds rest (E.put d (.bool c)) w) (hg : gd ops E g = some true := by rfl) (hd : dok n d = true := by rfl) (hx : ev E x = some (.bool a) := by rfl) (hy : ev E y = some (.bool b) := by rfl)
    (hc : (!(a == b)) = c := by rfl) : LW P ops Q n ds (⟨d, .binOp .neq t x y u, ty, pos, aft, g⟩ :: rest) E w := s_neB hg hd hx hy hc h
theorem R2 {t : TypeId} {x : Operand} {a c : Bool} (h : LW P ops Q n ds rest (E.put d (.bool c)) w) (hg : gd ops E g = some true := by rfl) (hd : dok n d = true := by rfl) (hx : ev E x = some (.bool a) := by rfl) (hc : (!a) = c := by rfl) :
    LW P ops Q n ds (⟨d, .unOp .not t x, ty, pos, aft, g⟩ :: rest) E w := s_not hg hd hx hc h
theorem R3 {t e u : TypeId} [hu : Und P t (.pointer e)] {x y : Operand} {p : Option Addr} {c : Bool} (h : LW P ops Q n ds rest (E.put d (.bool c)) w) (hg : gd ops E g = some true := by rfl) (hd : dok n d = true := by rfl) (hx : ev E x = some (.pointer p) := by rfl) (hy : ev E y = some (.pointer none) := by rfl) (hc : p.isNone = c := by rfl) :
    LW P ops Q n ds (⟨d, .binOp .eql t x y u, ty, pos, aft, g⟩ :: rest) E w := l_y hg hd (y_eqPnil hx hy hc) h
theorem R4 {t e u : TypeId} [hu : Und P t (.pointer e)] {x y : Operand} {p : Option Addr} {c : Bool} (h : LW P ops Q n ds rest (E.put d (.bool c)) w) (hg : gd ops E g = some true := by rfl) (hd : dok n d = true := by rfl) (hx : ev E x = some (.pointer p) := by rfl) (hy : ev E y = some (.pointer none) := by rfl) (hc : p.isSome = c := by rfl) :
    LW P ops Q n ds (⟨d, .binOp .neq t x y u, ty, pos, aft, g⟩ :: rest) E w := l_y hg hd (y_nePnil hx hy hc) h
theorem R5 {fn : Fn} {f c : List Operand} {vf vc : List Value} (h : LW P ops Q n ds rest (E.put d (.func fn vf.toArray vc.toArray)) w) (hg : gd ops E g = some true := by rfl) (hd : dok n d = true := by rfl) (hf : evl E f = some vf := by rfl) (hc : evl E c = some vc := by rfl) :
    LW P ops Q n ds (⟨d, .makeFunc fn f.toArray c.toArray, ty, pos, aft, g⟩ :: rest) E w := l_y hg hd (y_makeFunc hf hc) h
theorem R6 {s t : TypeId} [hs : Und P s .string] [ht : Und P t .string] {x : Operand} {b : ByteArray} (h : LW P ops Q n ds rest (E.put d (.string b)) w) (hg : gd ops E g = some true := by rfl) (hd : dok n d = true := by rfl) (hx : ev E x = some (.string b) := by rfl) :
    LW P ops Q n ds (⟨d, .convert s t x, ty, pos, aft, g⟩ :: rest) E w := l_y hg hd (y_convS hx) h
theorem R7 {s t : TypeId} {dd : TypeDesc} {kd' : IntKind} [hs : Und P s dd] [ht : Und P t (.int .i64)] {x : Operand} {i : Int} (h : LW P ops Q n ds rest (E.put d (.int .i64 i)) w) (hg : gd ops E g = some true := by rfl) (hd : dok n d = true := by rfl) (hx : ev E x = some (.int kd' i) := by rfl)
    (h1 : -9223372036854775808 ≤ i := by omega) (h2 : i ≤ 9223372036854775807 := by omega) : LW P ops Q n ds (⟨d, .convert s t x, ty, pos, aft, g⟩ :: rest) E w := l_y hg hd (y_convI hx (w64 h1 h2)) h
theorem R8 {op : BinOp} {t u : TypeId} {x y : Operand} {a b r : Int} (h : LW P ops Q n ds rest (E.put d (.int .i32 r)) w) (hg : gd ops E g = some true := by rfl) (hd : dok n d = true := by rfl) (hx : ev E x = some (.int .i32 a) := by rfl) (hy : ev E y = some (.int .i32 b) := by rfl)
    (hr : arith op a b = some r := by rfl) (h1 : -2147483648 ≤ r := by omega) (h2 : r ≤ 2147483647 := by omega) :
    LW P ops Q n ds (⟨d, .binOp op t x y u, ty, pos, aft, g⟩ :: rest) E w := s_arith hg hd hx hy hr (w32 h1 h2) h
theorem R9 {s t : TypeId} {dd : TypeDesc} {kd' : IntKind} [hs : Und P s dd] [ht : Und P t (.int .i32)] {x : Operand} {i : Int} (h : LW P ops Q n ds rest (E.put d (.int .i32 i)) w) (hg : gd ops E g = some true := by rfl) (hd : dok n d = true := by rfl) (hx : ev E x = some (.int kd' i) := by rfl)
    (h1 : -2147483648 ≤ i := by omega) (h2 : i ≤ 2147483647 := by omega) : LW P ops Q n ds (⟨d, .convert s t x, ty, pos, aft, g⟩ :: rest) E w := l_y hg hd (y_convI hx (w32 h1 h2)) h
theorem S0 {t : TypeId} [hu : Und P t .string] {x y : Operand} {s : ByteArray} {i : Int} {kd : IntKind} {c : UInt8} (h : LW P ops Q n ds rest (E.put d (.int .u8 c.toNat)) w) (hg : gd ops E g = some true := by rfl) (hd : dok n d = true := by rfl) (hx : ev E x = some (.string s) := by rfl) (hy : ev E y = some (.int kd i) := by rfl)
    (h0 : 0 ≤ i := by omega) (hc : s.data.toList[i.toNat]? = some c := by assumption) : LW P ops Q n ds (⟨d, .index t x y, ty, pos, aft, g⟩ :: rest) E w := l_y hg hd (y_indexS hx hy h0 hc) h
/-! one or the other -/
theorem Z0 {op : BinOp} {t u : TypeId} {x y : Operand} {k : IntKind} {a b : Int} {p : Prop} [Decidable p] (h1 : p → LW P ops Q n ds rest (E.put d (.bool true)) w) (h2 : ¬ p → LW P ops Q n ds rest (E.put d (.bool false)) w) (hg : gd ops E g = some true := by rfl) (hd : dok n d = true := by rfl) (hx : ev E x = some (.int k a) := by rfl) (hy : ev E y = some (.int k b) := by rfl)
    (hr : cmpI op a b = some (decide p) := by rfl) : LW P ops Q n ds (⟨d, .binOp op t x y u, ty, pos, aft, g⟩ :: rest) E w := s_cmpI_split hg hd hx hy hr h1 h2
theorem Z1 {op : BinOp} {t u : TypeId} {x y : Operand} {k : IntKind} {a b : Int} {p : Prop} [Decidable p] (h1 : ¬ p → LW P ops Q n ds rest (E.put d (.bool true)) w) (h2 : p → LW P ops Q n ds rest (E.put d (.bool false)) w) (hg : gd ops E g = some true := by rfl) (hd : dok n d = true := by rfl) (hx : ev E x = some (.int k a) := by rfl) (hy : ev E y = some (.int k b) := by rfl)
    (hr : cmpI op a b = some (!decide p) := by rfl) : LW P ops Q n ds (⟨d, .binOp op t x y u, ty, pos, aft, g⟩ :: rest) E w := s_cmpI_splitn hg hd hx hy hr h1 h2
theorem Z2 {t u : TypeId} {x y : Operand} {a b : ByteArray} (h1 : a = b → LW P ops Q n ds rest (E.put d (.bool true)) w) (h2 : a ≠ b → LW P ops Q n ds rest (E.put d (.bool false)) w) (hg : gd ops E g = some true := by rfl) (hd : dok n d = true := by rfl) (hx : ev E x = some (.string a) := by rfl) (hy : ev E y = some (.string b) := by rfl) :
    LW P ops Q n ds (⟨d, .binOp .eql t x y u, ty, pos, aft, g⟩ :: rest) E w := s_eqS_split hg hd hx hy h1 h2
theorem Z3 {t u : TypeId} {x y : Operand} {a b : ByteArray} (h1 : a ≠ b → LW P ops Q n ds rest (E.put d (.bool true)) w) (h2 : a = b → LW P ops Q n ds rest (E.put d (.bool false)) w) (hg : gd ops E g = some true := by rfl) (hd : dok n d = true := by rfl) (hx : ev E x = some (.string a) := by rfl) (hy : ev E y = some (.string b) := by rfl) :
    LW P ops Q n ds (⟨d, .binOp .neq t x y u, ty, pos, aft, g⟩ :: rest) E w := s_neS_split hg hd hx hy h1 h2
/-! what an operation yields, for drawn regions -/
theorem D0 {op : BinOp} {t u : TypeId} {x y : Operand} {k : IntKind} {a b : Int} {p : Prop} [Decidable p] (hx : ev E x = some (.int k a) := by rfl) (hy : ev E y = some (.int k b) := by rfl) (hr : cmpI op a b = some (decide p) := by rfl) (hp : p := by omega) :
    Yld P n ds E w ⟨d, .binOp op t x y u, ty, pos, aft, g⟩ (.bool true) := y_cmpI hx hy (hr.trans (congrArg some (decide_eq_true hp)))
theorem D1 {op : BinOp} {t u : TypeId} {x y : Operand} {k : IntKind} {a b : Int} {p : Prop} [Decidable p] (hx : ev E x = some (.int k a) := by rfl) (hy : ev E y = some (.int k b) := by rfl) (hr : cmpI op a b = some (decide p) := by rfl) (hp : ¬ p := by omega) :
    Yld P n ds E w ⟨d, .binOp op t x y u, ty, pos, aft, g⟩ (.bool false) := y_cmpI hx hy (hr.trans (congrArg some (decide_eq_false hp)))
theorem D2 {op : BinOp} {t u : TypeId} {x y : Operand} {k : IntKind} {a b : Int} {p : Prop} [Decidable p] (hx : ev E x = some (.int k a) := by rfl) (hy : ev E y = some (.int k b) := by rfl) (hr : cmpI op a b = some (!decide p) := by rfl) (hp : p := by omega) :
    Yld P n ds E w ⟨d, .binOp op t x y u, ty, pos, aft, g⟩ (.bool false) := y_cmpI hx hy (hr.trans (congrArg (fun b => some (!b)) (decide_eq_true hp)))
theorem D3 {op : BinOp} {t u : TypeId} {x y : Operand} {k : IntKind} {a b : Int} {p : Prop} [Decidable p] (hx : ev E x = some (.int k a) := by rfl) (hy : ev E y = some (.int k b) := by rfl) (hr : cmpI op a b = some (!decide p) := by rfl) (hp : ¬ p := by omega) :
    Yld P n ds E w ⟨d, .binOp op t x y u, ty, pos, aft, g⟩ (.bool true) := y_cmpI hx hy (hr.trans (congrArg (fun b => some (!b)) (decide_eq_false hp)))
theorem D4 {op : BinOp} {t u : TypeId} {x y : Operand} {a b r : Int} (hx : ev E x = some (.int .i64 a) := by rfl) (hy : ev E y = some (.int .i64 b) := by rfl) (hr : arith op a b = some r := by rfl) (h1 : -9223372036854775808 ≤ r := by omega) (h2 : r ≤ 9223372036854775807 := by omega) :
    Yld P n ds E w ⟨d, .binOp op t x y u, ty, pos, aft, g⟩ (.int .i64 r) := y_arith hx hy hr (w64 h1 h2)
theorem D5 {k : Ctx} {l : List HP} {t : TypeId} {x : Operand} {b o : Nat} {T : TypeId} {vs : List Value} {v : Value} {L : HP → List HP} (hO : Own k w l) (hx : ev E x = some (.pointer (some ⟨b, o, none⟩))) [hl : Lay P t false 1] [ha : AtB l b T vs L] (hv : vs[o]? = some v := by rfl) :
    Yld P n ds E w ⟨d, .load t x, ty, pos, aft, g⟩ v := by
  obtain ⟨m, hm⟩ := ha.self
  exact y_load1 hx (hO.holds hm (.ofBlk1 hv))
theorem D6 {t : TypeId} [hu : Und P t .string] {x y : Operand} {s : ByteArray} {i : Int} {kd : IntKind} {c : UInt8} (hx : ev E x = some (.string s) := by rfl) (hy : ev E y = some (.int kd i) := by rfl)
    (h0 : 0 ≤ i := by omega) (hc : s.data.toList[i.toNat]? = some c := by assumption) : Yld P n ds E w ⟨d, .index t x y, ty, pos, aft, g⟩ (.int .u8 c.toNat) := y_indexS hx hy h0 hc
theorem D7 {s t : TypeId} {dd : TypeDesc} {kd' : IntKind} [hs : Und P s dd] [ht : Und P t (.int .i64)] {x : Operand} {i : Int} (hx : ev E x = some (.int kd' i) := by rfl) (h1 : -9223372036854775808 ≤ i := by omega) (h2 : i ≤ 9223372036854775807 := by omega) :
    Yld P n ds E w ⟨d, .convert s t x, ty, pos, aft, g⟩ (.int .i64 i) := y_convI hx (w64 h1 h2)
theorem D8 {k : Ctx} {l : List HP} {t : TypeId} {m : Nat} {x : Operand} {b o : Nat} {T : TypeId} {vs cs : List Value} {L : HP → List HP} (hO : Own k w l) (hx : ev E x = some (.pointer (some ⟨b, o, none⟩))) [hl : Lay P t true m] [ha : AtB l b T vs L] (hv : (vs.drop o).take m = cs := by rfl) (hm : cs.length = m := by rfl) :
    Yld P n ds E w ⟨d, .load t x, ty, pos, aft, g⟩ (.agg cs.toArray) := by
  obtain ⟨q, hq⟩ := ha.self
  exact y_loadA hx hm (hO.holds hq (.ofBlkA m hv))
/-- to see where a walk stands: 'refine dbg ?_' -/
structure Dbg (o : Oper) (E : Env) : Prop where
  no : False
theorem dbg {o : Oper} (h : Dbg o E) : LW P ops Q n ds (o :: rest) E w := h.no.elim
theorem dbgc {c : Code} (h : False) : CW P Q n ds c E w := h.elim
theorem dbgd {lo : List Oper} {S : World → Prop} {j : Nat} {o : Oper} (h : Dbg o E) : DL P lo Q n ds S j (o :: rest) E w := h.no.elim
end
end Go.Hb
