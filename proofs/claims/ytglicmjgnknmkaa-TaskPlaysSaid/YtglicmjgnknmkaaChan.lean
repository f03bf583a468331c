/- Channels with a buffer, in one goroutine: what they hold is owned; a select of one case with a default is one step. -/
import Derived.Test.YtglicmjgnknmkaaHb
import Derived.Conc.LoneSelect
import Derived.Conc.LoneSelectN
import Derived.Conc.SmallLaws
set_option linter.unusedVariables false
set_option linter.unusedSimpArgs false
namespace Go.Hb
open Go Go.RowKit Go.Conc

/-- an open channel of room cap that holds xs -/
def chn (c cap : Nat) (xs : List Value) : HP := fun h => ∃ s r, h c = some (.chan cap xs.toArray false s r false)

/-! Code in an ordinary frame -/
def WN (P : Program) (c : Code) (Q : Exit → Act → World → Prop) (a : Act) (w : World) : Prop :=
  ∀ (b : Frame) (k : List Item) (cs : List Frame), b.kind ≠ .early → ∃ e a' w', Q e a' w' ∧ Arrives P (lone (b.at a (.code c :: k)) cs w) b k cs e a' w'
section
variable {P : Program} {Q : Exit → Act → World → Prop} {a : Act} {w : World}
theorem WN.of {c : Code} (h : c.wp P Q a w) : WN P c Q a w := fun b k cs _ => h b k cs
theorem WN.seq {x y : Code} (h : WN P x (Exit.then (WN P y Q) Q) a w) : WN P (.seq x y) Q a w := by
  intro b k cs hk
  obtain ⟨e, a₁, w₁, hq, harr⟩ := h b (.code y :: k) cs hk
  cases e with
  | normal =>
    obtain ⟨e₂, a₂, w₂, hq₂, harr₂⟩ := hq b k cs hk
    exact ⟨e₂, a₂, w₂, hq₂, .of_steps (.head step_seq harr) harr₂⟩
  | exit id => exact ⟨_, a₁, w₁, hq, .of_steps (.one step_seq) (.pass (x := .code y) rfl (fun _ _ => .inl (by simp)) harr)⟩
  | goto l => exact ⟨_, a₁, w₁, hq, .of_steps (.one step_seq) (.pass (x := .code y) rfl (fun _ _ => .inl (by simp)) harr)⟩
  | ret => exact ⟨_, a₁, w₁, hq, .of_steps (.one step_seq) (.pass (x := .code y) rfl (fun _ _ => .inl (by simp)) harr)⟩
  | panic ch => exact ⟨_, a₁, w₁, hq, .of_steps (.one step_seq) (.pass (x := .code y) rfl (fun _ _ => .inl (by simp)) harr)⟩
  | outgrown => exact ⟨_, a₁, w₁, hq, .of_steps (.one step_seq) (.pass (x := .code y) rfl (fun _ _ => .inl (by simp)) harr)⟩
/-- a region whose first operation is a communication -/
theorem WN.comm {id : Nat} {o : Oper} {rest : List Oper} {cases : Array CommCase} {blocking : Bool} {shape : CommShape} {v : Value} {w' : World} (hw : Region.wanted o (yielded (o :: rest).toArray a.tmps) = true)
    (hr : (execOp a.eval o).run P w = .ok (.comm cases blocking shape) w)
    (hs : ∀ fr cs es, stepG P true (G fr cs) w = .comm (G fr cs) cases blocking shape w es → step P (solo (G fr cs) w) = .next (solo (G (fr.finish v) cs) w'))
    (h : wpList P (o :: rest).toArray Q rest (a.put o.dst v) w') : WN P (.region id (o :: rest).toArray false) Q a w := by
  intro b k cs hk
  have hl : List.range (o :: rest).toArray.size = 0 :: List.range' 1 rest.length := by
    simp [List.range_eq_range', List.range'_succ]
  have h1 := hs _ cs _ (stepG_comm (P := P) (main := true) (b := b) (a := a) (k := k) (cs := cs) (ops := (o :: rest).toArray) (i := 0) (rest := List.range' 1 rest.length) (o := o) (w := w) (by simp) hw hk hr)
  rw [Frame.finish_at] at h1
  have h2 : wpOps P (o :: rest).toArray Q (List.range' 1 rest.length) (a.put o.dst v) w' := by
    rw [wpOps_eq_wpList rest 1 (fun j => by simp [Nat.add_comm 1 j])]
    exact h
  obtain ⟨e, a', w2, q, r⟩ := wp_ops _ _ _ h2 b k cs
  refine ⟨e, a', w2, q, .of_steps (.head step_region ?_) r⟩
  rw [hl]
  exact .one h1
theorem calls_of_WN {f : FuncId} {fn : Func} {c : Code} {args : Array Value} {R : Ending → World → Prop}
    (hf : P.funcs[f]? = some fn) (hb : fn.body = some c)
    (h : WN P c (bodyPost P fn R) { tmps := args ++ Array.replicate (fn.ntmps - args.size) undef, defers := [] } w) :
    Calls P f args w R := by
  intro cs
  let b : Frame := { (default : Frame) with fn := f, kind := .normal }
  have henter : Frame.enter P f args .normal =
      b.at { tmps := args ++ Array.replicate (fn.ntmps - args.size) undef, defers := [] } [.code c] := by
    simp [Frame.enter, Frame.at, hf, hb, b]
  obtain ⟨e, a', w', hq, harr⟩ := h b [] cs (by simp [b])
  rw [← henter] at harr
  cases e with
  | normal =>
    obtain ⟨hd, v, hr, hR⟩ := hq
    exact ⟨.returned v, w', _, hR, Steps.trans harr (.one step_end), rfl, rfl, hd, rfl, fn, hf, hr⟩
  | ret =>
    obtain ⟨hd, v, hr, hR⟩ := hq
    obtain ⟨todo, hs⟩ := harr
    exact ⟨.returned v, w', _, hR, hs, rfl, rfl, hd, rfl, fn, hf, hr⟩
  | panic chain =>
    obtain ⟨hd, hR⟩ := hq
    obtain ⟨todo, hs⟩ := harr
    exact ⟨.panicked chain, w', _, hR, hs, rfl, rfl, hd, fn, hf⟩
  | exit id => exact hq.elim
  | goto l => exact hq.elim
  | outgrown => exact ⟨.outgrown, w', b, hq, harr.resolve_left (by simp [b]), rfl, trivial⟩
end
section
variable {P : Program} {ops : Array Oper} {Q : Exit → Act → World → Prop} {n : Nat} {ds : List Deferred} {E E' : Env} {w w' : World}
variable {rest : List Oper} {d : Option Tmp} {ty : TypeId} {pos : String} {aft : Array Edge} {g : Option (Nat × Bool)}
variable {k : Ctx} {l l' : List HP} {A A' : HP}
def NW (P : Program) (Q : Exit → Act → World → Prop) (n : Nat) (ds : List Deferred) (c : Code) (E : Env) (w : World) : Prop := ∀ a, Fits n ds E a → WN P c Q a w
theorem n_of {c : Code} (h : CW P Q n ds c E w) : NW P Q n ds c E w := fun a ha => .of (h a ha)
theorem n_seq {x y : Code} (h : NW P (Exit.then (WN P y Q) Q) n ds x E w) : NW P Q n ds (.seq x y) E w := fun a ha => WN.seq (h a ha)
theorem n_normal {y : Code} (h : NW P Q n ds y E w) : QW (Exit.then (WN P y Q) Q) n ds .normal E w := fun a ha => h a ha
theorem enterN {f : FuncId} {fn : Func} {c : Code} {args : List Value} {T : Value → World → Prop} (hf : P.funcs[f]? = some fn) (hb : fn.body = some c) (hn : Nat.ble args.length fn.ntmps = true)
    (h : NW P (bodyPost P fn fun e w' => ∃ v, e = .returned v ∧ T v w') fn.ntmps [] c ((args.zipIdx 0).map fun p => (p.2, p.1)) w) : Ret P f args.toArray w T :=
  calls_of_WN hf hb (by simpa using h _ (Fits.start args fn.ntmps (Nat.le_of_ble_eq_true hn)))
theorem chn_open {c cap : Nat} {xs : List Value} (hO : Own k w (chn c cap xs :: l)) : ∃ s r, Own k w (obj c (.chan cap xs.toArray false s r false) :: l) := by
  obtain ⟨s, h⟩ := Own.ex hO
  obtain ⟨r, h⟩ := Own.ex h
  exact ⟨s, r, h.tell fun _ h => h⟩
/-- select { case c <- x: .. default: .. } -/
theorem n_send {id : Nat} {t : TypeId} {z : Value} [hz : Zer P t z] {x y : Operand} {c cap : Nat} {v : Value} {xs : List Value} (hO : Own k w l) (hp : Pull l (chn c cap xs) l') (hg : gd (⟨d, .select #[⟨x, some y, t⟩] false, ty, pos, aft, g⟩ :: rest).toArray E g = some true) (hd : dok n d = true)
    (hx : ev E x = some (.chan (some c))) (hy : ev E y = some v)
    (h1 : xs.length < cap → ∀ w', Own k w' (chn c cap (xs ++ [v]) :: l') → LW P (⟨d, .select #[⟨x, some y, t⟩] false, ty, pos, aft, g⟩ :: rest).toArray Q n ds rest (E.put d (.tuple #[.int .i64 0, .bool false])) w')
    (h2 : ¬ xs.length < cap → ∀ w', Own k w' (chn c cap xs :: l') → LW P (⟨d, .select #[⟨x, some y, t⟩] false, ty, pos, aft, g⟩ :: rest).toArray Q n ds rest (E.put d (.tuple #[.int .i64 (-1), .bool false])) w') :
    NW P Q n ds (.region id (⟨d, .select #[⟨x, some y, t⟩] false, ty, pos, aft, g⟩ :: rest).toArray false) E w := by
  intro a ha
  have hO' := hO.pull hp
  obtain ⟨s, r, hO2⟩ := chn_open hO'
  have hb : w.heap[c]? = some (.chan cap xs.toArray false s r false) := hO2.heap fun hp hA hw => (hw c _ hA).2
  have hr : (execOp a.eval ⟨d, .select #[⟨x, some y, t⟩] false, ty, pos, aft, g⟩).run P w = .ok (.comm #[scase c v z] false .select) w := by
    simp [execOp, ha.eval hx, ha.eval hy, hz.run, scase]
  by_cases hlt : xs.length < cap
  · refine WN.comm (o := ⟨d, .select #[⟨x, some y, t⟩] false, ty, pos, aft, g⟩) (gd_sound ha hg) hr (fun fr cs es h => step_lone_select_send_room h hb (by simpa using hlt)) (h1 hlt _ ?_ _ (ha.put hd _))
    obtain ⟨w2, e, _, hO3⟩ := hO2.setObj (o' := .chan cap (xs.toArray.push v) false (s + 1) r false)
    have : w2 = w.setChan c cap (xs.toArray.push v) false (s + 1) r false := e
    rw [← this]
    exact hO3.tell fun h hA => ⟨s + 1, r, by simpa [obj] using hA⟩
  · exact WN.comm (o := ⟨d, .select #[⟨x, some y, t⟩] false, ty, pos, aft, g⟩) (gd_sound ha hg) hr (fun fr cs es h => step_lone_select_send_full h hb (by simpa using Nat.le_of_not_lt hlt)) (h2 hlt _ hO' _ (ha.put hd _))
/-- select { case x := <-c: .. default: .. } -/
theorem n_recv {id : Nat} {t : TypeId} {z : Value} [hz : Zer P t z] {x : Operand} {c cap : Nat} {xs : List Value} (hO : Own k w l) (hp : Pull l (chn c cap xs) l') (hg : gd (⟨d, .select #[⟨x, none, t⟩] false, ty, pos, aft, g⟩ :: rest).toArray E g = some true) (hd : dok n d = true)
    (hx : ev E x = some (.chan (some c)))
    (h1 : ∀ v ys, xs = v :: ys → ∀ w', Own k w' (chn c cap ys :: l') → LW P (⟨d, .select #[⟨x, none, t⟩] false, ty, pos, aft, g⟩ :: rest).toArray Q n ds rest (E.put d (.tuple #[.int .i64 0, .bool true, v])) w')
    (h2 : xs = [] → ∀ w', Own k w' (chn c cap xs :: l') → LW P (⟨d, .select #[⟨x, none, t⟩] false, ty, pos, aft, g⟩ :: rest).toArray Q n ds rest (E.put d (.tuple #[.int .i64 (-1), .bool false, z])) w') :
    NW P Q n ds (.region id (⟨d, .select #[⟨x, none, t⟩] false, ty, pos, aft, g⟩ :: rest).toArray false) E w := by
  intro a ha
  have hO' := hO.pull hp
  obtain ⟨s, r, hO2⟩ := chn_open hO'
  have hb : w.heap[c]? = some (.chan cap xs.toArray false s r false) := hO2.heap fun hp hA hw => (hw c _ hA).2
  have hr : (execOp a.eval ⟨d, .select #[⟨x, none, t⟩] false, ty, pos, aft, g⟩).run P w = .ok (.comm #[rcase c z] false .select) w := by
    simp [execOp, ha.eval hx, hz.run, rcase]
  cases xs with
  | nil => exact WN.comm (o := ⟨d, .select #[⟨x, none, t⟩] false, ty, pos, aft, g⟩) (gd_sound ha hg) hr (fun fr cs es h => step_lone_select_default h hb) (h2 rfl _ hO' _ (ha.put hd _))
  | cons v ys =>
    refine WN.comm (o := ⟨d, .select #[⟨x, none, t⟩] false, ty, pos, aft, g⟩) (v := .tuple #[.int .i64 0, .bool true, v]) (gd_sound ha hg) hr (fun fr cs es h => by
      have := step_lone_select_recv_buf h hb (by simp)
      simpa [goInt] using this) (h1 v ys rfl _ ?_ _ (ha.put hd _))
    obtain ⟨w2, e, _, hO3⟩ := hO2.setObj (o' := .chan cap ys.toArray false s (r + 1) false)
    rw [show w.setChan c cap ys.toArray false s (r + 1) false = w2 from e.symm]
    exact hO3.tell fun h hA => ⟨s, r + 1, by simpa [obj] using hA⟩
theorem s_makeChan {t e : TypeId} {dir : ChanDir} {sz bytes : Nat} {z : Value} [hu : Und P t (.chan dir e)] [he : Elt P e sz bytes z] {m : Nat} {kd : IntKind} {x : Operand} (hO : Own k w l) (hg : gd ops E g = some true) (hd : dok n d = true) (hx : ev E x = some (.int kd (m : Nat))) (hm : m ≤ 100000) (hb : bytes ≤ 100000)
    (h : ∀ b w', Own k w' (chn b m [] :: l) → LW P ops Q n ds rest (E.put d (.chan (some b))) w') : LW P ops Q n ds (⟨d, .makeChan t x, ty, pos, aft, g⟩ :: rest) E w := by
  obtain ⟨i, hi, hi2, hi3, hi4⟩ := he.info
  have hmul : bytes * m ≤ 100000 * 100000 := Nat.mul_le_mul hb hm
  have hr := run_makeChan (P := P) (w := w) hu.eq hi kd m (by omega) (by rw [hi3, ← Int.natCast_mul]; omega)
  refine l_val (o := ⟨d, .makeChan t x, ty, pos, aft, g⟩) (w' := w.alloc (.chan m #[] false 0 0 false)) hg hd (fun c hc => by simp [execOp, hc.eval hx, hr]) (h w.heap.size _ ?_)
  exact (hO.obj_alloc _).tell fun h hA => ⟨0, 0, hA⟩
theorem y_lenC {t e : TypeId} {dir : ChanDir} [hu : Und P t (.chan dir e)] {x : Operand} {c cap : Nat} {xs : List Value} (hO : Own k w l) (hp : Pull l (chn c cap xs) l') (hx : ev E x = some (.chan (some c))) : Yld P n ds E w ⟨d, .call ⟨.builtin .len, #[x], #[t]⟩, ty, pos, aft, g⟩ (.int .i64 xs.length) := by
  obtain ⟨s, r, hO2⟩ := chn_open (hO.pull hp)
  have hb : w.heap[c]? = some (.chan cap xs.toArray false s r false) := hO2.heap fun hp hA hw => (hw c _ hA).2
  exact y_built (xs := [x]) (vs := [.chan (some c)]) (by simp [evl, hx]) (fun cs => by
    have := run_len_chan (P := P) t ty hu.eq hb
    simp [builtin, this, goInt])
end
end Go.Hb
