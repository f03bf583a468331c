/- Steps over a program and the memory that a run owns; nothing is asked of the program. -/
import Derived.Test.YtoohapbaelmkcaaGreatHb
import Derived.RangeFuncLeaves
import Derived.RangeFuncRecord
import Derived.Laws.StructEq
import Derived.ScopeJumps
import Derived.Defers
import Derived.MapKept
/- Slices by their address; parts found by name; calls; what stays as it is. -/
set_option linter.unusedVariables false
set_option linter.unusedSimpArgs false
namespace Go.Hb
open Go Go.RowKit

/-! ### 30. Elements of lists -/
def at_ {α : Type} [Inhabited α] (xs : List α) (i : Nat) : α := xs.getD i default
section
variable {α β : Type} [Inhabited α] [Inhabited β]
theorem at_get {xs : List α} {i : Nat} (h : i < xs.length) : xs[i]? = some (at_ xs i) := by
  simp [at_, List.getD_eq_getElem?_getD, List.getElem?_eq_getElem h]
theorem at_eq {xs : List α} {i : Nat} {x : α} (h : xs[i]? = some x) : at_ xs i = x := by
  simp [at_, List.getD_eq_getElem?_getD, h]
theorem at_mem {xs : List α} {i : Nat} (h : i < xs.length) : at_ xs i ∈ xs := List.mem_of_getElem? (at_get h)
theorem at_set_eq {xs : List α} {i : Nat} (h : i < xs.length) (x : α) : at_ (xs.set i x) i = x := at_eq (by simp [h])
theorem at_set_ne {xs : List α} {i j : Nat} (h : i ≠ j) (x : α) : at_ (xs.set i x) j = at_ xs j := by
  simp [at_, List.getD_eq_getElem?_getD, List.getElem?_set_ne h]
theorem at_set {xs : List α} {i j : Nat} (h : i < xs.length) (x : α) : at_ (xs.set i x) j = if i = j then x else at_ xs j := by
  by_cases e : i = j
  · subst e; rw [if_pos rfl, at_set_eq h]
  · rw [if_neg e, at_set_ne e]
theorem at_app_l {xs ys : List α} {i : Nat} (h : i < xs.length) : at_ (xs ++ ys) i = at_ xs i := by
  simp [at_, List.getD_eq_getElem?_getD, List.getElem?_append_left h]
theorem at_app_r {xs ys : List α} {i : Nat} (h : xs.length ≤ i) : at_ (xs ++ ys) i = at_ ys (i - xs.length) := by
  simp [at_, List.getD_eq_getElem?_getD, List.getElem?_append_right h]
theorem at_app_new {xs : List α} {x : α} : at_ (xs ++ [x]) xs.length = x := at_eq (by simp)
theorem at_map {f : α → β} {xs : List α} {i : Nat} (h : i < xs.length) : at_ (xs.map f) i = f (at_ xs i) := at_eq (by simp [at_get h])
theorem at_cons_zero {x : α} {xs : List α} : at_ (x :: xs) 0 = x := rfl
theorem at_cons_succ {x : α} {xs : List α} {i : Nat} : at_ (x :: xs) (i + 1) = at_ xs i := by simp [at_]
theorem at_drop {xs : List α} {i j : Nat} : at_ (xs.drop i) j = at_ xs (i + j) := by simp [at_, List.getD_eq_getElem?_getD]
theorem at_take {xs : List α} {i j : Nat} (h : j < i) : at_ (xs.take i) j = at_ xs j := by simp [at_, List.getD_eq_getElem?_getD, h]
theorem at_ext {xs ys : List α} (hl : xs.length = ys.length) (h : ∀ i, i < xs.length → at_ xs i = at_ ys i) : xs = ys := by
  apply List.ext_getElem? ; intro i
  by_cases hi : i < xs.length
  · rw [at_get hi, at_get (by omega), h i hi]
  · rw [List.getElem?_eq_none (by omega), List.getElem?_eq_none (by omega)]
theorem set_at {xs : List α} {i : Nat} (h : i < xs.length) : xs.set i (at_ xs i) = xs := by
  apply at_ext (by simp)
  intro j hj
  rw [at_set h]; split
  · next e => rw [e]
  · rfl
theorem mem_at {xs : List α} {x : α} (h : x ∈ xs) : ∃ i, i < xs.length ∧ at_ xs i = x := by
  obtain ⟨i, hi⟩ := List.getElem?_of_mem h
  exact ⟨i, (List.getElem?_eq_some_iff.1 hi).1, at_eq hi⟩
theorem take_succ_at {xs : List α} {i : Nat} (h : i < xs.length) : xs.take (i + 1) = xs.take i ++ [at_ xs i] := by
  rw [List.take_add_one, at_get h]; rfl
theorem drop_at {xs : List α} {i : Nat} (h : i < xs.length) : xs.drop i = at_ xs i :: xs.drop (i + 1) := by
  rw [List.drop_eq_getElem_cons h]
  congr 1
  exact (at_eq (List.getElem?_eq_getElem h)).symm
end

/-! ### 31. Places within a slice -/
def adr (p : Option Addr) (j : Nat) : Addr := match p with
  | some a => ⟨a.block, a.off + j, none⟩
  | none => ⟨0, j, none⟩
def Gs (p : Option Addr) (n : Nat) : Prop := 0 < n → ∃ b o, p = some ⟨b, o, none⟩
theorem Gs.zero (p : Option Addr) : Gs p 0 := fun h => by omega
theorem Gs.some (b o n : Nat) : Gs (some ⟨b, o, none⟩) n := fun _ => ⟨b, o, rfl⟩
theorem adr_add (p : Option Addr) (i j : Nat) : (adr p i).add j = adr p (i + j) := by
  cases p <;> simp [adr, Addr.add_lit, Nat.add_assoc]
theorem adr_none (p : Option Addr) (i : Nat) : (adr p i).spot = none := by cases p <;> rfl
/-- what a value of a type looks like, cell by cell, where one cell is written -/
class FUpd {α : Type} (enc : α → List Value) (x : Nat) (v : Value) (u : outParam (α → α)) : Prop where
  eq : ∀ a, (enc a).set x v = enc (u a)
  lt : ∀ a, x < (enc a).length
def eI (kd : IntKind) (x : Int) : List Value := [.int kd x]
def eS (s : ByteArray) : List Value := [.string s]
instance (kd : IntKind) (n : Int) : FUpd (eI kd) 0 (.int kd n) (fun _ => n) := ⟨fun _ => rfl, fun _ => by simp [eI]⟩
instance (s : ByteArray) : FUpd eS 0 (.string s) (fun _ => s) := ⟨fun _ => rfl, fun _ => by simp [eS]⟩
/-! ### 32. Slices that are owned -/
def sls (p : Option Addr) (c : Nat) (T : TypeId) (sz : Nat) {α : Type} (enc : α → List Value) (xs : List α) : HP := sl (.slice p xs.length c) T sz (xs.map enc)
theorem sls_own {k : Ctx} {w : World} {l : List HP} {p : Option Addr} {c : Nat} {T : TypeId} {sz : Nat} {α : Type} {enc : α → List Value} {xs : List α} (hO : Own k w (sls p c T sz enc xs :: l)) : Own k w (sl (.slice p (xs.map enc).length c) T sz (xs.map enc) :: l) := by
  rw [List.length_map]; exact hO
theorem sls_mk {k : Ctx} {w : World} {l : List HP} {p : Option Addr} {n c : Nat} {T : TypeId} {sz : Nat} {α : Type} {enc : α → List Value} {xs : List α} {rows : List (List Value)} (hO : Own k w (sl (.slice p n c) T sz rows :: l)) (hn : n = xs.length) (hr : rows = xs.map enc) : Own k w (sls p c T sz enc xs :: l) := by
  subst hn hr; exact hO
theorem sls_len {k : Ctx} {w : World} {l : List HP} {p : Option Addr} {n c : Nat} {T : TypeId} {sz : Nat} {rows : List (List Value)} (hO : Own k w (sl (.slice p n c) T sz rows :: l)) : n = rows.length ∧ n ≤ c ∧ Gs p n := hO.fact fun h hA => by
  rcases hA with ⟨he, rfl⟩ | ⟨b, o, cap, he, hA⟩
  · cases he; exact ⟨rfl, Nat.le_refl _, Gs.zero _⟩
  · cases he
    obtain ⟨_, _, _, _, _, h4, _⟩ := hA
    exact ⟨rfl, h4, Gs.some _ _ _⟩
class AtP (l : List HP) (p : Option Addr) (T : outParam TypeId) (α : outParam Type) (c sz : outParam Nat) (enc : outParam (α → List Value)) (xs : outParam (List α)) (L : outParam (HP → List HP)) : Prop where
  nth : ∀ A', Nth l (sls p c T sz enc xs) A' (L A')
instance (priority := high) AtP.hd (p : Option Addr) (T : TypeId) (α : Type) (c sz : Nat) (enc : α → List Value) (xs : List α) (l : List HP) : AtP (sls p c T sz enc xs :: l) p T α c sz enc xs (fun A => A :: l) := ⟨fun A' => .hd _ A' l⟩
instance AtP.tl (p : Option Addr) (T : TypeId) (α : Type) (c sz : Nat) (enc : α → List Value) (xs : List α) (l : List HP) (C : HP) (L : HP → List HP) [h : AtP l p T α c sz enc xs L] : AtP (C :: l) p T α c sz enc xs (fun A => C :: L A) := ⟨fun A' => .tl C (h.nth A')⟩
instance AtP.app (p : Option Addr) (T : TypeId) (α : Type) (c sz : Nat) (enc : α → List Value) (xs : List α) (m l : List HP) (C : HP) (L : HP → List HP) [h : AtP (C :: (m ++ l)) p T α c sz enc xs L] : AtP ((C :: m) ++ l) p T α c sz enc xs L := h
instance AtP.app0 (p : Option Addr) (T : TypeId) (α : Type) (c sz : Nat) (enc : α → List Value) (xs : List α) (l : List HP) (L : HP → List HP) [h : AtP l p T α c sz enc xs L] : AtP ([] ++ l) p T α c sz enc xs L := h
theorem AtP.self {l : List HP} {p : Option Addr} {T : TypeId} {α : Type} {c sz : Nat} {enc : α → List Value} {xs : List α} {L : HP → List HP} (h : AtP l p T α c sz enc xs L) : ∃ m, Nth l (sls p c T sz enc xs) (sls p c T sz enc xs) m := ⟨_, h.nth _⟩
theorem Has.sls {p : Option Addr} {c sz i x : Nat} {T : TypeId} {α : Type} [Inhabited α] {enc : α → List Value} {xs : List α} {cs : List Value} (hi : i < xs.length) (h : ∀ j v, cs[j]? = some v → (enc (at_ xs i))[x + j]? = some v) : Has (sls p c T sz enc xs) (adr p (i * sz + x)) cs :=
  ⟨adr_none _ _, fun hp hA => by
    rcases hA with ⟨he, h0⟩ | ⟨b, o, cap, he, hA⟩
    · have : xs = [] := by simpa using h0
      subst this; simp at hi
    · injection he with e1 e2 e3
      subst e1 e3
      exact (Has.ofArr (i := i) (x := x) (r := enc (at_ xs i)) (by simp [at_get hi]) h).2 hp hA⟩
theorem Has.sls1 {p : Option Addr} {c sz i x : Nat} {T : TypeId} {α : Type} [Inhabited α] {enc : α → List Value} {xs : List α} {v : Value} (hi : i < xs.length) (h : (enc (at_ xs i))[x]? = some v) : Has (Hb.sls p c T sz enc xs) (adr p (i * sz + x)) [v] :=
  Has.sls hi fun j u hu => by
    cases j with
    | zero => simp at hu; subst hu; simpa using h
    | succ j => simp at hu
theorem Has.slsA {p : Option Addr} {c sz i x : Nat} {T : TypeId} {α : Type} [Inhabited α] {enc : α → List Value} {xs : List α} {cs : List Value} (n : Nat) (hi : i < xs.length) (h : ((enc (at_ xs i)).drop x).take n = cs) : Has (Hb.sls p c T sz enc xs) (adr p (i * sz + x)) cs :=
  Has.sls hi fun j v hv => by
    subst h
    rw [List.getElem?_take] at hv
    split at hv
    · simpa using hv
    · cases hv
theorem Has.slsW {p : Option Addr} {b o c sz : Nat} {T : TypeId} {α : Type} {enc : α → List Value} {xs : List α} (hp : p = some ⟨b, o, none⟩) : Has (Hb.sls p c T sz enc xs) ⟨b, o, none⟩ (xs.map enc).flatten :=
  ⟨rfl, fun h hA => by
    subst hp
    rcases hA with ⟨he, h0⟩ | ⟨b', o', cap, he, hA⟩
    · cases he
    · injection he with e1 e2 e3
      cases e1; subst e3
      exact Has.whole.2 h hA⟩
theorem Upd.sls {p : Option Addr} {c sz i x : Nat} {T : TypeId} {α : Type} [Inhabited α] {enc : α → List Value} {xs : List α} {vs : List Value} {y : α} (hi : i < xs.length) (hx : x + vs.length ≤ (enc (at_ xs i)).length) (h : splice (enc (at_ xs i)) x vs = enc y) (hg : Gs p xs.length) :
    Upd (Hb.sls p c T sz enc xs) (adr p (i * sz + x)).block (adr p (i * sz + x)).off vs (Hb.sls p c T sz enc (xs.set i y)) := by
  obtain ⟨b, o, rfl⟩ := hg (by omega)
  show Upd _ b (o + (i * sz + x)) vs _
  have hu := Upd.ofArr (b := b) (o := o) (cap := c) (T := T) (sz := sz) (rows := xs.map enc) (i := i) (x := x) (r := enc (at_ xs i)) (vs := vs) (by simp [at_get hi]) hx h
  have key : ∀ h, Hb.sls (some ⟨b, o, none⟩) c T sz enc xs h → arr b o c T sz (xs.map enc) h := fun h hA => by
    rcases hA with ⟨he, h0⟩ | ⟨b', o', cap, he, hA⟩
    · cases he
    · injection he with e1 e2 e3
      cases e1; subst e3; exact hA
  refine ⟨fun h hA => hu.1 h (key h hA), fun h hA => ?_⟩
  obtain ⟨c', T', h1, h2, h3⟩ := hu.2 h (key h hA)
  refine ⟨c', T', h1, h2, .inr ⟨b, o, c, by simp, ?_⟩⟩
  rw [List.map_set]
  exact h3

section
variable {P : Program} {ops : Array Oper} {Q : Exit → Act → World → Prop} {n : Nat} {ds : List Deferred} {E E' : Env} {w w' : World}
variable {rest : List Oper} {d : Option Tmp} {ty : TypeId} {pos : String} {aft : Array Edge} {g : Option (Nat × Bool)}
variable {k : Ctx} {l l' : List HP} {A A' : HP}
theorem y_idx {t e : TypeId} {agg : Bool} {sz : Nat} [hu : Und P t (.slice e)] [hl : Lay P e agg sz] {x y : Operand} {p : Option Addr} {m c : Nat} {i : Int} {kd : IntKind} (hx : ev E x = some (.slice p m c)) (hy : ev E y = some (.int kd i)) (hp : Gs p m := by assumption) (h0 : 0 ≤ i := by omega) (h1 : i < m := by omega) :
    Yld P n ds E w ⟨d, .indexAddr t x y, ty, pos, aft, g⟩ (.pointer (some (adr p (i.toNat * sz + 0)))) :=
  ⟨fun a ha => by
    obtain ⟨b, o, rfl⟩ := hp (by omega)
    simp [execOp, ha.eval hx, ha.eval hy, Instr.indexAt, asIntOf, run_underlying hu.eq, h0, h1, hl.size, Addr.add_lit, adr]⟩
theorem y_fld {s : TypeId} {f off : Nat} [hf : Fld P s f off] {x : Operand} {p : Option Addr} {i j j' : Nat} (hx : ev E x = some (.pointer (some (adr p (i + j))))) (hj : j + off = j' := by rfl) :
    Yld P n ds E w ⟨d, .fieldAddr s x f, ty, pos, aft, g⟩ (.pointer (some (adr p (i + j')))) :=
  ⟨fun a ha => by subst hj; simp [execOp, ha.eval hx, hf.run, adr_add, Nat.add_assoc]⟩
theorem y_fldb {s : TypeId} {f off : Nat} [hf : Fld P s f off] {x : Operand} {b o o' : Nat} (hx : ev E x = some (.pointer (some ⟨b, o, none⟩))) (hj : o + off = o' := by rfl) :
    Yld P n ds E w ⟨d, .fieldAddr s x f, ty, pos, aft, g⟩ (.pointer (some ⟨b, o', none⟩)) := by subst hj; exact y_fieldAddr hx
/-! ### 33. Loads and stores of elements -/
theorem y_e1 {t : TypeId} {x : Operand} {p : Option Addr} {T : TypeId} {α : Type} [Inhabited α] {i x0 c sz : Nat} {enc : α → List Value} {xs : List α} {v : Value} {L : HP → List HP} (hO : Own k w l) (hx : ev E x = some (.pointer (some (adr p (i * sz + x0))))) [hl : Lay P t false 1] [ha : AtP l p T α c sz enc xs L]
    (hi : i < xs.length := by first | omega | (simp only [List.length_set]; omega) | (simp; omega)) (hv : (enc (at_ xs i))[x0]? = some v := by rfl) : Yld P n ds E w ⟨d, .load t x, ty, pos, aft, g⟩ v := by
  obtain ⟨m, hm⟩ := ha.self
  exact y_load1 hx (hO.holds hm (.sls1 hi hv))
theorem y_eA {t : TypeId} {x : Operand} {p : Option Addr} {T : TypeId} {α : Type} [Inhabited α] {i x0 c sz m : Nat} {enc : α → List Value} {xs : List α} {cs : List Value} {L : HP → List HP} (hO : Own k w l) (hx : ev E x = some (.pointer (some (adr p (i * sz + x0))))) [hl : Lay P t true m] [ha : AtP l p T α c sz enc xs L]
    (hi : i < xs.length := by first | omega | (simp only [List.length_set]; omega) | (simp; omega)) (hv : ((enc (at_ xs i)).drop x0).take m = cs := by rfl) (hm : cs.length = m := by rfl) : Yld P n ds E w ⟨d, .load t x, ty, pos, aft, g⟩ (.agg cs.toArray) := by
  obtain ⟨q, hq⟩ := ha.self
  exact y_loadA hx hm (hO.holds hq (.slsA m hi hv))
theorem adr_eta (p : Option Addr) (j : Nat) : adr p j = ⟨(adr p j).block, (adr p j).off, none⟩ := by cases p <;> rfl
/-- one field of an element is written -/
theorem s_e1 {t : TypeId} {x y : Operand} {p : Option Addr} {T : TypeId} {α : Type} [Inhabited α] {i x0 c sz : Nat} {enc : α → List Value} {xs : List α} {v : Value} {L : HP → List HP} {u : α → α} (hO : Own k w l) (hx : ev E x = some (.pointer (some (adr p (i * sz + x0))))) (hy : ev E y = some v) [hl : Lay P t false 1] [ha : AtP l p T α c sz enc xs L] [hu : FUpd enc x0 v u]
    (h : ∀ w', Own k w' (L (sls p c T sz enc (xs.set i (u (at_ xs i))))) → LW P ops Q n ds rest (E.put d undef) w') (hg : gd ops E g = some true := by rfl) (hd : dok n d = true := by rfl) (h1 : v.oneCell' = true := by rfl)
    (hi : i < xs.length := by first | omega | (simp only [List.length_set]; omega) | (simp; omega)) (hp : Gs p xs.length := by first | assumption | (simp only [List.length_set]; assumption)) : LW P ops Q n ds (⟨d, .store t x y, ty, pos, aft, g⟩ :: rest) E w := by
  rw [adr_eta] at hx
  exact s_store1 hO hg hd hx hy h1 (ha.nth _) (.sls hi (by have := hu.lt (at_ xs i); simp; omega) (by rw [splice_one _ _ _ (hu.lt _)]; exact hu.eq _) hp) h
/-- an element is written -/
theorem s_eA {t : TypeId} {m : Nat} {x y : Operand} {p : Option Addr} {T : TypeId} {α : Type} [Inhabited α] {i c sz : Nat} {enc : α → List Value} {xs : List α} {vs : List Value} {L : HP → List HP} (z : α) (hO : Own k w l) (hx : ev E x = some (.pointer (some (adr p (i * sz + 0))))) (hy : ev E y = some (.agg vs.toArray)) [hl : Lay P t true m] [ha : AtP l p T α c sz enc xs L]
    (h : ∀ w', Own k w' (L (sls p c T sz enc (xs.set i z))) → LW P ops Q n ds rest (E.put d undef) w') (hz : enc z = vs := by rfl) (hg : gd ops E g = some true := by rfl) (hd : dok n d = true := by rfl) (hm : vs.length = m := by rfl) (h1 : vs.all (·.oneCell') = true := by rfl)
    (hi : i < xs.length := by first | omega | (simp only [List.length_set]; omega) | (simp; omega)) (hp : Gs p xs.length := by first | assumption | (simp only [List.length_set]; assumption)) (hlen : (enc (at_ xs i)).length = vs.length := by rfl) : LW P ops Q n ds (⟨d, .store t x y, ty, pos, aft, g⟩ :: rest) E w := by
  rw [adr_eta] at hx
  exact s_storeA hO hg hd hx hy hm h1 (ha.nth _) (.sls hi (by omega) (by rw [hz]; simp [splice, hlen]) hp) h
theorem sls_fct {p : Option Addr} {T : TypeId} {α : Type} {c sz : Nat} {enc : α → List Value} {xs : List α} {L : HP → List HP} (hO : Own k w l) [ha : AtP l p T α c sz enc xs L] : xs.length ≤ c ∧ Gs p xs.length := by
  obtain ⟨m, hm⟩ := ha.self
  refine hO.nth_heap hm fun hp hA hw => ?_
  rcases hA with ⟨he, h0⟩ | ⟨b, o, cap, he, hA⟩
  · have : xs = [] := by simpa using h0
    subst this; exact ⟨by simp, Gs.zero _⟩
  · injection he with e1 e2 e3
    subst e1 e3
    obtain ⟨_, _, _, _, _, h4, _⟩ := hA
    exact ⟨by simpa using h4, Gs.some _ _ _⟩
/-- what a slice shows: of what is owned, -/
theorem sls_sli {p : Option Addr} {T : TypeId} {α : Type} {c sz : Nat} {enc : α → List Value} {xs : List α} {L : HP → List HP} (hO : Own k w l) [ha : AtP l p T α c sz enc xs L] : Sli (Holds w) (.slice p xs.length c) (xs.map enc) := by
  obtain ⟨m, hm⟩ := ha.self
  have h1 := sls_fct hO (ha := ha)
  refine ⟨p, c, by simp, by simpa using h1.1, fun hne => ?_⟩
  obtain ⟨b, o, rfl⟩ := h1.2 (by cases xs with | nil => simp at hne | cons => simp)
  exact ⟨b, o, rfl, hO.holds hm (.slsW rfl)⟩
/-- .. and to a callee, of what its caller keeps -/
theorem sls_ro {p : Option Addr} {T : TypeId} {α : Type} {c sz : Nat} {enc : α → List Value} {xs : List α} {k' : Ctx} {rl : List HP} (hr : ∀ A ∈ rl, ∀ a cs, Has A a cs → Ro k' a cs) (hm : sls p c T sz enc xs ∈ rl) (h1 : xs.length ≤ c ∧ Gs p xs.length) : Sli (Ro k') (.slice p xs.length c) (xs.map enc) := by
  refine ⟨p, c, by simp, by simpa using h1.1, fun hne => ?_⟩
  obtain ⟨b, o, rfl⟩ := h1.2 (by cases xs with | nil => simp at hne | cons => simp)
  exact ⟨b, o, rfl, hr _ hm _ _ (.slsW rfl)⟩
/-- an element of what is only read -/
theorem y_r1 {t : TypeId} {x : Operand} {p : Option Addr} {α : Type} [Inhabited α] {i x0 m c sz : Nat} {enc : α → List Value} {xs : List α} {v : Value} (hO : Own k w l) (hx : ev E x = some (.pointer (some (adr p (i * sz + x0))))) (hs : Sli (Ro k) (.slice p m c) (xs.map enc) := by assumption) [hl : Lay P t false 1]
    (hi : i < xs.length := by omega) (hv : (enc (at_ xs i))[x0]? = some v := by rfl) (hz : ∀ a, (enc a).length = sz := by intro a; rfl) : Yld P n ds E w ⟨d, .load t x, ty, pos, aft, g⟩ v := by
  obtain ⟨b, o, rfl, hH⟩ := (hs.holds hO).get (cuts_holds w) (sz := sz) (by intro r hr; obtain ⟨a, _, rfl⟩ := List.mem_map.1 hr; exact hz a) (i := i) (r := enc (at_ xs i)) (by simp [at_get hi])
  refine y_load1 hx ?_
  intro j u hu
  cases j with
  | zero => simp at hu; subst hu; have := hH x0 v hv; rw [Addr.add_lit] at this; simp only [adr, Addr.add_lit]; rw [← this]; congr 2; omega
  | succ j => simp at hu
theorem y_rA {t : TypeId} {x : Operand} {p : Option Addr} {α : Type} [Inhabited α] {i x0 m q c sz : Nat} {enc : α → List Value} {xs : List α} {cs : List Value} (hO : Own k w l) (hx : ev E x = some (.pointer (some (adr p (i * sz + x0))))) (hs : Sli (Ro k) (.slice p q c) (xs.map enc) := by assumption) [hl : Lay P t true m]
    (hi : i < xs.length := by omega) (hv : ((enc (at_ xs i)).drop x0).take m = cs := by rfl) (hm : cs.length = m := by rfl) (hz : ∀ a, (enc a).length = sz := by intro a; rfl) : Yld P n ds E w ⟨d, .load t x, ty, pos, aft, g⟩ (.agg cs.toArray) := by
  obtain ⟨b, o, rfl, hH⟩ := (hs.holds hO).get (cuts_holds w) (sz := sz) (by intro r hr; obtain ⟨a, _, rfl⟩ := List.mem_map.1 hr; exact hz a) (i := i) (r := enc (at_ xs i)) (by simp [at_get hi])
  refine y_loadA hx hm ?_
  intro j u hu
  have h2 : (enc (at_ xs i))[x0 + j]? = some u := by
    subst hv
    rw [List.getElem?_take] at hu
    split at hu
    · simpa using hu
    · cases hu
  have := hH _ _ h2
  rw [Addr.add_lit] at this; simp only [adr, Addr.add_lit]; rw [← this]; congr 2; omega
theorem sli_gs {H : Addr → List Value → Prop} {p : Option Addr} {m c : Nat} {rows : List (List Value)} (h : Sli H (.slice p m c) rows) : Gs p m := by
  obtain ⟨p', cap, he, h2, h3⟩ := h
  cases he
  intro h0
  obtain ⟨b, o, rfl, _⟩ := h3 (by rintro rfl; simp at h0)
  exact ⟨b, o, rfl⟩
/-! ### 34. Parts found by what they are; calls -/
class Pick {α : Type} (R : α → HP) (l : List HP) (x : outParam α) (rl : outParam (List HP)) : Prop where
  pull : Pull l (R x) rl
instance (priority := high) Pick.hd {α : Type} (R : α → HP) (x : α) (l : List HP) : Pick R (R x :: l) x l := ⟨.hd _ l⟩
instance Pick.tl {α : Type} (R : α → HP) (x : α) (l rl : List HP) (C : HP) [h : Pick R l x rl] : Pick R (C :: l) x (C :: rl) := ⟨.tl C h.pull⟩
instance Pick.app {α : Type} (R : α → HP) (x : α) (m l rl : List HP) (C : HP) [h : Pick R (C :: (m ++ l)) x rl] : Pick R ((C :: m) ++ l) x rl := h
instance Pick.app0 {α : Type} (R : α → HP) (x : α) (l rl : List HP) [h : Pick R l x rl] : Pick R ([] ++ l) x rl := h
theorem Own.pick {α : Type} (R : α → HP) {x : α} {rl : List HP} [hp : Pick R l x rl] (hO : Own k w l) : Own k w (R x :: rl) := hO.pull hp.pull
theorem Own.keep1 {α : Type} {R : α → HP} {x : α} {rl : List HP} [hp : Pick R l x rl] (hO : Own k w l) : Own k w [R x] := Own.front (l := [_]) (hO.pull hp.pull)
theorem Own.keep2 {α β : Type} {R : α → HP} {R2 : β → HP} {x : α} {y : β} {rl rl2 : List HP} [hp : Pick R l x rl] [hp2 : Pick R2 rl y rl2] (hO : Own k w l) : Own k w [R x, R2 y] :=
  Own.front (l := [_, _]) (hO.pulls (.cons hp.pull (.cons hp2.pull (.nil _))))
/-- a call to which nothing is given -/
theorem C0 {f : FuncId} [hf : Fun P f] {xs : List Operand} {tys : Array TypeId} {vs : List Value} {R : Value → List HP → Prop} (hO : Own k w l) (hx : evl E xs = some vs)
    (hc : ∀ k', Ext k k' w → (∀ A ∈ l, ∀ a cs, Has A a cs → Ro k' a cs) → Own k' w [] → Tri P f vs.toArray k' w R)
    (h : ∀ v m w', R v m → Own k w' (m ++ l) → LW P ops Q n ds rest (E.put d v) w') (hg : gd ops E g = some true := by rfl) (hd : dok n d = true := by rfl) :
    LW P ops Q n ds (⟨d, .call ⟨.value (.func f), xs.toArray, tys⟩, ty, pos, aft, g⟩ :: rest) E w := s_callO hO (.nil _) hg hd hx hc h
theorem C1 {α : Type} (R1 : α → HP) {x1 : α} {rl : List HP} [hp : Pick R1 l x1 rl] {f : FuncId} [hf : Fun P f] {xs : List Operand} {tys : Array TypeId} {vs : List Value} {R : Value → List HP → Prop} (hO : Own k w l) (hx : evl E xs = some vs)
    (hc : ∀ k', Ext k k' w → (∀ A ∈ rl, ∀ a cs, Has A a cs → Ro k' a cs) → Own k' w [R1 x1] → Tri P f vs.toArray k' w R)
    (h : ∀ v m w', R v m → Own k w' (m ++ rl) → LW P ops Q n ds rest (E.put d v) w') (hg : gd ops E g = some true := by rfl) (hd : dok n d = true := by rfl) :
    LW P ops Q n ds (⟨d, .call ⟨.value (.func f), xs.toArray, tys⟩, ty, pos, aft, g⟩ :: rest) E w := s_callO hO (.cons hp.pull (.nil _)) hg hd hx hc h
theorem C2 {α β : Type} (R1 : α → HP) (R2 : β → HP) {x1 : α} {x2 : β} {rl rl2 : List HP} [hp : Pick R1 l x1 rl] [hp2 : Pick R2 rl x2 rl2] {f : FuncId} [hf : Fun P f] {xs : List Operand} {tys : Array TypeId} {vs : List Value} {R : Value → List HP → Prop} (hO : Own k w l) (hx : evl E xs = some vs)
    (hc : ∀ k', Ext k k' w → (∀ A ∈ rl2, ∀ a cs, Has A a cs → Ro k' a cs) → Own k' w [R1 x1, R2 x2] → Tri P f vs.toArray k' w R)
    (h : ∀ v m w', R v m → Own k w' (m ++ rl2) → LW P ops Q n ds rest (E.put d v) w') (hg : gd ops E g = some true := by rfl) (hd : dok n d = true := by rfl) :
    LW P ops Q n ds (⟨d, .call ⟨.value (.func f), xs.toArray, tys⟩, ty, pos, aft, g⟩ :: rest) E w := s_callO hO (.cons hp.pull (.cons hp2.pull (.nil _))) hg hd hx hc h
theorem C3 {α β γ : Type} (R1 : α → HP) (R2 : β → HP) (R3 : γ → HP) {x1 : α} {x2 : β} {x3 : γ} {rl rl2 rl3 : List HP} [hp : Pick R1 l x1 rl] [hp2 : Pick R2 rl x2 rl2] [hp3 : Pick R3 rl2 x3 rl3] {f : FuncId} [hf : Fun P f] {xs : List Operand} {tys : Array TypeId} {vs : List Value} {R : Value → List HP → Prop} (hO : Own k w l) (hx : evl E xs = some vs)
    (hc : ∀ k', Ext k k' w → (∀ A ∈ rl3, ∀ a cs, Has A a cs → Ro k' a cs) → Own k' w [R1 x1, R2 x2, R3 x3] → Tri P f vs.toArray k' w R)
    (h : ∀ v m w', R v m → Own k w' (m ++ rl3) → LW P ops Q n ds rest (E.put d v) w') (hg : gd ops E g = some true := by rfl) (hd : dok n d = true := by rfl) :
    LW P ops Q n ds (⟨d, .call ⟨.value (.func f), xs.toArray, tys⟩, ty, pos, aft, g⟩ :: rest) E w := s_callO hO (.cons hp.pull (.cons hp2.pull (.cons hp3.pull (.nil _)))) hg hd hx hc h
end
end Go.Hb

/- Appends, literals, made slices, copies over slices found by their address; memory that stays as it is (the pool). -/
set_option linter.unusedVariables false
set_option linter.unusedSimpArgs false
namespace Go.Hb
open Go Go.RowKit
/-- what an encoding of elements is: sz cells each, each of them one -/
class OneC {α : Type} (enc : α → List Value) (sz : outParam Nat) : Prop where
  len : ∀ a, (enc a).length = sz
  one : ∀ a, ∀ v ∈ enc a, v.oneCell' = true
instance (kd : IntKind) : OneC (eI kd) 1 := ⟨fun _ => rfl, fun a v hv => by simp [eI] at hv; subst hv; rfl⟩
instance : OneC eS 1 := ⟨fun _ => rfl, fun a v hv => by simp [eS] at hv; subst hv; rfl⟩
def eB (b : Bool) : List Value := [.bool b]
def eP (p : Option Addr) : List Value := [.pointer p]
instance : OneC eB 1 := ⟨fun _ => rfl, fun a v hv => by simp [eB] at hv; subst hv; rfl⟩
instance : OneC eP 1 := ⟨fun _ => rfl, fun a v hv => by simp [eP] at hv; subst hv; rfl⟩
instance (b : Bool) : FUpd eB 0 (.bool b) (fun _ => b) := ⟨fun _ => rfl, fun _ => by simp [eB]⟩
instance (p : Option Addr) : FUpd eP 0 (.pointer p) (fun _ => p) := ⟨fun _ => rfl, fun _ => by simp [eP]⟩
theorem OneC.rows {α : Type} {enc : α → List Value} {sz : Nat} [ho : OneC enc sz] (xs : List α) : ∀ r ∈ xs.map enc, r.length = sz := by
  intro r hr; obtain ⟨a, _, rfl⟩ := List.mem_map.1 hr; exact ho.len a
theorem OneC.cells {α : Type} {enc : α → List Value} {sz : Nat} [ho : OneC enc sz] (xs : List α) : ∀ r ∈ xs.map enc, ∀ v ∈ r, v.oneCell' = true := by
  intro r hr; obtain ⟨a, _, rfl⟩ := List.mem_map.1 hr; exact ho.one a
theorem OneC.flat {α : Type} {enc : α → List Value} {sz : Nat} [ho : OneC enc sz] (xs : List α) : (xs.map enc).flatten.length = xs.length * sz := by
  rw [flatten_length (OneC.rows xs), List.length_map]
class PkP (l : List HP) (p : Option Addr) (T : TypeId) (α : outParam Type) (c sz : outParam Nat) (enc : outParam (α → List Value)) (xs : outParam (List α)) (rl : outParam (List HP)) : Prop where
  pull : Pull l (sls p c T sz enc xs) rl
instance (priority := high) PkP.hd (p : Option Addr) (T : TypeId) (α : Type) (c sz : Nat) (enc : α → List Value) (xs : List α) (l : List HP) : PkP (sls p c T sz enc xs :: l) p T α c sz enc xs l := ⟨.hd _ l⟩
instance PkP.tl (p : Option Addr) (T : TypeId) (α : Type) (c sz : Nat) (enc : α → List Value) (xs : List α) (l rl : List HP) (C : HP) [h : PkP l p T α c sz enc xs rl] : PkP (C :: l) p T α c sz enc xs (C :: rl) := ⟨.tl C h.pull⟩
instance PkP.app (p : Option Addr) (T : TypeId) (α : Type) (c sz : Nat) (enc : α → List Value) (xs : List α) (m l rl : List HP) (C : HP) [h : PkP (C :: (m ++ l)) p T α c sz enc xs rl] : PkP ((C :: m) ++ l) p T α c sz enc xs rl := h
instance PkP.app0 (p : Option Addr) (T : TypeId) (α : Type) (c sz : Nat) (enc : α → List Value) (xs : List α) (l rl : List HP) [h : PkP l p T α c sz enc xs rl] : PkP ([] ++ l) p T α c sz enc xs rl := h
section
variable {P : Program} {ops : Array Oper} {Q : Exit → Act → World → Prop} {n : Nat} {ds : List Deferred} {E E' : Env} {w w' : World}
variable {rest : List Oper} {d : Option Tmp} {ty : TypeId} {pos : String} {aft : Array Edge} {g : Option (Nat × Bool)}
variable {k : Ctx} {l l' : List HP} {A A' : HP}
theorem Own.pkp {p : Option Addr} (T : TypeId) {α : Type} {c sz : Nat} {enc : α → List Value} {xs : List α} {rl : List HP} [hp : PkP l p T α c sz enc xs rl] (hO : Own k w l) : Own k w (sls p c T sz enc xs :: rl) := hO.pull hp.pull
/-! ### 35. Where slices come from -/
theorem src_sli {p : Option Addr} {m c sz : Nat} {α : Type} {enc : α → List Value} {xs : List α} [ho : OneC enc sz] (hs : Sli (Holds w) (.slice p m c) (xs.map enc)) : Src P w sz (.slice p m c) xs.length (xs.map enc).flatten := by
  have := hs.src (P := P) (OneC.rows xs) (OneC.cells xs)
  rwa [List.length_map] at this
theorem src_own {p : Option Addr} {T : TypeId} {α : Type} {c sz sz' : Nat} {enc : α → List Value} {xs : List α} {L : HP → List HP} (hO : Own k w l) [ha : AtP l p T α c sz' enc xs L] [ho : OneC enc sz] : Src P w sz (.slice p xs.length c) xs.length (xs.map enc).flatten := src_sli (sls_sli hO)
theorem src_ro {p : Option Addr} {m c sz : Nat} {α : Type} {enc : α → List Value} {xs : List α} [ho : OneC enc sz] (hO : Own k w l) (hs : Sli (Ro k) (.slice p m c) (xs.map enc)) : Src P w sz (.slice p m c) xs.length (xs.map enc).flatten := src_sli (hs.holds hO)
theorem sls_alloc {T : TypeId} {α : Type} {sz : Nat} {enc : α → List Value} {xs : List α} {b c : Nat} {v : Value} (hO : Own k w (sl (.slice (some ⟨b, 0, none⟩) xs.length c) T sz (xs.map enc) :: l)) : Own k w (sls (some ⟨b, 0, none⟩) c T sz enc xs :: l) := hO
/-- a literal of one's own values -/
theorem s_lit {t T : TypeId} {sz bytes len : Nat} {z : Value} [hu : Und P t (.slice T)] [he : Elt P T sz bytes z] {α : Type} {enc : α → List Value} [ho : OneC enc sz] {parts : List (Nat × Operand)} (ys : List α) (vs : List Value) (hO : Own k w l)
    (hp : partsOf E parts = some ((vs.zipIdx 0).map fun x => (x.2, x.1)))
    (h : ∀ b w', Own k w' (sls (some ⟨b, 0, none⟩) ys.length T sz enc ys :: l) → LW P ops Q n ds rest (E.put d (.slice (some ⟨b, 0, none⟩) ys.length ys.length)) w') (hv : (vs.map fun v => v.cells.toList) = ys.map enc := by rfl) (hl : ys.length = len := by rfl) (h0 : 0 < sz := by decide) (hn : ys ≠ [] := by simp) (hs : ys.length * sz ≤ 16777216 := by simp)
    (hg : gd ops E g = some true := by rfl) (hd : dok n d = true := by rfl) : LW P ops Q n ds (⟨d, .buildSlice t len parts.toArray, ty, pos, aft, g⟩ :: rest) E w := by
  have hlen : vs.length = ys.length := by have := congrArg List.length hv; simpa using this
  subst hl
  refine s_slices vs hO hg hd hlen hp (fun v hv' => ?_) h0 (by intro e; subst e; simp at hlen; exact hn (List.eq_nil_of_length_eq_zero hlen.symm)) (by rw [hlen]; exact hs) fun b w' hO' => ?_
  · have : v.cells.toList ∈ ys.map enc := by rw [← hv]; exact List.mem_map_of_mem hv'
    have := OneC.rows ys _ this
    simpa using this
  · rw [hv] at hO'
    refine h b w' (sl_shut hO' (by simp))
/-- a literal of one value -/
theorem s_lit1 {t T : TypeId} {sz bytes : Nat} {z : Value} [hu : Und P t (.slice T)] [he : Elt P T sz bytes z] {α : Type} {enc : α → List Value} [ho : OneC enc sz] {y : Operand} {v : Value} (a : α) (hO : Own k w l)
    (hy : ev E y = some v) (h : ∀ b w', Own k w' (sls (some ⟨b, 0, none⟩) 1 T sz enc [a] :: l) → LW P ops Q n ds rest (E.put d (.slice (some ⟨b, 0, none⟩) 1 1)) w') (hv : v.cells.toList = enc a := by rfl) (h0 : 0 < sz := by decide) (hs : sz ≤ 16777216 := by decide)
    (hg : gd ops E g = some true := by rfl) (hd : dok n d = true := by rfl) : LW P ops Q n ds (⟨d, .buildSlice t 1 #[(0, y)], ty, pos, aft, g⟩ :: rest) E w :=
  s_lit (parts := [(0, y)]) [a] [v] hO (by simp [partsOf, hy]) h (by simp [hv]) rfl h0 (by simp) (by simpa using hs) hg hd
/-- a literal of none -/
theorem s_lit0 {t T : TypeId} {sz bytes : Nat} {z : Value} [hu : Und P t (.slice T)] [he : Elt P T sz bytes z] {α : Type} (enc : α → List Value) (hO : Own k w l)
    (h : ∀ b w', Own k w' (sls (some ⟨b, 0, none⟩) 0 T sz enc ([] : List α) :: l) → LW P ops Q n ds rest (E.put d (.slice (some ⟨b, 0, none⟩) 0 0)) w') (hg : gd ops E g = some true := by rfl) (hd : dok n d = true := by rfl) : LW P ops Q n ds (⟨d, .buildSlice t 0 #[], ty, pos, aft, g⟩ :: rest) E w := by
  exact s_slices0 hO hg hd fun v w' hO' ⟨b, hb⟩ => by subst hb; exact h b w' hO'
/-- append to what is owned -/
theorem s_app {t u T : TypeId} {sz bytes : Nat} {z : Value} {dd : TypeDesc} [hu : Und P t (.slice T)] [he : Elt P T sz bytes z] [hd' : Und P u dd] {x y : Operand} {p : Option Addr} {c sz' : Nat} {α : Type} {enc : α → List Value} {xs ys : List α} {vy : Value} {rl : List HP} (hO : Own k w l) (hx : ev E x = some (.slice p xs.length c)) (hy : ev E y = some vy) [hp : PkP l p T α c sz' enc xs rl] [ho : OneC enc sz] (hs : Src P w sz vy ys.length (ys.map enc).flatten)
    (h : ∀ p' c' w', Own k w' (sls p' c' T sz enc (xs ++ ys) :: rl) → Gs p' (xs ++ ys).length → LW P ops Q n ds rest (E.put d (.slice p' (xs ++ ys).length c')) w') (hsz : sz' = sz := by rfl) (h63 : xs.length + ys.length ≤ 4611686018427387904 := by simp; omega) (hb : (xs.length + ys.length) * bytes ≤ 140737488355328 := by simp; omega)
    (hg : gd ops E g = some true := by rfl) (hd : dok n d = true := by rfl) (hdi : ∀ kk, dd ≠ .int kk := by intro kk h; cases h) : LW P ops Q n ds (⟨d, .call ⟨.builtin .append, #[x, y], #[t, u]⟩, ty, pos, aft, g⟩ :: rest) E w := by
  subst hsz
  refine s_append (news := ys.map enc) hdi hO hp.pull hg hd hx hy (by rw [List.length_map]; exact hs) (OneC.rows ys) (by simpa using h63) (by simpa using hb) fun v' w' hO' hgr => ?_
  rw [← List.map_append] at hO'
  obtain ⟨p', c', rfl⟩ := sl_shape hO'
  rw [List.length_map] at hO' ⊢
  exact h p' c' w' hO' (sls_len hO').2.2
/-- append to a nil slice -/
theorem s_appN {t u T : TypeId} {sz bytes : Nat} {z : Value} {dd : TypeDesc} [hu : Und P t (.slice T)] [he : Elt P T sz bytes z] [hd' : Und P u dd] {x y : Operand} {α : Type} {enc : α → List Value} {ys : List α} {vy : Value} (hO : Own k w l) (hx : ev E x = some (.slice none 0 0)) (hy : ev E y = some vy) [ho : OneC enc sz] (hs : Src P w sz vy ys.length (ys.map enc).flatten)
    (h : ∀ p' c' w', Own k w' (sls p' c' T sz enc ys :: l) → Gs p' ys.length → LW P ops Q n ds rest (E.put d (.slice p' ys.length c')) w') (h63 : ys.length ≤ 4611686018427387904 := by simp; omega) (hb : ys.length * bytes ≤ 140737488355328 := by simp; omega)
    (hg : gd ops E g = some true := by rfl) (hd : dok n d = true := by rfl) (hdi : ∀ kk, dd ≠ .int kk := by intro kk h; cases h) : LW P ops Q n ds (⟨d, .call ⟨.builtin .append, #[x, y], #[t, u]⟩, ty, pos, aft, g⟩ :: rest) E w := by
  refine s_append (news := ys.map enc) (rows := []) (v := .slice none 0 0) hdi (sl_nil T sz hO) (.hd _ _) hg hd hx hy (by rw [List.length_map]; exact hs) (OneC.rows ys) (by simpa using h63) (by simpa using hb) fun v' w' hO' hgr => ?_
  rw [List.nil_append] at hO'
  obtain ⟨p', c', rfl⟩ := sl_shape hO'
  rw [List.length_map] at hO' ⊢
  exact h p' c' w' hO' (sls_len hO').2.2
/-- append to a part without room of its own -/
theorem s_appV {t u T : TypeId} {sz bytes : Nat} {z : Value} {dd : TypeDesc} [hu : Und P t (.slice T)] [he : Elt P T sz bytes z] [hd' : Und P u dd] {x y : Operand} {p : Option Addr} {m : Nat} {α : Type} {enc : α → List Value} {xs ys : List α} {vy : Value} (hO : Own k w l) (hx : ev E x = some (.slice p m m)) (hy : ev E y = some vy) [ho : OneC enc sz] (hv : Sli (Holds w) (.slice p m m) (xs.map enc)) (hs : Src P w sz vy ys.length (ys.map enc).flatten) (hn : ys ≠ [])
    (h : ∀ p' c' w', Own k w' (sls p' c' T sz enc (xs ++ ys) :: l) → Gs p' (xs ++ ys).length → LW P ops Q n ds rest (E.put d (.slice p' (xs ++ ys).length c')) w') (h63 : xs.length + ys.length ≤ 4611686018427387904 := by simp; omega) (hb : (xs.length + ys.length) * bytes ≤ 140737488355328 := by simp; omega)
    (hg : gd ops E g = some true := by rfl) (hd : dok n d = true := by rfl) (hdi : ∀ kk, dd ≠ .int kk := by intro kk h; cases h) : LW P ops Q n ds (⟨d, .call ⟨.builtin .append, #[x, y], #[t, u]⟩, ty, pos, aft, g⟩ :: rest) E w := by
  have hm : m = xs.length := by have := hv.fits.1; simpa using this
  subst hm
  obtain ⟨i, hi, hi2, hi3, hz0⟩ := he.info
  subst hi2 hi3
  have hlen : 0 < ys.length := by cases ys with | nil => exact absurd rfl hn | cons => simp
  have hfo : (Builtin.firstCells i.size xs.length (.slice p xs.length xs.length)).run P w.drew = .ok (xs.map enc).flatten.toArray w.drew := (src_sli (P := P) (w := w) hv).cells _
  have hr := run_app_grow (a := p) (n := xs.length) (cap := xs.length) (olds := (xs.map enc).flatten) (ty := ty) hu.eq hd'.eq hdi hi hz0 hs hfo (by omega) h63 hb
  refine l_val (o := ⟨d, .call ⟨.builtin .append, #[x, y], #[t, u]⟩, ty, pos, aft, g⟩) (v := .slice (some ⟨w.heap.size, 0, none⟩) (xs.length + ys.length) (grownCap w (xs.length + ys.length) xs.length T)) (w' := w.drew.alloc (.cells ((xs.map enc).flatten.toArray ++ (ys.map enc).flatten.toArray ++ Builtin.zeroCells z.cells (grownCap w (xs.length + ys.length) xs.length T - (xs.length + ys.length))) T)) hg hd (fun a ha => by simp [execOp, resolve, ha.eval hx, ha.eval hy, invoke, builtin, hr]) ?_
  have hge := grownCap_ge w (xs.length + ys.length) xs.length T
  have hcm : grownCap w (xs.length + ys.length) xs.length T ≤ maxLen := grownCap_le_maxLen w _ _ T (by simp only [maxLen]; omega)
  have hO2 : Own k (w.drew.alloc (.cells ((xs.map enc).flatten.toArray ++ (ys.map enc).flatten.toArray ++ Builtin.zeroCells z.cells (grownCap w (xs.length + ys.length) xs.length T - (xs.length + ys.length))) T)) (sls (some ⟨w.heap.size, 0, none⟩) (grownCap w (xs.length + ys.length) xs.length T) T i.size enc (xs ++ ys) :: l) := by
    refine hO.drew.alloc _ (.inr ⟨w.heap.size, 0, _, by simp, [], (Builtin.zeroCells z.cells (grownCap w (xs.length + ys.length) xs.length T - (xs.length + ys.length))).toList, rfl, OneC.rows _, ?_, by simpa using hge, hcm, ?_⟩)
    · have hzr : (Builtin.zeroCells z.cells (grownCap w (xs.length + ys.length) xs.length T - (xs.length + ys.length))).toList.length = _ := zeros_rows he.cells
      rw [List.length_map, List.length_append, hzr, ← Nat.add_mul]
      exact Nat.mul_le_mul_right _ (by omega)
    · show one w.heap.size _ w.heap.size = _
      rw [one_self]
      congr 2
      apply Array.ext'
      simp
  have h2 := h _ _ _ hO2 (Gs.some _ _ _)
  rw [List.length_append] at h2
  exact h2
/-- .. and nothing is appended -/
theorem y_appV {t u T : TypeId} {sz bytes : Nat} {z : Value} {dd : TypeDesc} [hu : Und P t (.slice T)] [he : Elt P T sz bytes z] [hd' : Und P u dd] {x y : Operand} {p : Option Addr} {m c : Nat} {vy : Value} (hx : ev E x = some (.slice p m c)) (hy : ev E y = some vy) (hmc : m ≤ c) (hg : p = none → m = 0 ∧ c = 0) (hs : Src P w sz vy 0 []) (hsp : ∀ a, p = some a → a.spot = none)
    (hdi : ∀ kk, dd ≠ .int kk := by intro kk h; cases h) : Yld P n ds E w ⟨d, .call ⟨.builtin .append, #[x, y], #[t, u]⟩, ty, pos, aft, g⟩ (.slice p m c) := by
  obtain ⟨i, hi, hi2, hi3, hz0⟩ := he.info
  subst hi2
  constructor
  intro a ha
  cases p with
  | none =>
    obtain ⟨rfl, rfl⟩ := hg rfl
    have hr := run_app_none (ty := ty) hu.eq hd'.eq hdi hi hs rfl
    simp [execOp, resolve, ha.eval hx, ha.eval hy, invoke, builtin, hr]
  | some q =>
    obtain ⟨b, o, sp⟩ := q
    have := hsp _ rfl
    simp only at this
    subst this
    have hr := run_app_room (b := b) (o := o) (n := m) (cap := c) (ty := ty) (w' := w) hu.eq hd'.eq hdi hi hs (by omega) (by simp [storeCells])
    simp [execOp, resolve, ha.eval hx, ha.eval hy, invoke, builtin, hr]
/-- make -/
theorem s_mk {t T : TypeId} {sz bytes : Nat} {z : Value} [hu : Und P t (.slice T)] [he : Elt P T sz bytes z] {α : Type} {enc : α → List Value} {x y : Operand} {m c : Nat} {kl kc : IntKind} {zl zc : Int} (a0 : α) (hO : Own k w l) (hx : ev E x = some (.int kl zl)) (hy : ev E y = some (.int kc zc)) (hzl : zl = (m : Int)) (hzc : zc = (c : Int)) (hmc : m ≤ c) (hby : bytes * c ≤ 281474976710656) (h63 : c ≤ maxLen)
    (h : ∀ b w', Own k w' (sls (some ⟨b, 0, none⟩) c T sz enc (List.replicate m a0) :: l) → LW P ops Q n ds rest (E.put d (.slice (some ⟨b, 0, none⟩) m c)) w') (hz : z.cells.toList = enc a0 := by rfl) (hg : gd ops E g = some true := by rfl) (hd : dok n d = true := by rfl) : LW P ops Q n ds (⟨d, .makeSlice t x y, ty, pos, aft, g⟩ :: rest) E w :=
  s_make hO hg hd hx hy hzl hzc hmc hby h63 fun b w' hO' => h b w' (sls_mk hO' (by simp) (by rw [hz]; simp))
theorem arr_sls {p : Option Addr} {c sz : Nat} {T : TypeId} {α : Type} {enc : α → List Value} {xs : List α} {b o : Nat} (hO : Own k w (sls p c T sz enc xs :: l)) (hp : p = some ⟨b, o, none⟩) : Own k w (arr b o c T sz (xs.map enc) :: l) := by
  subst hp
  rcases sl_open hO with ⟨hv, _⟩ | ⟨b', o', c', hv, hO⟩
  · cases hv
  · injection hv with e1 e2 e3
    cases e1; subst e3
    exact hO
/-- copy to the beginning of a made slice -/
theorem s_cp {t u e : TypeId} {agg : Bool} {sz sz' c : Nat} [hu : Und P t (.slice e)] [hl : Lay P e agg sz] {x y : Operand} {b : Nat} {vy : Value} {α : Type} {enc : α → List Value} {xs ys : List α} {rl : List HP} {m : Nat} (hO : Own k w l) (hx : ev E x = some (.slice (some ⟨b, 0, none⟩) m c)) (hy : ev E y = some vy) [hp : PkP l (some ⟨b, 0, none⟩) e α c sz' enc xs rl] [ho : OneC enc sz] (hs : Src P w sz vy ys.length (ys.map enc).flatten)
    (h : ∀ w', Own k w' (sls (some ⟨b, 0, none⟩) c e sz enc (ys ++ xs.drop ys.length) :: rl) → LW P ops Q n ds rest (E.put d (.int .i64 ys.length)) w') (hm : m = xs.length := by simp) (hlen : ys.length ≤ xs.length := by simp) (hsz : sz' = sz := by rfl) (hg : gd ops E g = some true := by rfl) (hd : dok n d = true := by rfl) : LW P ops Q n ds (⟨d, .call ⟨.builtin .copy, #[x, y], #[t, u]⟩, ty, pos, aft, g⟩ :: rest) E w := by
  subst hsz hm
  have hO1 := arr_sls (hO.pull hp.pull) rfl
  refine s_copy (i := 0) (news := ys.map enc) hO1 (.hd _ _) hg hd hx hy (by rw [List.length_map]; exact hs) (OneC.rows ys) (by simpa using hlen) (by simpa using hlen) (fun _ => by simp) fun w' hO2 => ?_
  rw [List.length_map] at hO2 ⊢
  refine h w' ?_
  have e : (xs.map enc).take 0 ++ ys.map enc ++ (xs.map enc).drop (0 + ys.length) = (ys ++ xs.drop ys.length).map enc := by simp
  rw [e] at hO2
  exact sls_mk (sl_shut hO2 rfl) (by simp) rfl
end
/-! ### 36. Memory that stays as it is -/
abbrev Pl := Nat → Option (List Value × TypeId)
def pool (F : Pl) : HP := fun h => ∀ b cs T, F b = some (cs, T) → h b = some (.cells cs.toArray T (0, 0))
def PH (F : Pl) (a : Addr) (cs : List Value) : Prop := ∀ j v, cs[j]? = some v → a.spot = none ∧ ∃ vs T, F a.block = some (vs, T) ∧ vs[a.off + j]? = some v
def PLe (F G : Pl) : Prop := ∀ b x, F b = some x → G b = some x
theorem PLe.refl (F : Pl) : PLe F F := fun _ _ h => h
theorem PLe.trans {F G H : Pl} (h : PLe F G) (g : PLe G H) : PLe F H := fun b x e => g b x (h b x e)
theorem PH.le {F G : Pl} {a : Addr} {cs : List Value} (h : PH F a cs) (hl : PLe F G) : PH G a cs := fun j v hj => by
  obtain ⟨h1, vs, T, h2, h3⟩ := h j v hj
  exact ⟨h1, vs, T, hl _ _ h2, h3⟩
theorem Sli.le {F G : Pl} {v : Value} {rows : List (List Value)} (h : Sli (PH F) v rows) (hl : PLe F G) : Sli (PH G) v rows := h.mono fun _ _ _ hh => hh.le hl
theorem cuts_ph (F : Pl) : Cuts (PH F) := fun b o cs cs' i h hs j v hj => by
  obtain ⟨h1, vs, T, h2, h3⟩ := h _ _ (hs j v hj)
  exact ⟨rfl, vs, T, h2, by rw [← h3]; congr 1; simp only; omega⟩
theorem PH.has {F : Pl} {b o : Nat} {cs : List Value} (h : PH F ⟨b, o, none⟩ cs) (hne : cs ≠ []) : Has (pool F) ⟨b, o, none⟩ cs :=
  ⟨rfl, fun hp hA => by
    obtain ⟨v, hv⟩ : ∃ v, cs[0]? = some v := by cases cs with | nil => exact absurd rfl hne | cons v _ => exact ⟨v, rfl⟩
    obtain ⟨_, vs, T, h2, _⟩ := h 0 v hv
    refine ⟨_, T, (0, 0), hA _ _ _ h2, fun j u hu => ?_⟩
    obtain ⟨_, vs', T', h4, h5⟩ := h j u hu
    have : vs' = vs := by have := h4.symm.trans h2; simp at this; exact this.1
    subst this
    simpa using h5⟩
section
variable {P : Program} {ops : Array Oper} {Q : Exit → Act → World → Prop} {n : Nat} {ds : List Deferred} {E E' : Env} {w w' : World}
variable {rest : List Oper} {d : Option Tmp} {ty : TypeId} {pos : String} {aft : Array Edge} {g : Option (Nat × Bool)}
variable {k : Ctx} {l l' : List HP} {A A' : HP}
theorem PH.holds {F : Pl} {rl : List HP} [hp : Pick pool l F rl] (hO : Own k w l) {b o : Nat} {cs : List Value} (h : PH F ⟨b, o, none⟩ cs) : Holds w ⟨b, o, none⟩ cs := by
  by_cases hne : cs = []
  · subst hne; intro j v hj; simp at hj
  · exact (hO.pull hp.pull).holds (.hd _ _ _) (h.has hne)
theorem Sli.pool {F : Pl} {rl : List HP} [hp : Pick Hb.pool l F rl] (hO : Own k w l) {v : Value} {rows : List (List Value)} (h : Sli (PH F) v rows) : Sli (Holds w) v rows := h.mono fun _ _ _ hh => hh.holds hO
/-- to a callee, of a pool that its caller keeps -/
theorem Sli.pool_ro {F : Pl} {k' : Ctx} {rl : List HP} (hr : ∀ A ∈ rl, ∀ a cs, Has A a cs → Ro k' a cs) (hm : Hb.pool F ∈ rl) {v : Value} {rows : List (List Value)} (h : Sli (PH F) v rows) : Sli (Ro k') v rows := h.mono fun b o cs hh => by
  by_cases hne : cs = []
  · subst hne; intro j v hj; simp at hj
  · exact hr _ hm _ _ (hh.has hne)
theorem Own.pool0 (hO : Own k w l) : Own k w (Hb.pool (fun _ => Option.none) :: l) := by
  obtain ⟨hb, hh, h1, hl⟩ := hO
  exact ⟨hb, hh, h1, fun _ => Option.none, hh, fun _ => .inl rfl, fun _ _ e => (by cases e), Sub.refl _, fun _ _ _ e => (by cases e), hl⟩
theorem sep_two {A B C : HP} {l : List HP} (hAB : ∀ h1 h2 h, Dis h1 h2 → Sub h1 h → Sub h2 h → A h1 → B h2 → C (uni h1 h2)) (hO : Own k w (A :: B :: l)) : Own k w (C :: l) := by
  obtain ⟨hb, hh, h1, x, y, d1, s1, s2, hA, u, v, d2, s3, s4, hB, hl⟩ := hO
  have d14 : Dis x v := d1.sub (Sub.refl _) s4
  have d13 : Dis x u := d1.sub (Sub.refl _) s3
  exact ⟨hb, hh, h1, uni x u, v, Dis.uni_l d14 d2, uni_sub s1 (s3.trans s2), s4.trans s2, hAB x u hh d13 s1 (s3.trans s2) hA hB, hl⟩
/-- what is owned is put into the pool -/
theorem Own.pooled {p : Option Addr} {c sz : Nat} {T : TypeId} {α : Type} {enc : α → List Value} {xs : List α} {F : Pl} (hO : Own k w (sls p c T sz enc xs :: Hb.pool F :: l)) : ∃ G, PLe F G ∧ Own k w (Hb.pool G :: l) ∧ Sli (PH G) (.slice p xs.length c) (xs.map enc) := by
  rcases sl_open hO with ⟨hv, hrows, hO'⟩ | ⟨b, o, c', hv, hO'⟩
  · injection hv with e1 e2 e3
    have : xs = [] := by simpa using hrows
    subst this
    exact ⟨F, PLe.refl F, hO', Sli.nil rfl⟩
  · injection hv with e1 e2 e3
    subst e1 e3
    have hle : xs.length ≤ c := by have := (sls_len (sls_own hO)).2.1; simpa using this
    obtain ⟨pre, spare, T', h1, hb⟩ : ∃ pre spare : List Value, ∃ T', pre.length = o ∧ w.heap[b]? = some (.cells (pre ++ (xs.map enc).flatten ++ spare).toArray T' (0, 0)) := hO'.heap fun hp hA hw => by
      obtain ⟨pre, spare, h1, h2, h3, h4, h5, h6⟩ := hA
      exact ⟨pre, spare, T, h1, (hw _ _ h6).2⟩
    have hblk : Own k w (obj b (.cells (pre ++ (xs.map enc).flatten ++ spare).toArray T' (0, 0)) :: Hb.pool F :: l) := by
      obtain ⟨hb', hh, h1', x, y, d1, s1, s2, hA, hl⟩ := hO'
      refine ⟨hb', hh, h1', x, y, d1, s1, s2, ?_, hl⟩
      obtain ⟨pre', spare', _, _, _, _, _, h6⟩ := hA
      have := (h1' _ _ (s1 _ _ h6)).2
      rw [hb] at this
      show x b = _
      rw [h6, this]
    refine ⟨fun x => if x = b then some (pre ++ (xs.map enc).flatten ++ spare, T') else F x, ?_, ?_, ?_⟩
    · intro x y hx
      show (if x = b then _ else F x) = some y
      split
      · next e =>
        exfalso
        subst e
        obtain ⟨_, hh, _, x1, y1, d1, s1, s2, hA, u, v, d2, s3, s4, hB, hl⟩ := hblk
        have hA' : x1 x = some _ := hA
        have hB' := s3 _ _ (hB _ _ _ hx)
        rcases d1 x with e | e
        · rw [e] at hA'; cases hA'
        · rw [e] at hB'; cases hB'
      · exact hx
    · refine sep_two (fun h1 h2 h dd s1 s2 hA hB x cs T2 hx => ?_) hblk
      simp only at hx
      split at hx
      · next e =>
        subst e
        simp only [Option.some.injEq, Prod.mk.injEq] at hx
        obtain ⟨rfl, rfl⟩ := hx
        exact sub_uni_l _ _ _ _ hA
      · exact sub_uni_r dd _ _ (hB _ _ _ hx)
    · refine ⟨some ⟨b, o, Option.none⟩, c, by simp, by simpa using hle, fun _ => ⟨b, o, rfl, fun j v hj => ⟨rfl, pre ++ (xs.map enc).flatten ++ spare, T', by simp, ?_⟩⟩⟩
      have hj' : j < (xs.map enc).flatten.length := (List.getElem?_eq_some_iff.1 hj).1
      simp only
      rw [List.append_assoc, List.getElem?_append_right (by omega), List.getElem?_append_left (by omega), show o + j - pre.length = j from by omega]
      exact hj
theorem y_p1 {t : TypeId} {x : Operand} {p : Option Addr} {α : Type} [Inhabited α] {i x0 m c sz : Nat} {enc : α → List Value} {xs : List α} {v : Value} {F : Pl} {rl : List HP} [hp : Pick Hb.pool l F rl] (hO : Own k w l) (hx : ev E x = some (.pointer (some (adr p (i * sz + x0))))) (hs : Sli (PH F) (.slice p m c) (xs.map enc) := by assumption) [hl : Lay P t false 1]
    (hi : i < xs.length := by omega) (hv : (enc (at_ xs i))[x0]? = some v := by rfl) (hz : ∀ a, (enc a).length = sz := by intro a; rfl) : Yld P n ds E w ⟨d, .load t x, ty, pos, aft, g⟩ v := by
  obtain ⟨b, o, rfl, hH⟩ := (hs.pool hO).get (cuts_holds w) (sz := sz) (by intro r hr; obtain ⟨a, _, rfl⟩ := List.mem_map.1 hr; exact hz a) (i := i) (r := enc (at_ xs i)) (by simp [at_get hi])
  refine y_load1 hx ?_
  intro j u hu
  cases j with
  | zero => simp at hu; subst hu; have := hH x0 v hv; rw [Addr.add_lit] at this; simp only [adr, Addr.add_lit]; rw [← this]; congr 2; omega
  | succ j => simp at hu
theorem y_pA {t : TypeId} {x : Operand} {p : Option Addr} {α : Type} [Inhabited α] {i x0 m q c sz : Nat} {enc : α → List Value} {xs : List α} {cs : List Value} {F : Pl} {rl : List HP} [hp : Pick Hb.pool l F rl] (hO : Own k w l) (hx : ev E x = some (.pointer (some (adr p (i * sz + x0))))) (hs : Sli (PH F) (.slice p q c) (xs.map enc) := by assumption) [hl : Lay P t true m]
    (hi : i < xs.length := by omega) (hv : ((enc (at_ xs i)).drop x0).take m = cs := by rfl) (hm : cs.length = m := by rfl) (hz : ∀ a, (enc a).length = sz := by intro a; rfl) : Yld P n ds E w ⟨d, .load t x, ty, pos, aft, g⟩ (.agg cs.toArray) := by
  obtain ⟨b, o, rfl, hH⟩ := (hs.pool hO).get (cuts_holds w) (sz := sz) (by intro r hr; obtain ⟨a, _, rfl⟩ := List.mem_map.1 hr; exact hz a) (i := i) (r := enc (at_ xs i)) (by simp [at_get hi])
  refine y_loadA hx hm ?_
  intro j u hu
  have h2 : (enc (at_ xs i))[x0 + j]? = some u := by
    subst hv
    rw [List.getElem?_take] at hu
    split at hu
    · simpa using hu
    · cases hu
  have := hH _ _ h2
  rw [Addr.add_lit] at this; simp only [adr, Addr.add_lit]; rw [← this]; congr 2; omega
theorem src_pool {p : Option Addr} {m c sz : Nat} {α : Type} {enc : α → List Value} {xs : List α} {F : Pl} {rl : List HP} [hp : Pick Hb.pool l F rl] [ho : OneC enc sz] (hO : Own k w l) (hs : Sli (PH F) (.slice p m c) (xs.map enc)) : Src P w sz (.slice p m c) xs.length (xs.map enc).flatten := src_sli (hs.pool hO)
end
end Go.Hb

/- Regions whose order is drawn: some operations are taken first; S holds until a closing operation. -/
set_option linter.unusedVariables false
set_option linter.unusedSimpArgs false
namespace Go.Hb
open Go Go.RowKit
section
variable {P : Program} {md : Region.Mode} {ops : Array Oper} {Q : Exit → Act → World → Prop} {S : World → Prop}
/-- operation c waits for operation i, at once or through others -/
def waitsT (md : Region.Mode) (ops : Array Oper) : Nat → Nat → Nat → Bool
  | 0, _, _ => false
  | n + 1, c, i => match ops[c]? with
    | some o => o.after.toList.any fun e => Region.binds md e && (Nat.beq e.on i || waitsT md ops n e.on i)
    | none => false
/-- what is listed waits for nothing that is not -/
def Shut (md : Region.Mode) (ops : Array Oper) (listed : Array Bool) : Prop := ∀ (j : Nat) (o : Oper), ops[j]? = some o → listed.getD j true = true → ∀ e ∈ o.after, Region.binds md e = true → listed.getD e.on false = true
def shutB (md : Region.Mode) (ops : Array Oper) (listed : Array Bool) : Bool := Nat.beq listed.size ops.size && (List.range ops.size).all fun j => !listed.getD j true || match ops[j]? with
  | some o => o.after.toList.all fun e => !Region.binds md e || listed.getD e.on false
  | none => true
theorem shutB_spec {listed : Array Bool} (h : shutB md ops listed = true) : Shut md ops listed := by
  intro j o ho hl e he hb
  simp only [shutB, Bool.and_eq_true, List.all_eq_true] at h
  have hj : j < ops.size := (Array.getElem?_eq_some_iff.1 ho).1
  have h1 := h.2 j (List.mem_range.2 hj)
  rw [ho, hl] at h1
  simp only [Bool.not_true, Bool.false_or, List.all_eq_true] at h1
  have := h1 e (by simpa using he)
  simpa [hb] using this
theorem waitsT_listed {listed : Array Bool} (hs : Shut md ops listed) {i : Nat} : ∀ (n c : Nat) (o : Oper), ops[c]? = some o → (∀ e ∈ o.after, Region.binds md e = true → listed.getD e.on false = true) → waitsT md ops n c i = true → listed.getD i false = true
  | 0, _, _, _, _, h => by simp [waitsT] at h
  | n + 1, c, o, ho, hl, h => by
    simp only [waitsT, ho, List.any_eq_true, Bool.and_eq_true, Bool.or_eq_true] at h
    obtain ⟨e, he, hb, h2⟩ := h
    have he' : e ∈ o.after := by simpa using he
    have h3 := hl e he' hb
    rcases h2 with h2 | h2
    · rw [← Nat.eq_of_beq_eq_true h2]; exact h3
    · cases hoj : ops[e.on]? with
      | none => cases n <;> simp [waitsT, hoj] at h2
      | some o2 =>
        have h4 : listed.getD e.on true = true := by
          rcases Nat.lt_or_ge e.on listed.size with hs' | hs'
          · simpa [hs'] using h3
          · simp [Array.getElem?_eq_none hs'] at h3
        exact waitsT_listed hs n e.on o2 hoj (hs e.on o2 hoj h4) h2
theorem waitsT_not {n c i : Nat} {listed : Array Bool} (hs : Shut md ops listed) (h : waitsT md ops n c i = true) (hi : i ∈ Region.ready md ops listed) (hc : c ∈ Region.ready md ops listed) : False := by
  obtain ⟨_, oc, hoc, hall⟩ := mem_ready.1 hc
  have h1 := waitsT_listed hs n c oc hoc hall h
  have h0 := (mem_ready.1 hi).1
  rcases Nat.lt_or_ge i listed.size with hs | hs
  · simp [hs] at h0 h1; rw [h0] at h1; cases h1
  · simp [Array.getElem?_eq_none hs] at h1
theorem shut_set {j : Nat} {listed : Array Bool} (hs : Shut md ops listed) (hj : j ∈ Region.ready md ops listed) : Shut md ops (listed.setIfInBounds j true) := by
  intro q o ho hl e he hb
  obtain ⟨_, oj, hoj, hall⟩ := mem_ready.1 hj
  have key : listed.getD e.on false = true := by
    by_cases hq : q = j
    · subst hq; rw [hoj] at ho; cases ho; exact hall e he hb
    · rw [getD_set_ne true (Ne.symm hq)] at hl; exact hs q o ho hl e he hb
  by_cases hq : j = e.on
  · rw [← hq] at key ⊢
    rcases Nat.lt_or_ge j listed.size with h | h
    · simp [h]
    · simp [Array.getElem?_eq_none h] at key
  · rw [getD_set_ne false hq]; exact key
/-- C: the closing operations; S holds behind all others, until one of these has run -/
def wpD (P : Program) (md : Region.Mode) (ops : Array Oper) (Q : Exit → Act → World → Prop) (S : World → Prop) (C : List Nat) : Nat → Array Bool → Act → World → Prop
  | 0, listed, a, w => Region.ready md ops listed = [] ∧ Q .normal a w
  | f + 1, listed, a, w => (Region.ready md ops listed = [] → Q .normal a w) ∧
      ∀ i ∈ Region.ready md ops listed, wpOp P ops Q i (fun a' w' => (C.contains i = true → wpAny P md ops Q f (listed.setIfInBounds i true) a' w') ∧ (C.contains i = false → S w' ∧ wpD P md ops Q S C f (listed.setIfInBounds i true) a' w')) a w
theorem wpD_any {C : List Nat} : ∀ (f : Nat) (listed : Array Bool) (a : Act) (w : World), wpD P md ops Q S C f listed a w → wpAny P md ops Q f listed a w
  | 0, _, _, _, h => h
  | f + 1, listed, a, w, h => ⟨h.1, fun i hi => wpOp_mono (fun a' w' hk => by
      cases hc : C.contains i with
      | true => exact hk.1 hc
      | false => exact wpD_any f _ _ _ (hk.2 hc).2) (h.2 i hi)⟩
theorem wpD_take {C : List Nat} {N i : Nat} {o : Oper} {v : Value} (ho : ops[i]? = some o) (hsel : ∀ (j : Nat) (o : Oper) cs b, ops[j]? = some o → o.op ≠ .select cs b) (hw : ∀ c, C.contains c = true → waitsT md ops N c i = true)
    (hQ : ∀ c a w, Q (.panic c) (a.put o.dst v) w → Q (.panic c) a w) : ∀ (f : Nat) (listed : Array Bool) (a : Act) (w : World), Shut md ops listed →
      (∀ j oj, ops[j]? = some oj → j ≠ i → listed.getD j true = false → (∀ e ∈ oj.after, Region.binds md e = true → e.on ≠ i) → o.apart ops oj = true) →
      i ∈ Region.ready md ops listed → YieldsIf P ops S o v a → S w → wpD P md ops Q S C f (listed.setIfInBounds i true) (a.put o.dst v) w → wpD P md ops Q S C (f + 1) listed a w
  | f, listed, a, w, hsh, hfree, hr, hy, hS, H => by
    have hic : C.contains i = false := by
      cases hc : C.contains i with
      | false => rfl
      | true => exact (waitsT_not hsh (hw i hc) hr hr).elim
    refine ⟨fun h => (by rw [h] at hr; cases hr), fun j hj => ?_⟩
    by_cases hji : j = i
    · subst hji
      exact hy.wpOp ho hS ⟨fun h => (by rw [hic] at h; cases h), fun _ => ⟨hS, H⟩⟩
    · have hjc : C.contains j = false := by
        cases hc : C.contains j with
        | false => rfl
        | true => exact (waitsT_not hsh (hw j hc) hr hj).elim
      cases f with
      | zero =>
        have := ready_mono hj hji
        rw [H.1] at this
        cases this
      | succ f =>
        have h1 := H.2 j (ready_mono hj hji)
        obtain ⟨hjun, oj, hoj, hall⟩ := mem_ready.1 hj
        have hnot : ∀ e ∈ oj.after, Region.binds md e = true → e.on ≠ i := fun e he hb heq => by
          have h1 := hall e he hb
          have h0 := (mem_ready.1 hr).1
          rw [heq] at h1
          rcases Nat.lt_or_ge i listed.size with hs | hs
          · simp [hs] at h0 h1; rw [h0] at h1; cases h1
          · simp [Array.getElem?_eq_none hs] at h1
        have h2 := wpOp_putIf hoj (hfree j oj hoj hji hjun hnot) (fun cs b => hsel i o cs b ho) (fun cs b => hsel j oj cs b hoj) hQ hy h1
        refine wpOp_mono (fun a' w' h3 => ⟨fun h => (by rw [hjc] at h; cases h), fun _ => ?_⟩) h2
        obtain ⟨hS3, h4⟩ := h3.2.2 hjc
        refine ⟨hS3, wpD_take ho hsel hw hQ f (listed.setIfInBounds j true) a' w' (shut_set hsh hj) (fun q oq hq hqi hun hno => hfree q oq hq hqi ?_ hno) (ready_mono hr (Ne.symm hji)) h3.1 hS3 ?_⟩
        · by_cases hjq : j = q
          · subst hjq; exact hjun
          · rw [getD_set_ne true hjq] at hun; exact hun
        · rw [Array.setIfInBounds_comm _ _ hji]
          exact h4
theorem yields_of {o : Oper} {v : Value} {a : Act} (h : YieldsIf P ops (fun _ => True) o v a) : Yields P ops o v a := h.imp (fun ⟨hw, hv⟩ => ⟨hw, fun w => hv w trivial⟩) id
/-- the same of what yields in whatever world: C need not wait for it -/
theorem wpD_takeU {C : List Nat} {i : Nat} {o : Oper} {v : Value} (ho : ops[i]? = some o) (hsel : ∀ (j : Nat) (o : Oper) cs b, ops[j]? = some o → o.op ≠ .select cs b) (hic : C.contains i = false)
    (hQ : ∀ c a w, Q (.panic c) (a.put o.dst v) w → Q (.panic c) a w) : ∀ (f : Nat) (listed : Array Bool) (a : Act) (w : World),
      (∀ j oj, ops[j]? = some oj → j ≠ i → listed.getD j true = false → (∀ e ∈ oj.after, Region.binds md e = true → e.on ≠ i) → o.apart ops oj = true) →
      i ∈ Region.ready md ops listed → YieldsIf P ops (fun _ => True) o v a → S w → wpD P md ops Q S C f (listed.setIfInBounds i true) (a.put o.dst v) w → wpD P md ops Q S C (f + 1) listed a w
  | f, listed, a, w, hfree, hr, hy, hS, H => by
    refine ⟨fun h => (by rw [h] at hr; cases hr), fun j hj => ?_⟩
    by_cases hji : j = i
    · subst hji
      exact hy.wpOp ho trivial ⟨fun h => (by rw [hic] at h; cases h), fun _ => ⟨hS, H⟩⟩
    · cases f with
      | zero =>
        have := ready_mono hj hji
        rw [H.1] at this
        cases this
      | succ f =>
        have h1 := H.2 j (ready_mono hj hji)
        obtain ⟨hjun, oj, hoj, hall⟩ := mem_ready.1 hj
        have hnot : ∀ e ∈ oj.after, Region.binds md e = true → e.on ≠ i := fun e he hb heq => by
          have h1 := hall e he hb
          have h0 := (mem_ready.1 hr).1
          rw [heq] at h1
          rcases Nat.lt_or_ge i listed.size with hs | hs
          · simp [hs] at h0 h1; rw [h0] at h1; cases h1
          · simp [Array.getElem?_eq_none hs] at h1
        have h2 := wpOp_putIf hoj (hfree j oj hoj hji hjun hnot) (fun cs b => hsel i o cs b ho) (fun cs b => hsel j oj cs b hoj) hQ hy h1
        have hfree2 : ∀ q oq, ops[q]? = some oq → q ≠ i → (listed.setIfInBounds j true).getD q true = false → (∀ e ∈ oq.after, Region.binds md e = true → e.on ≠ i) → o.apart ops oq = true := fun q oq hq hqi hun hno => hfree q oq hq hqi (by
          by_cases hjq : j = q
          · subst hjq; exact hjun
          · rw [getD_set_ne true hjq] at hun; exact hun) hno
        refine wpOp_mono (fun a' w' h3 => ⟨fun hc => ?_, fun hc => ?_⟩) h2
        · have h4 := h3.2.1 hc
          rw [Array.setIfInBounds_comm _ _ (Ne.symm hji)] at h4
          exact wpAny_first ho hsel hQ f _ a' w' hfree2 (ready_mono hr (Ne.symm hji)) (yields_of h3.1) h4
        · obtain ⟨hS3, h4⟩ := h3.2.2 hc
          rw [Array.setIfInBounds_comm _ _ (Ne.symm hji)] at h4
          exact ⟨hS3, wpD_takeU ho hsel hic hQ f _ a' w' hfree2 (ready_mono hr (Ne.symm hji)) h3.1 hS3 h4⟩
theorem wpAny_fuel0 {f : Nat} {listed : Array Bool} {a : Act} {w : World} (h : Region.ready md ops listed = []) (hq : Q .normal a w) : wpAny P md ops Q f listed a w := wpAny_done h hq f
end
section
variable {P : Program} {lo : List Oper} {Q : Exit → Act → World → Prop} {n : Nat} {ds : List Deferred} {E E' : Env} {w w' : World} {S : World → Prop} {C : List Nat} {f : Nat} {listed : Array Bool}
def PanOk (Q : Exit → Act → World → Prop) : Prop := ∀ c a d v w, Q (.panic c) (Act.put a d v) w → Q (.panic c) a w
/-- all that is still to do, in any order -/
def DA (P : Program) (lo : List Oper) (Q : Exit → Act → World → Prop) (n : Nat) (ds : List Deferred) (f : Nat) (listed : Array Bool) (E : Env) (w : World) : Prop :=
  PanOk Q → ∀ a, Fits n ds E a → wpAny P .any lo.toArray Q f listed a w
/-- the same, where S holds until an operation of C has run -/
def DX (P : Program) (lo : List Oper) (Q : Exit → Act → World → Prop) (n : Nat) (ds : List Deferred) (S : World → Prop) (C : List Nat) (f : Nat) (listed : Array Bool) (E : Env) (w : World) : Prop :=
  PanOk Q → S w → ∀ a, Fits n ds E a → wpD P .any lo.toArray Q S C f listed a w
theorem da_region [hm : Mixed P] {id : Nat} (hQ : PanOk Q) (h : DA P lo Q n ds lo.length (List.replicate lo.length false).toArray E w.drew) : CW P Q n ds (.region id lo.toArray true) E w := by
  intro a ha
  have := h hQ a ha
  refine wp_region_any hm.eq ?_
  rw [show Array.replicate lo.toArray.size false = (List.replicate lo.length false).toArray from by simp]
  exact this
/-- a phase begins -/
theorem da_phase (S : World → Prop) (C : List Nat) (hS : S w) (h : DX P lo Q n ds S C f listed E w) : DA P lo Q n ds f listed E w := fun hQ a ha => wpD_any _ _ _ _ (h hQ hS a ha)
def okX (lo : List Oper) (C : List Nat) (listed : Array Bool) (i : Nat) : Bool :=
  Region.noSelect lo.toArray && Region.free .any lo.toArray listed i && (Region.ready .any lo.toArray listed).contains i && shutB .any lo.toArray listed && C.all fun c => waitsT .any lo.toArray lo.length c i
theorem dx_y (i : Nat) {o : Oper} {v : Value} (hok : okX lo C listed i = true) (hi : nthO lo i = some o) (hg : gd lo.toArray E o.guard = some true) (hd : dok n o.dst = true) (hy : ∀ w, S w → Yld P n ds E w o v)
    (h : DX P lo Q n ds S C f (listed.setIfInBounds i true) (E.put o.dst v) w) : DX P lo Q n ds S C (f + 1) listed E w := fun hQ hS a ha => by
  simp only [okX, Bool.and_eq_true] at hok
  exact wpD_take (N := lo.length) (by simpa [nthO_eq] using hi) (Region.noSelect_spec hok.1.1.1.1) (fun c hc => List.all_eq_true.1 hok.2 c (by simpa using hc)) (fun c a w => hQ c a _ _ w) f _ a w (shutB_spec hok.1.2) (Region.free_spec (by simpa [nthO_eq] using hi) hok.1.1.1.2) (by simpa using hok.1.1.2) (.inl ⟨gd_sound ha hg, fun w hw => (hy w hw).run a ha⟩) hS (h hQ hS _ (ha.put hd v))
def okU (lo : List Oper) (C : List Nat) (listed : Array Bool) (i : Nat) : Bool :=
  Region.noSelect lo.toArray && Region.free .any lo.toArray listed i && (Region.ready .any lo.toArray listed).contains i && !C.contains i
/-- .. in whatever world -/
theorem dx_u (i : Nat) {o : Oper} {v : Value} (hok : okU lo C listed i = true) (hi : nthO lo i = some o) (hg : gd lo.toArray E o.guard = some true) (hd : dok n o.dst = true) (hy : ∀ w, Yld P n ds E w o v)
    (h : DX P lo Q n ds S C f (listed.setIfInBounds i true) (E.put o.dst v) w) : DX P lo Q n ds S C (f + 1) listed E w := fun hQ hS a ha => by
  simp only [okU, Bool.and_eq_true] at hok
  exact wpD_takeU (by simpa [nthO_eq] using hi) (Region.noSelect_spec hok.1.1.1) (by simpa using hok.2) (fun c a w => hQ c a _ _ w) f _ a w (Region.free_spec (by simpa [nthO_eq] using hi) hok.1.1.2) (by simpa using hok.1.2) (.inl ⟨gd_sound ha hg, fun w _ => (hy w).run a ha⟩) hS (h hQ hS _ (ha.put hd v))
theorem dx_pass (i : Nat) {o : Oper} (hok : okU lo C listed i = true) (hi : nthO lo i = some o) (hg : gd lo.toArray E o.guard = some false) (hd : dok n o.dst = true)
    (h : DX P lo Q n ds S C f (listed.setIfInBounds i true) (E.put o.dst undef) w) : DX P lo Q n ds S C (f + 1) listed E w := fun hQ hS a ha => by
  simp only [okU, Bool.and_eq_true] at hok
  exact wpD_takeU (by simpa [nthO_eq] using hi) (Region.noSelect_spec hok.1.1.1) (by simpa using hok.2) (fun c a w => hQ c a _ _ w) f _ a w (Region.free_spec (by simpa [nthO_eq] using hi) hok.1.1.2) (by simpa using hok.1.2) (.inr ⟨gd_sound ha hg, rfl⟩) hS (h hQ hS _ (ha.put hd undef))
/-- a bool that is not known yet -/
theorem dx_split (t : Nat) {b : Bool} (hb : look E t = some (.bool b)) (h1 : b = true → DX P lo Q n ds S C f listed ((t, .bool true) :: E) w) (h2 : b = false → DX P lo Q n ds S C f listed ((t, .bool false) :: E) w) : DX P lo Q n ds S C f listed E w := fun hQ hS a ha => by
  have key : ∀ c, b = c → Fits n ds ((t, .bool c) :: E) a := fun c e => ⟨ha.size, ha.defers, fun u v hu => by
    have := look_put E t (.bool c) u
    simp only [Env.put] at this
    rw [this] at hu
    split at hu
    · next e2 => subst e2; cases hu; rw [← e]; exact ha.at_ _ _ hb
    · exact ha.at_ _ _ hu⟩
  cases b
  · exact h2 rfl hQ hS a (key false rfl)
  · exact h1 rfl hQ hS a (key true rfl)
/-- only operation i may come up; S holds behind it -/
theorem dx_only (i : Nat) {o : Oper} (hr : Region.ready .any lo.toArray listed = [i]) (hi : nthO lo i = some o) (hc : C.contains i = false)
    (h : OW P lo.toArray Q n ds o (fun E w => S w ∧ DX P lo Q n ds S C f (listed.setIfInBounds i true) E w) E w) : DX P lo Q n ds S C (f + 1) listed E w := fun hQ hS a ha => by
  refine ⟨fun h0 => (by rw [hr] at h0; cases h0), fun j hj => ?_⟩
  rw [hr] at hj
  obtain rfl : j = i := by simpa using hj
  exact op_of hi h (fun E' a' w' hf' hk => ⟨fun e => (by rw [hc] at e; cases e), fun _ => ⟨hk.1, hk.2 hQ hk.1 a' hf'⟩⟩) ha
/-- only operation i may come up, and it closes -/
theorem dx_close (i : Nat) {o : Oper} (hr : Region.ready .any lo.toArray listed = [i]) (hi : nthO lo i = some o) (hc : C.contains i = true)
    (h : OW P lo.toArray Q n ds o (fun E w => DA P lo Q n ds f (listed.setIfInBounds i true) E w) E w) : DX P lo Q n ds S C (f + 1) listed E w := fun hQ hS a ha => by
  refine ⟨fun h0 => (by rw [hr] at h0; cases h0), fun j hj => ?_⟩
  rw [hr] at hj
  obtain rfl : j = i := by simpa using hj
  exact op_of hi h (fun E' a' w' hf' hk => ⟨fun _ => hk hQ a' hf', fun e => (by rw [hc] at e; cases e)⟩) ha
theorem da_only (i : Nat) {o : Oper} (hr : Region.ready .any lo.toArray listed = [i]) (hi : nthO lo i = some o)
    (h : OW P lo.toArray Q n ds o (fun E w => DA P lo Q n ds f (listed.setIfInBounds i true) E w) E w) : DA P lo Q n ds (f + 1) listed E w := fun hQ a ha => by
  refine ⟨fun h0 => (by rw [hr] at h0; cases h0), fun j hj => ?_⟩
  rw [hr] at hj
  obtain rfl : j = i := by simpa using hj
  exact op_of hi h (fun E' a' w' hf' hk => hk hQ a' hf') ha
/-- two may come up -/
theorem dx_two (i j : Nat) {o o' : Oper} (hr : Region.ready .any lo.toArray listed = [i, j]) (hi : nthO lo i = some o) (hj : nthO lo j = some o') (hci : C.contains i = false) (hcj : C.contains j = false)
    (h1 : OW P lo.toArray Q n ds o (fun E w => S w ∧ DX P lo Q n ds S C f (listed.setIfInBounds i true) E w) E w) (h2 : OW P lo.toArray Q n ds o' (fun E w => S w ∧ DX P lo Q n ds S C f (listed.setIfInBounds j true) E w) E w) : DX P lo Q n ds S C (f + 1) listed E w := fun hQ hS a ha => by
  refine ⟨fun h0 => (by rw [hr] at h0; cases h0), fun q hq => ?_⟩
  rw [hr] at hq
  rcases List.mem_cons.1 hq with rfl | hq
  · exact op_of hi h1 (fun E' a' w' hf' hk => ⟨fun e => (by rw [hci] at e; cases e), fun _ => ⟨hk.1, hk.2 hQ hk.1 a' hf'⟩⟩) ha
  · obtain rfl : q = j := by simpa using hq
    exact op_of hj h2 (fun E' a' w' hf' hk => ⟨fun e => (by rw [hcj] at e; cases e), fun _ => ⟨hk.1, hk.2 hQ hk.1 a' hf'⟩⟩) ha
theorem da_two (i j : Nat) {o o' : Oper} (hr : Region.ready .any lo.toArray listed = [i, j]) (hi : nthO lo i = some o) (hj : nthO lo j = some o')
    (h1 : OW P lo.toArray Q n ds o (fun E w => DA P lo Q n ds f (listed.setIfInBounds i true) E w) E w) (h2 : OW P lo.toArray Q n ds o' (fun E w => DA P lo Q n ds f (listed.setIfInBounds j true) E w) E w) : DA P lo Q n ds (f + 1) listed E w := fun hQ a ha => by
  refine ⟨fun h0 => (by rw [hr] at h0; cases h0), fun q hq => ?_⟩
  rw [hr] at hq
  rcases List.mem_cons.1 hq with rfl | hq
  · exact op_of hi h1 (fun E' a' w' hf' hk => hk hQ a' hf') ha
  · obtain rfl : q = j := by simpa using hq
    exact op_of hj h2 (fun E' a' w' hf' hk => hk hQ a' hf') ha
theorem da_end (hr : Region.ready .any lo.toArray listed = []) (h : QW Q n ds .normal E w) : DA P lo Q n ds f listed E w := fun _ a ha => wpAny_done hr (h a ha) f
theorem dx_end (hr : Region.ready .any lo.toArray listed = []) (h : QW Q n ds .normal E w) : DX P lo Q n ds S C f listed E w := fun _ _ a ha => by
  cases f with
  | zero => exact ⟨hr, h a ha⟩
  | succ f => exact ⟨fun _ => h a ha, fun i hi => by rw [hr] at hi; cases hi⟩
/-- the end of one operation of a drawn region -/
theorem o_done {K : Env → World → Prop} (h : K E w) : LW P lo.toArray (fun e a w => match e with | .normal => ∃ E', Fits n ds E' a ∧ K E' w | _ => False) n ds [] E w := l_nil (o_end h)
/-- a bool that is not known yet -/
theorem l_split (t : Nat) {b : Bool} {ops : Array Oper} {l : List Oper} (hb : look E t = some (.bool b)) (h1 : b = true → LW P ops Q n ds l ((t, .bool true) :: E) w) (h2 : b = false → LW P ops Q n ds l ((t, .bool false) :: E) w) : LW P ops Q n ds l E w := fun a ha => by
  have key : ∀ c, b = c → Fits n ds ((t, .bool c) :: E) a := fun c e => ⟨ha.size, ha.defers, fun u v hu => by
    have := look_put E t (.bool c) u
    simp only [Env.put] at this
    rw [this] at hu
    split at hu
    · next e2 => subst e2; cases hu; rw [← e]; exact ha.at_ _ _ hb
    · exact ha.at_ _ _ hu⟩
  cases b
  · exact h2 rfl a (key false rfl)
  · exact h1 rfl a (key true rfl)
theorem ndt {p : Prop} [Decidable p] (h : (!decide p) = true) : ¬ p := by simpa using h
theorem ndf {p : Prop} [Decidable p] (h : (!decide p) = false) : p := by simpa using h
/-- results that lie in memory -/
theorem finC {k : Ctx} {l : List HP} {fn : Func} {T' : Value → World → Prop} {t b m : Nat} {ty T : TypeId} {vs : List Value} {L : HP → List HP} [hl : Lay P ty true m] (hO : Own k w l) (hrs : fn.results = #[.cell t ty]) (hv : look E t = some (.pointer (some ⟨b, 0, none⟩))) [ha : AtB l b T vs L] (hT : T' (.agg vs.toArray) w) (hm : vs.length = m := by rfl) :
    QW (bodyPost P fn fun e w' => ∃ v, e = .returned v ∧ T' v w') n [] .ret E w := by
  obtain ⟨q, hq⟩ := ha.self
  exact finc (m := m) hrs hv hm (hO.holds hq (.ofBlkA m (by rw [List.drop_zero]; exact List.take_of_length_le (by omega)))) hT
theorem finC1 {k : Ctx} {l : List HP} {fn : Func} {T' : Value → World → Prop} {t b m u : Nat} {x : Value} {ty T : TypeId} {vs : List Value} {L : HP → List HP} [hl : Lay P ty true m] (hO : Own k w l) (hrs : fn.results = #[.cell t ty, .tmp u]) (hv : look E t = some (.pointer (some ⟨b, 0, none⟩))) (hx : look E u = some x) [ha : AtB l b T vs L] (hT : T' (.tuple #[.agg vs.toArray, x]) w) (hm : vs.length = m := by rfl) :
    QW (bodyPost P fn fun e w' => ∃ v, e = .returned v ∧ T' v w') n [] .ret E w := by
  obtain ⟨q, hq⟩ := ha.self
  exact finc1 (m := m) hrs hv hx hm (hO.holds hq (.ofBlkA m (by rw [List.drop_zero]; exact List.take_of_length_le (by omega)))) hT
theorem finC2 {k : Ctx} {l : List HP} {fn : Func} {T' : Value → World → Prop} {t b m u s : Nat} {x y : Value} {ty T : TypeId} {vs : List Value} {L : HP → List HP} [hl : Lay P ty true m] (hO : Own k w l) (hrs : fn.results = #[.cell t ty, .tmp u, .tmp s]) (hv : look E t = some (.pointer (some ⟨b, 0, none⟩))) (hx : look E u = some x) (hy : look E s = some y) [ha : AtB l b T vs L] (hT : T' (.tuple #[.agg vs.toArray, x, y]) w) (hm : vs.length = m := by rfl) :
    QW (bodyPost P fn fun e w' => ∃ v, e = .returned v ∧ T' v w') n [] .ret E w := by
  obtain ⟨q, hq⟩ := ha.self
  exact finc2 (m := m) hrs hv hx hy hm (hO.holds hq (.ofBlkA m (by rw [List.drop_zero]; exact List.take_of_length_le (by omega)))) hT
/-! parts by key -/
inductive Key
  | b (n : Nat)
  | p (a : Option Addr)
  | f
  | s
  | o (n : Nat)
class AtK (l : List HP) (q : Key) (A : outParam HP) (rl : outParam (List HP)) : Prop where
  pull : Pull l A rl
instance (priority := high) AtK.hb (b : Nat) (T : TypeId) (vs : List Value) (l : List HP) : AtK (blk b T vs :: l) (.b b) (blk b T vs) l := ⟨.hd _ l⟩
instance (priority := high) AtK.hp (p : Option Addr) (T : TypeId) (α : Type) (c sz : Nat) (enc : α → List Value) (xs : List α) (l : List HP) : AtK (sls p c T sz enc xs :: l) (.p p) (sls p c T sz enc xs) l := ⟨.hd _ l⟩
instance (priority := high) AtK.hf (F : Pl) (l : List HP) : AtK (pool F :: l) .f (pool F) l := ⟨.hd _ l⟩
instance (priority := high) AtK.hs (m l : List HP) : AtK (sep m :: l) .s (sep m) l := ⟨.hd _ l⟩
instance (priority := high) AtK.hobj (b : Nat) (o : Obj) (l : List HP) : AtK (obj b o :: l) (.o b) (obj b o) l := ⟨.hd _ l⟩
instance AtK.tl (q : Key) (A C : HP) (l rl : List HP) [h : AtK l q A rl] : AtK (C :: l) q A (C :: rl) := ⟨.tl C h.pull⟩
instance AtK.app (q : Key) (A C : HP) (m l rl : List HP) [h : AtK (C :: (m ++ l)) q A rl] : AtK ((C :: m) ++ l) q A rl := h
instance AtK.app0 (q : Key) (A : HP) (l rl : List HP) [h : AtK l q A rl] : AtK ([] ++ l) q A rl := h
class AtKs (l : List HP) (qs : List Key) (As : outParam (List HP)) (rl : outParam (List HP)) (m : outParam (List HP)) : Prop where
  pulls : Pulls l As rl
  eq : As ++ rl = m
instance AtKs.nil (l : List HP) : AtKs l [] [] l l := ⟨.nil l, rfl⟩
instance AtKs.cons (l l' l'' m : List HP) (q : Key) (qs : List Key) (A : HP) (As : List HP) [h : AtK l q A l'] [hs : AtKs l' qs As l'' m] : AtKs l (q :: qs) (A :: As) l'' (A :: m) := ⟨.cons h.pull hs.pulls, by rw [List.cons_append, hs.eq]⟩
theorem SO.ks {k : Ctx} {l rl As m : List HP} (qs : List Key) [hp : AtKs l qs As rl m] (h : Own k w l) : SO k As w := ⟨rl, h.pulls hp.pulls⟩
theorem Own.ks {k : Ctx} {l rl As m : List HP} (qs : List Key) [hp : AtKs l qs As rl m] (h : Own k w l) : Own k w m := by
  have := h.pulls hp.pulls
  rwa [hp.eq] at this
theorem Own.only {k : Ctx} {l rl As m : List HP} (qs : List Key) [hp : AtKs l qs As rl m] (h : Own k w l) : Own k w As := Own.front (h.pulls hp.pulls)
theorem Own.one {k : Ctx} {w : World} {l : List HP} {A : HP} (h : Own k w (A :: l)) : Own k w [A] := Own.front (l := [_]) h
theorem Own.two {k : Ctx} {w : World} {l : List HP} {A B : HP} (h : Own k w (A :: B :: l)) : Own k w [A, B] := Own.front (l := [_, _]) h
theorem SO.all {k : Ctx} {l : List HP} (h : Own k w l) : SO k l w := ⟨[], by rw [List.append_nil]; exact h⟩
theorem SO.p1 {k : Ctx} {l rl : List HP} {α : Type} (R : α → HP) {x : α} [hp : Pick R l x rl] (h : Own k w l) : SO k [R x] w := ⟨rl, h.pull hp.pull⟩
theorem SO.p2 {k : Ctx} {l rl rl2 : List HP} {α β : Type} (R : α → HP) (R2 : β → HP) {x : α} {y : β} [hp : Pick R l x rl] [hp2 : Pick R2 rl y rl2] (h : Own k w l) : SO k [R x, R2 y] w := ⟨rl2, h.pulls (.cons hp.pull (.cons hp2.pull (.nil _)))⟩
theorem SO.p3 {k : Ctx} {l rl rl2 rl3 : List HP} {α β γ : Type} (R : α → HP) (R2 : β → HP) (R3 : γ → HP) {x : α} {y : β} {z : γ} [hp : Pick R l x rl] [hp2 : Pick R2 rl y rl2] [hp3 : Pick R3 rl2 z rl3] (h : Own k w l) : SO k [R x, R2 y, R3 z] w := ⟨rl3, h.pulls (.cons hp.pull (.cons hp2.pull (.cons hp3.pull (.nil _))))⟩
theorem SO.none {k : Ctx} {l : List HP} (h : Own k w l) : SO k [] w := ⟨l, h⟩
end
end Go.Hb

/- Lists; parts of a row of parts; calls by key. -/
set_option linter.unusedVariables false
set_option linter.unusedSimpArgs false
namespace Go.Hb
open Go Go.RowKit
/-! ### 40. Where something stands -/
section
variable {α β : Type} [Inhabited α] [Inhabited β]
/-- the place of the first that is p; -1 -/
def idx (p : α → Bool) (xs : List α) : Int := if xs.any p then ((xs.findIdx p : Nat) : Int) else -1
theorem idx_at {p : α → Bool} {xs : List α} {i : Nat} (hi : i < xs.length) (h : p (at_ xs i) = true) (hn : ∀ j, j < i → p (at_ xs j) = false) : idx p xs = i := by
  have h0 : xs.any p = true := List.any_eq_true.2 ⟨_, at_mem hi, h⟩
  rw [idx, if_pos h0]
  have e : ∀ j (hj : j < xs.length), xs[j] = at_ xs j := fun j hj => (at_eq (List.getElem?_eq_getElem hj)).symm
  have := (List.findIdx_eq hi (p := p)).2 ⟨by rw [e]; exact h, fun j hj => by rw [e]; exact hn j hj⟩
  rw [this]
theorem idx_none {p : α → Bool} {xs : List α} (hn : ∀ j, j < xs.length → p (at_ xs j) = false) : idx p xs = -1 := by
  have h0 : ¬ xs.any p = true := fun h => by
    obtain ⟨x, hx, hp⟩ := List.any_eq_true.1 h
    obtain ⟨i, hi, rfl⟩ := mem_at hx
    rw [hn i hi] at hp; cases hp
  rw [idx, if_neg h0]
theorem idx_cases (p : α → Bool) (xs : List α) : (idx p xs = -1 ∧ ∀ j, j < xs.length → p (at_ xs j) = false) ∨ ∃ i : Nat, idx p xs = i ∧ i < xs.length ∧ p (at_ xs i) = true ∧ ∀ j, j < i → p (at_ xs j) = false := by
  by_cases h : ∃ i, i < xs.length ∧ p (at_ xs i) = true
  · right
    have h1 : ∃ i, (i < xs.length ∧ p (at_ xs i) = true) := h
    let rec go : ∀ n, (∀ j, j < n → ¬ (j < xs.length ∧ p (at_ xs j) = true)) ∨ ∃ i, i < n ∧ i < xs.length ∧ p (at_ xs i) = true ∧ ∀ j, j < i → p (at_ xs j) = false := fun n => by
      induction n with
      | zero => exact .inl fun j hj => by omega
      | succ n ih =>
        rcases ih with h | ⟨i, h1, h2, h3, h4⟩
        · by_cases hn : n < xs.length ∧ p (at_ xs n) = true
          · exact .inr ⟨n, by omega, hn.1, hn.2, fun j hj => by
              have := h j hj
              cases hp : p (at_ xs j) with
              | false => rfl
              | true => exact absurd ⟨by omega, hp⟩ this⟩
          · left; intro j hj
            by_cases e : j = n
            · rw [e]; exact hn
            · exact h j (by omega)
        · exact .inr ⟨i, by omega, h2, h3, h4⟩
    obtain ⟨i, hi, hp⟩ := h
    rcases go (i + 1) with h | ⟨j, h1, h2, h3, h4⟩
    · exact absurd ⟨hi, hp⟩ (h i (by omega))
    · exact ⟨j, idx_at h2 h3 h4, h2, h3, h4⟩
  · left
    have hn : ∀ j, j < xs.length → p (at_ xs j) = false := fun j hj => by
      cases hp : p (at_ xs j) with
      | false => rfl
      | true => exact absurd ⟨j, hj, hp⟩ h
    exact ⟨idx_none hn, hn⟩
theorem map_set_same {f : α → β} {xs : List α} {i : Nat} {u : α} (h : f u = f (at_ xs i)) : (xs.set i u).map f = xs.map f := by
  by_cases hi : i < xs.length
  · rw [List.map_set, h, ← at_map (f := f) hi, set_at (by simpa using hi)]
  · rw [List.set_eq_of_length_le (by omega)]
theorem map_set_same' {γ : Type} {f : α → γ} {xs : List α} {i : Nat} {u : α} (h : f u = f (at_ xs i)) : (xs.set i u).map f = xs.map f := by
  by_cases hi : i < xs.length
  · apply List.ext_getElem?
    intro j
    rw [List.getElem?_map, List.getElem?_map]
    by_cases e : i = j
    · subst e; rw [List.getElem?_set_self hi, at_get hi]; simp [h]
    · rw [List.getElem?_set_ne e]
  · rw [List.set_eq_of_length_le (by omega)]
/-! ### 41. A row of parts -/
theorem perm_at {xs : List α} {i : Nat} (hi : i < xs.length) : xs.Perm (at_ xs i :: xs.eraseIdx i) := by
  have e : xs = xs.take i ++ at_ xs i :: xs.drop (i + 1) := by rw [← drop_at hi, List.take_append_drop]
  rw [List.eraseIdx_eq_take_drop_succ]
  conv => lhs; rw [e]
  exact List.perm_middle
theorem perm_put {xs : List α} {i : Nat} (hi : i < xs.length) (y : α) : (xs.set i y).Perm (y :: xs.eraseIdx i) := by
  have := perm_at (xs := xs.set i y) (i := i) (by simpa using hi)
  rw [at_set_eq hi, List.eraseIdx_set_eq] at this
  exact this
theorem sep_pick {f : α → HP} {k : Ctx} {w : World} {l : List HP} {xs : List α} {i : Nat} (hi : i < xs.length) (hO : Own k w (sep (xs.map f) :: l)) : Own k w (f (at_ xs i) :: sep ((xs.eraseIdx i).map f) :: l) := by
  have h1 : Own k w ((f (at_ xs i) :: (xs.eraseIdx i).map f) ++ l) := (Own.open hO).perm (List.Perm.append ((perm_at hi).map f) (List.Perm.refl _))
  have h2 : Own k w ((xs.eraseIdx i).map f ++ (f (at_ xs i) :: l)) := h1.perm (by
    rw [List.cons_append]
    exact (List.perm_middle).symm)
  exact (Own.shut h2).swap
theorem sep_put {f : α → HP} {k : Ctx} {w : World} {l : List HP} {xs : List α} {i : Nat} {y : α} (hi : i < xs.length) (hO : Own k w (f y :: sep ((xs.eraseIdx i).map f) :: l)) : Own k w (sep ((xs.set i y).map f) :: l) := by
  have h1 : Own k w ((xs.eraseIdx i).map f ++ (f y :: l)) := Own.open hO.swap
  exact Own.shut (h1.perm (List.perm_middle.trans (List.Perm.append ((perm_put hi y).symm.map f) (List.Perm.refl l))))
end
/-! ### 42. Calls by key -/
section
variable {P : Program} {ops : Array Oper} {Q : Exit → Act → World → Prop} {n : Nat} {ds : List Deferred} {E E' : Env} {w w' : World}
variable {rest : List Oper} {d : Option Tmp} {ty : TypeId} {pos : String} {aft : Array Edge} {g : Option (Nat × Bool)}
variable {k : Ctx} {l l' : List HP} {A A' : HP}
theorem CK (qs : List Key) {As rl m0 : List HP} [hp : AtKs l qs As rl m0] {f : FuncId} [hf : Fun P f] {xs : List Operand} {tys : Array TypeId} {vs : List Value} {R : Value → List HP → Prop} (hO : Own k w l) (hx : evl E xs = some vs)
    (hc : ∀ k', Ext k k' w → (∀ A ∈ rl, ∀ a cs, Has A a cs → Ro k' a cs) → Own k' w As → Tri P f vs.toArray k' w R)
    (h : ∀ v m w', R v m → Own k w' (m ++ rl) → LW P ops Q n ds rest (E.put d v) w') (hg : gd ops E g = some true := by rfl) (hd : dok n d = true := by rfl) :
    LW P ops Q n ds (⟨d, .call ⟨.value (.func f), xs.toArray, tys⟩, ty, pos, aft, g⟩ :: rest) E w := s_callO hO hp.pulls hg hd hx hc h
theorem sls_roK {p : Option Addr} {T : TypeId} {α : Type} {c sz : Nat} {enc : α → List Value} {xs : List α} {k' : Ctx} {rl rl' : List HP} (hr : ∀ A ∈ rl, ∀ a cs, Has A a cs → Ro k' a cs) [hm : AtK rl (.p p) (sls p c T sz enc xs) rl'] (h1 : xs.length ≤ c ∧ Gs p xs.length) : Sli (Ro k') (.slice p xs.length c) (xs.map enc) :=
  sls_ro (T := T) (sz := sz) hr (hm.pull.perm.mem_iff.2 List.mem_cons_self) h1
theorem pool_roK {F : Pl} {k' : Ctx} {rl rl' : List HP} (hr : ∀ A ∈ rl, ∀ a cs, Has A a cs → Ro k' a cs) [hm : AtK rl .f (pool F) rl'] {v : Value} {rows : List (List Value)} (h : Sli (PH F) v rows) : Sli (Ro k') v rows :=
  h.pool_ro hr (hm.pull.perm.mem_iff.2 (by simp))
end
end Go.Hb
namespace Go.Hb
open Go Go.RowKit
/-! ### 43. Parts of slices -/
/-- where x[i:] begins -/
def subp (p : Option Addr) (c i sz : Nat) : Option Addr := if c = i then p else p.map (·.add (i * sz))
section
variable {P : Program} {ops : Array Oper} {Q : Exit → Act → World → Prop} {n : Nat} {ds : List Deferred} {E E' : Env} {w w' : World}
variable {rest : List Oper} {d : Option Tmp} {ty : TypeId} {pos : String} {aft : Array Edge} {g : Option (Nat × Bool)}
variable {k : Ctx} {l l' : List HP} {A A' : HP}
theorem y_tl {t e : TypeId} {agg : Bool} {sz : Nat} [hu : Und P t (.slice e)] [hl : Lay P e agg sz] {x lo : Operand} {p : Option Addr} {len cap : Nat} {kd : IntKind} {z : Int} (i : Nat)
    (hx : ev E x = some (.slice p len cap)) (hh : ev E lo = some (.int kd z)) (hz : z = (i : Int) := by omega) (hi : i ≤ len := by omega) (hc : len ≤ cap := by omega) : Yld P n ds E w ⟨d, .slice t x (some lo) none none, ty, pos, aft, g⟩ (.slice (subp p cap i sz) (len - i) (cap - i)) :=
  y_tail i hx hh hz hi hc
theorem y_hd {t e : TypeId} {agg : Bool} {sz : Nat} [hu : Und P t (.slice e)] [hl : Lay P e agg sz] {x hi : Operand} {p : Option Addr} {len cap : Nat} {kd : IntKind} {z : Int} (j : Nat)
    (hx : ev E x = some (.slice p len cap)) (hh : ev E hi = some (.int kd z)) (hz : z = (j : Int) := by omega) (hj : j ≤ cap := by omega) : Yld P n ds E w ⟨d, .slice t x none (some hi) none, ty, pos, aft, g⟩ (.slice p j cap) := y_head j hx hh hz hj
theorem y_hd3 {t e : TypeId} {agg : Bool} {sz : Nat} [hu : Und P t (.slice e)] [hl : Lay P e agg sz] {x hi mx : Operand} {p : Option Addr} {len cap : Nat} {kd kd' : IntKind} {z z' : Int} (j m : Nat)
    (hx : ev E x = some (.slice p len cap)) (hh : ev E hi = some (.int kd z)) (hh' : ev E mx = some (.int kd' z')) (hz : z = (j : Int) := by omega) (hz' : z' = (m : Int) := by omega) (hj : j ≤ m := by omega) (hm : m ≤ cap := by omega) : Yld P n ds E w ⟨d, .slice t x none (some hi) (some mx), ty, pos, aft, g⟩ (.slice p j m) := y_head3 j m hx hh hz hh' hz' hj hm
theorem y_md {t e : TypeId} {agg : Bool} {sz : Nat} [hu : Und P t (.slice e)] [hl : Lay P e agg sz] {x lo hi : Operand} {p : Option Addr} {len cap : Nat} {kd kd' : IntKind} {z z' : Int} (i j : Nat)
    (hx : ev E x = some (.slice p len cap)) (h1 : ev E lo = some (.int kd z)) (h2 : ev E hi = some (.int kd' z')) (hz : z = (i : Int) := by omega) (hz' : z' = (j : Int) := by omega) (hij : i ≤ j := by omega) (hj : j ≤ cap := by omega) : Yld P n ds E w ⟨d, .slice t x (some lo) (some hi) none, ty, pos, aft, g⟩ (.slice (subp p cap i sz) (j - i) (cap - i)) :=
  y_part i j cap hx ⟨kd, z, h1, hz⟩ ⟨kd', z', h2, hz'⟩ rfl (fun h => by cases h) hij hj (Nat.le_refl _)
theorem sli_tl {H : Addr → List Value → Prop} (hH : Cuts H) {p : Option Addr} {m cap sz : Nat} {α : Type} {enc : α → List Value} [ho : OneC enc sz] {xs : List α} (h : Sli H (.slice p m cap) (xs.map enc)) (i : Nat) (hi : i ≤ m) : Sli H (.slice (subp p cap i sz) (m - i) (cap - i)) ((xs.drop i).map enc) := by
  have := h.tail hH (OneC.rows xs) i hi
  rwa [← List.map_drop] at this
theorem sli_hd {H : Addr → List Value → Prop} (hH : Cuts H) {p : Option Addr} {n cap sz : Nat} {α : Type} {enc : α → List Value} [ho : OneC enc sz] {xs : List α} (h : Sli H (.slice p n cap) (xs.map enc)) (j m : Nat) (hj : j ≤ n) (hm : j ≤ m) : Sli H (.slice p j m) ((xs.take j).map enc) := by
  have := h.head hH (OneC.rows xs) j m hj hm
  rwa [← List.map_take] at this
theorem sli_md {H : Addr → List Value → Prop} (hH : Cuts H) {p : Option Addr} {n cap sz : Nat} {α : Type} {enc : α → List Value} [ho : OneC enc sz] {xs : List α} (h : Sli H (.slice p n cap) (xs.map enc)) (i j : Nat) (hij : i ≤ j) (hj : j ≤ n) (hc : n ≤ cap) : Sli H (.slice (subp p cap i sz) (j - i) (cap - i)) (((xs.drop i).take (j - i)).map enc) := by
  have := h.cut hH (OneC.rows xs) i j cap hij hj (by omega)
  rwa [← List.map_drop, ← List.map_take] at this
/-- of what is owned only the beginning is kept -/
theorem sls_cut {p : Option Addr} {c sz : Nat} {T : TypeId} {α : Type} {enc : α → List Value} {xs : List α} (hO : Own k w (sls p c T sz enc xs :: l)) (j m : Nat) (hj : j ≤ xs.length) (hjm : j ≤ m) (hm : m ≤ c) : Own k w (sls p m T sz enc (xs.take j) :: l) := by
  refine hO.tell fun h hA => ?_
  have hlen : (xs.take j).length = j := by simp; omega
  rcases hA with ⟨he, h0⟩ | ⟨b, o, cap, he, hA⟩
  · injection he with e1 e2 e3
    have : xs = [] := by simpa using h0
    subst this
    exact .inl ⟨by simp [e1]; omega, by simp⟩
  · injection he with e1 e2 e3
    subst e1 e3
    obtain ⟨pre, spare, h1, h2, h3, h4, h5, h6⟩ := hA
    rw [List.length_map] at h3 h4
    have h2' : ∀ r ∈ (xs.take j).map enc, r.length = sz := fun r hr => h2 r (by rw [List.map_take] at hr; exact List.mem_of_mem_take hr)
    have h2d : ∀ r ∈ (xs.drop j).map enc, r.length = sz := fun r hr => h2 r (by rw [List.map_drop] at hr; exact List.mem_of_mem_drop hr)
    refine .inr ⟨b, o, m, by simp, pre, ((xs.drop j).map enc).flatten ++ spare, h1, h2', ?_, by simp; omega, by omega, ?_⟩
    · rw [List.length_append, flatten_length h2d, List.length_map, List.length_map, hlen, List.length_drop, ← Nat.add_assoc, ← Nat.add_mul, show j + (xs.length - j) = xs.length by omega]
      exact Nat.le_trans (Nat.mul_le_mul_right _ hm) h3
    · rw [h6]
      congr 2
      have : xs.map enc = (xs.take j).map enc ++ (xs.drop j).map enc := by rw [← List.map_append, List.take_append_drop]
      rw [this]
      simp only [List.flatten_append, List.append_assoc]
/-- append(x[:i:i], y...), where x is given up -/
theorem s_appCut {t u T : TypeId} {sz sz' bytes : Nat} {z : Value} {dd : TypeDesc} [hu : Und P t (.slice T)] [he : Elt P T sz bytes z] [hd' : Und P u dd] {x y : Operand} {p : Option Addr} {c m : Nat} {α : Type} {enc : α → List Value} {xs ys : List α} {vy : Value} {rl : List HP} (hO : Own k w l) (hx : ev E x = some (.slice p m m)) (hy : ev E y = some vy) [hp : PkP l p T α c sz' enc xs rl] [ho : OneC enc sz] (hs : Src P w sz vy ys.length (ys.map enc).flatten) (hm : m ≤ xs.length)
    (h : ∀ p' c' w', Own k w' (sls p' c' T sz enc (xs.take m ++ ys) :: rl) → Gs p' (xs.take m ++ ys).length → LW P ops Q n ds rest (E.put d (.slice p' (xs.take m ++ ys).length c')) w') (hsz : sz' = sz := by rfl) (h63 : xs.length + ys.length ≤ 4611686018427387904 := by simp; omega) (hb : (xs.length + ys.length) * bytes ≤ 140737488355328 := by simp; omega)
    (hg : gd ops E g = some true := by rfl) (hd : dok n d = true := by rfl) (hdi : ∀ kk, dd ≠ .int kk := by intro kk h; cases h) : LW P ops Q n ds (⟨d, .call ⟨.builtin .append, #[x, y], #[t, u]⟩, ty, pos, aft, g⟩ :: rest) E w := by
  subst hsz
  have hO1 := hO.pull hp.pull
  have hsl := sls_sli (p := p) hO1
  have hf := sls_fct (p := p) hO1
  have hlen : (xs.take m).length = m := by simp; omega
  by_cases hn : ys = []
  · subst hn
    have hO2 := sls_cut hO1 m m hm (Nat.le_refl _) (by omega)
    have hg2 := (sls_fct (p := p) hO2).2
    refine l_y hg hd (y_appV (p := p) (m := m) (c := m) hx hy (Nat.le_refl _) (fun hp0 => ?_) hs (fun a ha => ?_) hdi) ?_
    · by_cases h0 : m = 0
      · exact ⟨h0, h0⟩
      · obtain ⟨b, o, hb⟩ := hg2 (by omega)
        rw [hp0] at hb; cases hb
    · by_cases h0 : m = 0
      · subst h0
        rcases hO1.fact (p := p = none ∨ ∃ b o, p = some ⟨b, o, Option.none⟩) (fun hh hA => by
          rcases hA with ⟨he, _⟩ | ⟨b, o, cap, he, _⟩
          · injection he with e1; exact .inl e1
          · injection he with e1; exact .inr ⟨b, o, e1⟩) with e | ⟨b, o, e⟩
        · rw [e] at ha; cases ha
        · rw [e] at ha; cases ha; rfl
      · obtain ⟨b, o, hb⟩ := hg2 (by omega)
        rw [hb] at ha; cases ha; rfl
    · have := h p m w (by rw [List.append_nil]; exact hO2) (by rw [List.append_nil]; exact hg2)
      rw [List.append_nil, hlen] at this
      exact this
  · refine s_appV (xs := xs.take m) hO hx hy (sli_hd (cuts_holds w) hsl m m (by omega) (Nat.le_refl _)) hs hn (fun p' c' w' hO' hg' => ?_) ?_ ?_ hg hd hdi
    · have hO3 : Own k w' (sls p c T sz' enc xs :: sls p' c' T sz' enc (xs.take m ++ ys) :: rl) := hO'.perm ((hp.pull.perm.cons _).trans (List.Perm.swap _ _ _))
      exact h p' c' w' hO3.drop hg'
    · rw [hlen]; omega
    · rw [hlen]
      exact Nat.le_trans (Nat.mul_le_mul_right _ (by omega)) hb
end
end Go.Hb

/- Ranges over functions: the statement, a round, an iterator's calls of yield. -/
set_option linter.unusedVariables false
set_option linter.unusedSimpArgs false
namespace Go.Hb
open Go Go.RowKit
/-! ### 50. Code within a round -/
def noDefer : List Oper → Bool
  | [] => true
  | o :: l => (match o.op with | .defer _ => false | _ => true) && noDefer l
section
variable {P : Program} {ops : Array Oper} {Q : Exit → Act → World → Prop} {n : Nat} {ds : List Deferred} {E E' : Env} {w w' : World} {L : Nat}
theorem callsIn_round {f : FuncId} {args : Array Value} {R : Ending → World → Prop} {N : Nat} (h : Calls P f args w R) : CallsIn (Fence.wide.inRound L) N P f args w R := (callsIn_wide (n := N)).2 h
theorem rowsIn_any {F : Fence} (hF : F = Fence.wide ∨ ∃ L, F = Fence.wide.inRound L) {row : String} {args : Array Value} {R : Value → World → Prop} {N : Nat} (h : Rows P row args w R) : RowsIn F N P row args w R := fun c cs _ => by
  obtain ⟨v, w', r, s⟩ := h c cs
  refine ⟨v, w', r, ?_⟩
  rcases hF with rfl | ⟨L, rfl⟩
  · exact stepsIn_wide.2 s
  · exact stepsIn_wide.2 s
theorem list_in (hQ : ¬ LetsOut Q) : ∀ (l : List Oper) (a : Act) (w : World), noDefer l = true → wpList P ops Q l a w → wpListIn (Fence.wide.inRound L) 0 P ops Q l a w
  | [], _, _, _, h => h
  | o :: l, a, w, hd, h => by
    simp only [noDefer, Bool.and_eq_true] at hd
    unfold wpList at h
    unfold wpListIn
    split
    · next hw =>
      rw [if_pos hw] at h
      rcases h with h | ⟨_, hout⟩
      · refine ⟨fun _ _ => trivial, ?_⟩
        rw [Oper.semAt_eq _ _ _ (fun c hc => by rw [hc] at hd; exact absurd hd.1 (by simp))]
        unfold Oper.wp at h
        generalize (execOp a.eval o).run P w = r at h ⊢
        cases r with
        | ok x w1 =>
          cases x with
          | value v => exact list_in hQ l _ _ hd.2 h
          | skip => exact list_in hQ l _ _ hd.2 h
          | defer d => exact list_in hQ l _ _ hd.2 h
          | enter f args =>
            refine ⟨fun _ => by simp_all [Fence.inRound, Fence.wide], callsIn_round (Calls.mono h fun e w2 he => ?_)⟩
            cases e with
            | returned v => exact list_in hQ l _ _ hd.2 he
            | panicked c => exact he
            | outgrown => exact he
          | row r args =>
            refine ⟨fun _ => by simp_all [Fence.inRound, Fence.wide], rowsIn_any (.inr ⟨L, rfl⟩) ?_⟩
            intro c cs
            obtain ⟨v, w', r, s⟩ := h c cs
            exact ⟨v, w', list_in hQ l _ _ hd.2 r, s⟩
          | _ => exact h.elim
        | halt x w1 => cases x <;> first | exact h | exact h.elim
      · exact absurd hout hQ
    · next hw =>
      rw [if_neg hw] at h
      exact ⟨fun _ _ => trivial, list_in hQ l _ _ hd.2 h⟩
/-- code of a round of the loop whose record is L -/
def CR (P : Program) (Q : Exit → Act → World → Prop) (n : Nat) (L : Nat) (c : Code) (E : Env) (w : World) : Prop := ∀ a, Fits n [] E a → c.wpIn (Fence.wide.inRound L) 0 P Q a w
theorem then_out {K : Act → World → Prop} (h : ¬ LetsOut Q) : ¬ LetsOut (Exit.then K Q) := fun ⟨a, w, h2⟩ => h ⟨a, w, h2⟩
theorem block_out {id : Nat} (h : ¬ LetsOut Q) : ¬ LetsOut (Exit.inBlock id Q) := fun ⟨a, w, h2⟩ => h ⟨a, w, h2⟩
class NoOut (Q : Exit → Act → World → Prop) : Prop where
  no : ¬ LetsOut Q
instance NoOut.then (K : Act → World → Prop) (Q : Exit → Act → World → Prop) [h : NoOut Q] : NoOut (Exit.then K Q) := ⟨then_out h.no⟩
instance NoOut.block (id : Nat) (Q : Exit → Act → World → Prop) [h : NoOut Q] : NoOut (Exit.inBlock id Q) := ⟨block_out h.no⟩
instance NoOut.none : NoOut (fun _ _ _ => False) := ⟨fun ⟨_, _, h⟩ => h⟩
theorem CR0 {x y : Code} (h : CR P (Exit.then (y.wpIn (Fence.wide.inRound L) 0 P Q) Q) n L x E w) : CR P Q n L (.seq x y) E w := fun a ha => wpIn_seq (h a ha)
theorem CR1 {id : Nat} {l : List Oper} [hQ : NoOut Q] (h : LW P l.toArray Q n [] l E w) (hd : noDefer l = true := by rfl) : CR P Q n L (.region id l.toArray false) E w := fun a ha => wpIn_region_lit (list_in hQ.no l a w hd (h a ha))
theorem CR3 {y : Code} (h : CR P Q n L y E w) : QW (Exit.then (y.wpIn (Fence.wide.inRound L) 0 P Q) Q) n [] .normal E w := fun a ha => h a ha
theorem CR4 {id : Nat} {c : Code} (h : CR P (Exit.inBlock id Q) n L c E w) : CR P Q n L (.block id c) E w := fun a ha => wpIn_block (h a ha)
theorem CR5 (h : QW Q n [] .normal E w) : CR P Q n L .skip E w := fun a ha => wpIn_skip (h a ha)
theorem CR6 (h : QW Q n [] .ret E w) : CR P Q n L .ret E w := fun a ha => wpIn_ret (h a ha)
theorem CR7 {id : Nat} (h : QW Q n [] (.exit id) E w) : CR P Q n L (.exit id) E w := fun a ha => wpIn_exit (h a ha)
theorem CR8 {c : Operand} {x y : Code} (h : CR P Q n L x E w) (hc : ev E c = some (.bool true) := by rfl) : CR P Q n L (.cond c x y) E w := fun a ha => wpIn_cond_true (ha.eval hc) (h a ha)
theorem CR9 {c : Operand} {x y : Code} (h : CR P Q n L y E w) (hc : ev E c = some (.bool false) := by rfl) : CR P Q n L (.cond c x y) E w := fun a ha => wpIn_cond_false (ha.eval hc) (h a ha)
theorem CRs {c : Operand} {x y : Code} {b : Bool} (hc : ev E c = some (.bool b)) (h1 : b = true → CR P Q n L x E w) (h2 : b = false → CR P Q n L y E w) : CR P Q n L (.cond c x y) E w := fun a ha =>
  wpIn_cond_split (ha.eval hc) (fun e => h1 e a ha) (fun e => h2 e a ha)
end
/-! ### 51. A round -/
def loopO (st : LoopState) (pe : Option Code) (fn : FuncId) (tmps : Array Value) (ps : Array Tmp) (assign body : Code) (D : Nat) : Obj := .loop { state := st, pending := pe, fn, tmps, params := ps, assign, body, defers := D }
section
variable {P : Program} {n : Nat} {E : Env} {w w' : World} {L : Nat} {k : Ctx} {l : List HP}
/-- the round's end: what is asked of the world then -/
def RP (k : Ctx) (L : Nat) (fn : FuncId) (tmps : Array Value) (ps : Array Tmp) (assign body : Code) (D : Nat) (post : List HP → Prop) (stop : Code → List HP → Prop) : Ending → World → Prop := fun e w =>
  (e = .returned (.bool true) ∧ ∃ M, post M ∧ Own k w (obj L (loopO .ready none fn tmps ps assign body D) :: M)) ∨
  (∃ c, e = .returned (.bool false) ∧ ∃ M, stop c M ∧ Own k w (obj L (loopO .done (some c) fn tmps ps assign body D) :: M))
/-- what the body of a round leads to -/
def RQ (k : Ctx) (L : Nat) (fn : FuncId) (tmps : Array Value) (ps : Array Tmp) (assign body : Code) (D : Nat) (post : List HP → Prop) (stop : Code → List HP → Prop) : Exit → Act → World → Prop := fun e _ w => match e with
  | .normal => ∃ M, post M ∧ Own k w (obj L (loopO .busy none fn tmps ps assign body D) :: M)
  | .ret => ∃ M, stop .ret M ∧ Own k w (obj L (loopO .busy none fn tmps ps assign body D) :: M)
  | .exit id => ∃ M, stop (.exit id) M ∧ Own k w (obj L (loopO .busy none fn tmps ps assign body D) :: M)
  | _ => False
theorem RQ_out {fn : FuncId} {tmps : Array Value} {ps : Array Tmp} {assign body : Code} {D : Nat} {post : List HP → Prop} {stop : Code → List HP → Prop} : ¬ LetsOut (RQ k L fn tmps ps assign body D post stop) := fun ⟨_, _, h⟩ => h
instance RQ_noOut (k : Ctx) (L : Nat) (fn : FuncId) (tmps : Array Value) (ps : Array Tmp) (assign body : Code) (D : Nat) (post : List HP → Prop) (stop : Code → List HP → Prop) : NoOut (RQ k L fn tmps ps assign body D post stop) := ⟨RQ_out⟩
theorem obj_at {b : Nat} {o : Obj} (hO : Own k w (obj b o :: l)) : w.heap[b]? = some o := hO.heap fun hp hA hw => (hw b o hA).2
theorem Own.putObj {b : Nat} {o o' : Obj} (hO : Own k w (obj b o :: l)) : Own k (w.putObj b o') (obj b o' :: l) := by
  obtain ⟨w', rfl, hb, hO'⟩ := hO.setObj (o' := o')
  exact hO'
theorem round_ok {fn : FuncId} {tmps tmps' : Array Value} {ps : Array Tmp} {assign body : Code} {D : Nat} {post : List HP → Prop} {stop : Code → List HP → Prop} (hF : Fits n [] E { tmps := tmps', defers := [] }) (hO : Own k w (obj L (loopO .ready none fn tmps ps assign body D) :: l))
    (h : CR P (Exit.then (fun a w1 => ∃ E' l', Fits n [] E' a ∧ Own k w1 (obj L (loopO .ready none fn tmps ps assign body D) :: l') ∧ ∀ w2, Own k w2 (obj L (loopO .busy none fn tmps ps assign body D) :: l') → CR P (RQ k L fn tmps ps assign body D post stop) n L body E' w2) (fun _ _ _ => False)) n L assign E w) :
    RoundIn Fence.wide 0 P L fn tmps' assign body w (RP k L fn tmps ps assign body D post stop) := by
  refine roundIn_of_wpIn trivial (Code.wpIn_mono (fun e a w1 hq => ?_) (h _ hF))
  cases e with
  | normal =>
    obtain ⟨E', l', hF', hO1, hb⟩ := hq
    have hl := obj_at hO1
    refine ⟨_, run_beginRound hl rfl, Code.wpIn_mono (fun e a w3 hq3 => ?_) (hb _ (hO1.putObj (o' := loopO .busy none fn tmps ps assign body D)) a hF')⟩
    cases e with
    | normal =>
      obtain ⟨M, hp, hO3⟩ := hq3
      exact ⟨_, _, run_endRound none (obj_at hO3), .inl ⟨rfl, M, hp, hO3.putObj (o' := loopO .ready none fn tmps ps assign body D)⟩⟩
    | ret =>
      obtain ⟨M, hp, hO3⟩ := hq3
      exact ⟨_, _, run_endRound (some .ret) (obj_at hO3), .inr ⟨.ret, rfl, M, hp, hO3.putObj (o' := loopO .done (some .ret) fn tmps ps assign body D)⟩⟩
    | exit id =>
      obtain ⟨M, hp, hO3⟩ := hq3
      exact ⟨_, _, run_endRound (some (.exit id)) (obj_at hO3), .inr ⟨.exit id, rfl, M, hp, hO3.putObj (o' := loopO .done (some (.exit id)) fn tmps ps assign body D)⟩⟩
    | _ => exact hq3.elim
  | _ => exact hq.elim
/-- the assignments are done: the body begins -/
theorem q_assign {fn : FuncId} {tmps : Array Value} {ps : Array Tmp} {assign body : Code} {D : Nat} {post : List HP → Prop} {stop : Code → List HP → Prop} (hO : Own k w (obj L (loopO .ready none fn tmps ps assign body D) :: l))
    (h : ∀ w2, Own k w2 (obj L (loopO .busy none fn tmps ps assign body D) :: l) → CR P (RQ k L fn tmps ps assign body D post stop) n L body E w2) :
    QW (Exit.then (fun a w1 => ∃ E' l', Fits n [] E' a ∧ Own k w1 (obj L (loopO .ready none fn tmps ps assign body D) :: l') ∧ ∀ w2, Own k w2 (obj L (loopO .busy none fn tmps ps assign body D) :: l') → CR P (RQ k L fn tmps ps assign body D post stop) n L body E' w2) (fun _ _ _ => False)) n [] .normal E w :=
  fun a ha => ⟨E, l, ha, hO, h⟩
theorem q_bodyend {fn : FuncId} {tmps : Array Value} {ps : Array Tmp} {assign body : Code} {D : Nat} {post : List HP → Prop} {stop : Code → List HP → Prop} {M : List HP} (hp : post M) (hO : Own k w (obj L (loopO .busy none fn tmps ps assign body D) :: M)) :
    QW (RQ k L fn tmps ps assign body D post stop) n [] .normal E w := fun a ha => ⟨M, hp, hO⟩
theorem q_bodyret {fn : FuncId} {tmps : Array Value} {ps : Array Tmp} {assign body : Code} {D : Nat} {post : List HP → Prop} {stop : Code → List HP → Prop} {M : List HP} (hp : stop .ret M) (hO : Own k w (obj L (loopO .busy none fn tmps ps assign body D) :: M)) :
    QW (RQ k L fn tmps ps assign body D post stop) n [] .ret E w := fun a ha => ⟨M, hp, hO⟩
end
/-! ### 52. An iterator's calls of yield -/
section
variable {P : Program} {ops : Array Oper} {Q : Exit → Act → World → Prop} {n : Nat} {ds : List Deferred} {E E' : Env} {w w' : World} {rest : List Oper}
variable {d : Option Tmp} {ty : TypeId} {pos : String} {aft : Array Edge} {g : Option (Nat × Bool)} {k : Ctx} {l : List HP}
/-- a region in which yield is called -/
def LX (P : Program) (ops : Array Oper) (Q : Exit → Act → World → Prop) (n : Nat) (ds : List Deferred) (l : List Oper) (E : Env) (w : World) : Prop := ∀ a, Fits n ds E a → wpListIn Fence.wide 0 P ops Q l a w
theorem x_region {id : Nat} {lo : List Oper} (h : LX P lo.toArray Q n ds lo E w) : CW P Q n ds (.region id lo.toArray false) E w := fun a ha => wpIn_wide.1 (wpIn_region_lit (h a ha))
theorem x_nil (h : QW Q n ds .normal E w) : LX P ops Q n ds [] E w := fun a ha => h a ha
theorem x_y {o : Oper} {v : Value} (hg : gd ops E o.guard = some true) (hd : dok n o.dst = true) (hy : Yld P n ds E w o v) (h : LX P ops Q n ds rest (E.put o.dst v) w) : LX P ops Q n ds (o :: rest) E w := fun a ha => by
  unfold wpListIn
  rw [if_pos (gd_sound ha hg)]
  refine ⟨fun _ _ => trivial, ?_⟩
  show o.uponIn Fence.wide 0 P a _ Q ((execOp a.eval o).run P w)
  rw [hy.run a ha]
  exact h _ (ha.put hd v)
theorem x_pass {o : Oper} (hg : gd ops E o.guard = some false) (hd : dok n o.dst = true) (h : LX P ops Q n ds rest (E.put o.dst undef) w) : LX P ops Q n ds (o :: rest) E w := fun a ha => by
  unfold wpListIn
  rw [if_neg (by rw [gd_sound ha hg]; simp)]
  exact ⟨fun _ _ => trivial, h _ (ha.put hd _)⟩
theorem x_split (t : Nat) {b : Bool} {l : List Oper} (hb : look E t = some (.bool b)) (h1 : b = true → LX P ops Q n ds l ((t, .bool true) :: E) w) (h2 : b = false → LX P ops Q n ds l ((t, .bool false) :: E) w) : LX P ops Q n ds l E w := fun a ha => by
  have key : ∀ c, b = c → Fits n ds ((t, .bool c) :: E) a := fun c e => ⟨ha.size, ha.defers, fun u v hu => by
    have := look_put E t (.bool c) u
    simp only [Env.put] at this
    rw [this] at hu
    split at hu
    · next e2 => subst e2; cases hu; rw [← e]; exact ha.at_ _ _ hb
    · exact ha.at_ _ _ hu⟩
  cases b
  · exact h2 rfl a (key false rfl)
  · exact h1 rfl a (key true rfl)
theorem x_round {o : Oper} {L : Nat} {fn : FuncId} {tmps : Array Value} {assign body : Code} {R : Ending → World → Prop} (hg : gd ops E o.guard = some true) (hd : dok n o.dst = true) (hrun : ∀ a, Fits n ds E a → (execOp a.eval o).run P w = .ok (.round L fn tmps assign body) w)
    (hr : RoundIn Fence.wide 0 P L fn tmps assign body w R) (hR : ∀ e w', R e w' → ∃ v, e = .returned v ∧ LX P ops Q n ds rest (E.put o.dst v) w') : LX P ops Q n ds (o :: rest) E w := fun a ha => by
  unfold wpListIn
  rw [if_pos (gd_sound ha hg)]
  refine ⟨fun _ _ => trivial, ?_⟩
  show o.uponIn Fence.wide 0 P a _ Q ((execOp a.eval o).run P w)
  rw [hrun a ha]
  refine ⟨fun h => by simp [Fence.wide] at h, hr.mono fun e w' he => ?_⟩
  obtain ⟨v, rfl, h⟩ := hR e w' he
  exact h _ (ha.put hd _)
/-- yield is called -/
theorem x_yield {x : Operand} {xs : List Operand} {tys : Array TypeId} {L : Nat} {vs : List Value} {fn : FuncId} {tmps : Array Value} {ps : Array Tmp} {assign body : Code} {D : Nat} {post : List HP → Prop} {stop : Code → List HP → Prop} (hO : Own k w (obj L (loopO .ready none fn tmps ps assign body D) :: l))
    (hx : ev E x = some (.func (.yield L) #[] #[])) (hv : evl E xs = some vs) (hs : vs.length = ps.size)
    (hr : RoundIn Fence.wide 0 P L fn ((ps.zip vs.toArray).foldl (fun tmps (t, a) => tmps.setIfInBounds t a) tmps) assign body w (RP k L fn tmps ps assign body D post stop))
    (h1 : ∀ w' M, post M → Own k w' (obj L (loopO .ready none fn tmps ps assign body D) :: M) → LX P ops Q n ds rest (E.put d (.bool true)) w')
    (h2 : ∀ w' c M, stop c M → Own k w' (obj L (loopO .done (some c) fn tmps ps assign body D) :: M) → LX P ops Q n ds rest (E.put d (.bool false)) w')
    (hg : gd ops E g = some true := by rfl) (hd : dok n d = true := by rfl) :
    LX P ops Q n ds (⟨d, .call ⟨.value x, xs.toArray, tys⟩, ty, pos, aft, g⟩ :: rest) E w :=
  x_round (o := ⟨d, .call ⟨.value x, xs.toArray, tys⟩, ty, pos, aft, g⟩) hg hd (fun a ha => by
    have hvs := evl_sound ha xs vs hv
    have hy := run_yield (P := P) (args := vs.toArray) (obj_at hO) (by simpa using hs)
    simp [execOp, resolve, ha.eval hx, Deferred.ofValue, invoke, hvs, hy]) hr fun e w' he => by
    rcases he with ⟨rfl, M, hp, hO'⟩ | ⟨c, rfl, M, hp, hO'⟩
    · exact ⟨_, rfl, h1 w' M hp hO'⟩
    · exact ⟨_, rfl, h2 w' c M hp hO'⟩
/-! ### 53. The statement -/
def markD (D : Nat) : Deferred := { target := .collected D, args := #[] }
theorem c_range {gx : Operand} {ps : Array Tmp} {assign body : Code} {gf : FuncId} [hf : Fun P gf] {lb : List Value} {done : List HP → Prop} {stop : Code → List HP → Prop} (hO : Own k w l) (hg : ev E gx = some (.func (.func gf) #[] lb.toArray))
    (hcall : ∀ (fn : FuncId) (tmps : Array Value) (L D : Nat) (w1 : World), Fits n [] E { tmps, defers := [] } → Own k w1 (obj L (loopO .ready none fn tmps ps assign body D) :: obj D (.deferred (some [])) :: l) →
      Ret P gf (.func (.yield L) #[] #[] :: lb).toArray w1 fun _ w2 =>
        (∃ M, done M ∧ Own k w2 (obj L (loopO .ready none fn tmps ps assign body D) :: obj D (.deferred (some [])) :: M)) ∨
        (∃ c M, stop c M ∧ Own k w2 (obj L (loopO .done (some c) fn tmps ps assign body D) :: obj D (.deferred (some [])) :: M)))
    (hdone : ∀ D w3 M, done M → Own k w3 (obj D (.deferred (some [])) :: M) → QW Q n (markD D :: ds) .normal E w3)
    (hstop : ∀ D w3 c M, stop c M → Own k w3 (obj D (.deferred (some [])) :: M) → CW P Q n (markD D :: ds) c E w3) : CW P Q n ds (.rangeFunc gx ps assign body) E w := by
  intro a ha
  refine wpIn_wide (n := 0).1 (wpIn_rangeFunc fun fn _ => ?_)
  have hO1 := hO.obj_alloc (.deferred (some []))
  have hO2 := hO1.obj_alloc (loopO .ready none fn a.tmps ps assign body w.heap.size)
  have hsz : (w.alloc (.deferred (some []))).heap.size = w.heap.size + 1 := by simp [World.size_alloc]
  rw [hsz] at hO2
  have hc := hcall fn a.tmps (w.heap.size + 1) w.heap.size _ ⟨ha.size, rfl, ha.at_⟩ hO2
  refine ⟨w.heap.size + 1, [markD w.heap.size], _, { target := .fn (.func gf) lb.toArray, args := #[.func (.yield (w.heap.size + 1)) #[] #[]] }, (w.alloc (.deferred (some []))).alloc (loopO .ready none fn a.tmps ps assign body w.heap.size), gf, (.func (.yield (w.heap.size + 1)) #[] #[] :: lb).toArray, (w.alloc (.deferred (some []))).alloc (loopO .ready none fn a.tmps ps assign body w.heap.size), run_enterLoop_outer _ _ _ _ _, ?_, fun _ _ => trivial, ?_, fun h => by simp [Fence.wide] at h, callsIn_wide.2 ?_⟩
  · simp [resolve, ha.eval hg, Deferred.ofValue]
    exact ⟨rfl, rfl⟩
  · simp [invoke, hf.call]
  · refine Calls.mono hc ?_
    rintro e w2 ⟨v, rfl, h⟩
    have hF : Fits n (markD w.heap.size :: ds) E { a with defers := [markD w.heap.size] ++ a.defers } := ⟨ha.size, by simp [ha.defers], ha.at_⟩
    rcases h with ⟨M, hd, hO3⟩ | ⟨c, M, hd, hO3⟩
    · refine ⟨none, _, run_endLoop (obj_at hO3) (by simp [loopO]), ?_⟩
      exact hdone _ _ M hd (hO3.putObj (o' := loopO .exhausted none fn a.tmps ps assign body w.heap.size)).drop _ hF
    · refine ⟨some c, _, run_endLoop (obj_at hO3) (by simp [loopO]), ?_⟩
      exact wpIn_wide.2 (hstop _ _ c M hd (hO3.putObj (o' := loopO .exhausted (some c) fn a.tmps ps assign body w.heap.size)).drop _ hF)
/-! ### 54. A function that holds such a statement -/
theorem enterM {f : FuncId} {fn : Func} {c : Code} {args : List Value} {w : World} {T : Value → World → Prop} (hf : P.funcs[f]? = some fn) (hb : fn.body = some c) (hn : Nat.ble args.length fn.ntmps = true)
    (h : CW P (bodyPostM Fence.wide 0 P fn fun e w' => ∃ v, e = .returned v ∧ T v w') fn.ntmps [] c (args.zipIdx.map fun p => (p.2, p.1)) w) : Ret P f args.toArray w T :=
  callsIn_wide.1 (callsIn_of_wp_marks (n := 0) hf hb trivial (wpIn_wide.2 (h _ (Fits.start args fn.ntmps (by simpa using hn)))))
theorem finM0 {fn : Func} {T : Value → World → Prop} {R : Value → World → Prop} (h : QW (bodyPost P fn fun e w' => ∃ v, e = .returned v ∧ T v w') n [] .ret E w) : QW (bodyPostM Fence.wide 0 P fn fun e w' => ∃ v, e = .returned v ∧ T v w') n [] .ret E w := fun a ha => by
  obtain ⟨hd, v, hr, hT⟩ := h a ha
  show LeavesInM _ _ _ _ _ _ a.defers _ _
  rw [hd]
  exact ⟨v, hr, hT⟩
theorem finM {fn : Func} {T : Value → World → Prop} {D : Nat} (hO : Own k w (obj D (.deferred (some [])) :: l)) (h : ∀ w', Own k w' l → QW (bodyPost P fn fun e w' => ∃ v, e = .returned v ∧ T v w') n [] .ret E w') : QW (bodyPostM Fence.wide 0 P fn fun e w' => ∃ v, e = .returned v ∧ T v w') n [markD D] .ret E w := fun a ha => by
  have hO2 := (hO.putObj (o' := .deferred none)).drop
  obtain ⟨_, v, hr, hT⟩ := h _ hO2 { a with defers := [] } ⟨ha.size, rfl, ha.at_⟩
  show LeavesInM _ _ _ _ _ _ a.defers _ _
  rw [ha.defers]
  exact ⟨by simp, .inl ⟨D, _, rfl, run_takeDeferred (obj_at hO), v, hr, hT⟩⟩
theorem finM_end {fn : Func} {R : Ending → World → Prop} (h : QW (bodyPostM Fence.wide 0 P fn R) n ds .ret E w) : QW (bodyPostM Fence.wide 0 P fn R) n ds .normal E w := fun a ha => h a ha
theorem finM_ret {fn : Func} {R : Ending → World → Prop} (h : QW (bodyPostM Fence.wide 0 P fn R) n ds .normal E w) : QW (bodyPostM Fence.wide 0 P fn R) n ds .ret E w := fun a ha => h a ha
end
end Go.Hb

/- Whether two structs are the same; the greater of two. -/
set_option linter.unusedVariables false
set_option linter.unusedSimpArgs false
namespace Go.Hb
open Go Go.RowKit
/-! ### 55. Whether two structs are the same -/
theorem ba_inj {a b : ByteArray} : a.toList = b.toList ↔ a = b := by
  simp only [ByteArray.toList_eq]
  exact ⟨fun h => by cases a; cases b; congr 1; exact Array.toList_inj.1 h, fun h => by rw [h]⟩
/-- structs of this type are the same if and only if they show the same -/
class EqT (P : Program) (t : TypeId) {α : Type} [DecidableEq α] (enc : α → List Value) : Prop where
  guard : P.eqGuardType P.depth t = false
  eq : ∀ (x y : α) (w : World), (Op.equalIn 10000 t (.agg (enc x).toArray) (.agg (enc y).toArray)).run P w = .ok (decide (x = y)) w
section
variable {P : Program} {n : Nat} {ds : List Deferred} {E : Env} {w : World} {d : Option Tmp} {ty : TypeId} {pos : String} {aft : Array Edge} {g : Option (Nat × Bool)}
variable {α : Type} [DecidableEq α] {enc : α → List Value}
theorem y_eqA {t u : TypeId} [h : EqT P t enc] {x y : Operand} {a b : α} {c : Bool} (hx : ev E x = some (.agg (enc a).toArray)) (hy : ev E y = some (.agg (enc b).toArray)) (hc : decide (a = b) = c) : Yld P n ds E w ⟨d, .binOp .eql t x y u, ty, pos, aft, g⟩ (.bool c) :=
  ⟨fun f hf => by
    simp only [execOp, Sem.run_bind, hf.eval hx, hf.eval hy, Result.andThen_ok, run_eqGuard_agg _ _ _ _ _ _ _ h.guard, run_eql_struct, h.eq, hc, Sem.run_pure]⟩
theorem y_neA {t u : TypeId} [h : EqT P t enc] {x y : Operand} {a b : α} {c : Bool} (hx : ev E x = some (.agg (enc a).toArray)) (hy : ev E y = some (.agg (enc b).toArray)) (hc : (!decide (a = b)) = c) : Yld P n ds E w ⟨d, .binOp .neq t x y u, ty, pos, aft, g⟩ (.bool c) :=
  ⟨fun f hf => by
    simp only [execOp, Sem.run_bind, hf.eval hx, hf.eval hy, Result.andThen_ok, run_eqGuard_agg _ _ _ _ _ _ _ h.guard, run_neq_struct, h.eq, hc, Sem.run_pure]⟩
theorem y_max {t u : TypeId} {x y : Operand} {kd : IntKind} {a b : Int} (hx : ev E x = some (.int kd a)) (hy : ev E y = some (.int kd b)) : Yld P n ds E w ⟨d, .call ⟨.builtin .max, #[x, y], #[t, u]⟩, ty, pos, aft, g⟩ (.int kd (max a b)) :=
  y_built (xs := [x, y]) (vs := [.int kd a, .int kd b]) (by simp [evl, hx, hy]) (fun cs => by
    simp [builtin, Builtin.max_, Builtin.max2]
    omega)
end
section
variable {P : Program} {ops : Array Oper} {Q : Exit → Act → World → Prop} {n : Nat} {ds : List Deferred} {E : Env} {w : World} {k : Ctx} {l : List HP}
variable {rest : List Oper} {d : Option Tmp} {ty : TypeId} {pos : String} {aft : Array Edge} {g : Option (Nat × Bool)}
/-- to an empty row that is written out -/
theorem s_app0 {t u T : TypeId} {sz bytes : Nat} {z : Value} {dd : TypeDesc} [hu : Und P t (.slice T)] [he : Elt P T sz bytes z] [hd' : Und P u dd] {x y : Operand} {p : Option Addr} {c sz' : Nat} {α : Type} {enc : α → List Value} {ys : List α} {vy : Value} {rl : List HP} (hO : Own k w l) (hx : ev E x = some (.slice p ([] : List α).length c)) (hy : ev E y = some vy) [hp : PkP l p T α c sz' enc [] rl] [ho : OneC enc sz] (hs : Src P w sz vy ys.length (ys.map enc).flatten)
    (h : ∀ p' c' w', Own k w' (sls p' c' T sz enc ys :: rl) → Gs p' ys.length → LW P ops Q n ds rest (E.put d (.slice p' ys.length c')) w') (hsz : sz' = sz := by rfl) (h63 : ys.length ≤ 4611686018427387904 := by first | omega | (simp; omega)) (hb : ys.length * bytes ≤ 140737488355328 := by first | omega | (simp; omega))
    (hg : gd ops E g = some true := by rfl) (hd : dok n d = true := by rfl) (hdi : ∀ kk, dd ≠ .int kk := by intro kk h; cases h) : LW P ops Q n ds (⟨d, .call ⟨.builtin .append, #[x, y], #[t, u]⟩, ty, pos, aft, g⟩ :: rest) E w :=
  s_app (xs := []) hO hx hy hs h hsz (by simpa using h63) (by simpa using hb) hg hd hdi
/-- a value that is built of many parts -/
theorem s_buildE {t : TypeId} {arr : Array (Nat × Operand)} (parts : List (Nat × Operand)) (pv : List (Nat × Value)) (cs : List Value) (h : LW P ops Q n ds rest (E.put d (.agg cs.toArray)) w) (he : arr = parts.toArray) (hp : partsOf E parts = some pv) (hb : P.built t pv = some cs.toArray)
    (hg : gd ops E g = some true := by rfl) (hd : dok n d = true := by rfl) : LW P ops Q n ds (⟨d, .build t arr, ty, pos, aft, g⟩ :: rest) E w := by
  subst he
  exact s_build hg hd (fun a ha => partsOf_sound ha _ _ hp) hb h
/-- a row of many values -/
theorem s_litE {t T : TypeId} {sz bytes len : Nat} {z : Value} [hu : Und P t (.slice T)] [he : Elt P T sz bytes z] {α : Type} {enc : α → List Value} [ho : OneC enc sz] {arr : Array (Nat × Operand)} (parts : List (Nat × Operand)) (ys : List α) (vs : List Value) (hO : Own k w l)
    (h : ∀ b w', Own k w' (sls (some ⟨b, 0, none⟩) ys.length T sz enc ys :: l) → LW P ops Q n ds rest (E.put d (.slice (some ⟨b, 0, none⟩) ys.length ys.length)) w') (ha : arr = parts.toArray) (hp : partsOf E parts = some ((vs.zipIdx 0).map fun x => (x.2, x.1))) (hv : (vs.map fun v => v.cells.toList) = ys.map enc) (hl : ys.length = len := by rfl) (h0 : 0 < sz := by decide) (hn : ys ≠ [] := by simp) (hs : ys.length * sz ≤ 16777216 := by decide)
    (hg : gd ops E g = some true := by rfl) (hd : dok n d = true := by rfl) : LW P ops Q n ds (⟨d, .buildSlice t len arr, ty, pos, aft, g⟩ :: rest) E w := by
  subst ha
  exact s_lit ys vs hO hp h hv hl h0 hn hs hg hd
/-- a call of a function's value -/
theorem CKv (qs : List Key) {As rl m0 : List HP} [hp : AtKs l qs As rl m0] {f : FuncId} [hf : Fun P f] {x : Operand} {xs : List Operand} {tys : Array TypeId} {first captured vs : List Value} {R : Value → List HP → Prop} (hO : Own k w l) (hv : ev E x = some (.func (.func f) first.toArray captured.toArray)) (hx : evl E xs = some vs)
    (hc : ∀ k', Ext k k' w → (∀ A ∈ rl, ∀ a cs, Has A a cs → Ro k' a cs) → Own k' w As → Tri P f (first ++ vs ++ captured).toArray k' w R)
    (h : ∀ v m w', R v m → Own k w' (m ++ rl) → LW P ops Q n ds rest (E.put d v) w') (hg : gd ops E g = some true := by rfl) (hd : dok n d = true := by rfl) :
    LW P ops Q n ds (⟨d, .call ⟨.value x, xs.toArray, tys⟩, ty, pos, aft, g⟩ :: rest) E w := s_callvO hO hp.pulls hg hd hv hx hc h
end
/-! ### 56. An array's block, read as a slice -/
theorem blk_sli {H : Addr → List Value → Prop} {b m : Nat} {vs : List Value} {α : Type} {enc : α → List Value} {xs : List α} (h : H ⟨b, 0, none⟩ vs) (hv : vs = (xs.map enc).flatten) (hm : m = xs.length) : Sli H (.slice (some ⟨b, 0, none⟩) m m) (xs.map enc) := by
  subst hm
  exact ⟨some ⟨b, 0, none⟩, xs.length, by rw [List.length_map], by rw [List.length_map]; exact Nat.le_refl _, fun _ => ⟨b, 0, rfl, hv ▸ h⟩⟩
theorem has_blk {b : Nat} {T : TypeId} {vs : List Value} : Has (blk b T vs) ⟨b, 0, none⟩ vs := Has.ofBlk fun j v hv => by rw [Nat.zero_add]; exact hv
/-- .. to a callee, of what its caller keeps -/
theorem blk_ro {k' : Ctx} {rl rl' : List HP} {b m : Nat} {T : TypeId} {vs : List Value} (hr : ∀ A ∈ rl, ∀ a cs, Has A a cs → Ro k' a cs) [hm : AtK rl (.b b) (blk b T vs) rl'] {α : Type} {enc : α → List Value} {xs : List α} (hv : vs = (xs.map enc).flatten := by rfl) (hl : m = xs.length := by rfl) : Sli (Ro k') (.slice (some ⟨b, 0, none⟩) m m) (xs.map enc) :=
  blk_sli (hr _ (hm.pull.perm.mem_iff.2 List.mem_cons_self) _ _ has_blk) hv hl
/-! ### 57. Rows of an argument as records -/
theorem recs_of {α : Type} {enc : α → List Value} {Q : α → Prop} {rows : List (List Value)} (h : ∀ r ∈ rows, ∃ x : α, r = enc x ∧ Q x) : ∃ xs : List α, rows = xs.map enc ∧ ∀ x ∈ xs, Q x := by
  induction rows with
  | nil => exact ⟨[], rfl, fun x hx => by simp at hx⟩
  | cons r rows ih =>
    obtain ⟨x, rfl, hx⟩ := h r (by simp)
    obtain ⟨xs, rfl, hxs⟩ := ih fun r hr => h r (by simp [hr])
    exact ⟨x :: xs, rfl, fun y hy => by
      rcases List.mem_cons.1 hy with rfl | hy
      · exact hx
      · exact hxs y hy⟩
/-! ### 58. A scope with jumps ahead to one label -/
section
variable {P : Program} {Q : Exit → Act → World → Prop} {n : Nat} {ds : List Deferred} {E : Env} {w : World} {l : Nat}
theorem c_goto (h : QW Q n ds (.goto l) E w) : CW P Q n ds (.goto l) E w := fun a ha => wp_goto (h a ha)
theorem GT1 {K : Act → World → Prop} (h : QW Q n ds (.goto l) E w) : QW (Exit.then K Q) n ds (.goto l) E w := fun a ha => h a ha
theorem GT2 {id : Nat} (h : QW Q n ds (.goto l) E w) : QW (Exit.inBlock id Q) n ds (.goto l) E w := fun a ha => h a ha
theorem c_scopeJ {X : Type} (En : X → Env) (I : X → World → Prop) {c rest : Code} (l : Nat) (hf : findLabel c l = some rest)
    (h1 : CW P (Exit.jump l (fun a w => ∃ x, Fits n ds (En x) a ∧ I x w) Q) n ds c E w)
    (h2 : ∀ x w, I x w → CW P (Exit.noGoto Q) n ds rest (En x) w) : CW P Q n ds (.scope c) E w := fun a ha =>
  wp_scope_jumps l (fun a w => ∃ x, Fits n ds (En x) a ∧ I x w) (fun _ _ => 0) hf (h1 a ha) fun a w ⟨x, hx, hI⟩ => wp_mono (h2 x w hI a hx) fun e a' w' hq => by
    cases e with
    | goto _ => exact hq.elim
    | _ => exact hq
theorem q_goto {X : Type} {En : X → Env} {I : X → World → Prop} (x : X) (hE : E.all (En x)) (hI : I x w) : QW (Exit.jump l (fun a w => ∃ x, Fits n ds (En x) a ∧ I x w) Q) n ds (.goto l) E w := fun a ha => ⟨rfl, x, ha.weaken hE, hI⟩
theorem J3 {J : Act → World → Prop} (h : QW Q n ds .normal E w) : QW (Exit.jump l J Q) n ds .normal E w := fun a ha => h a ha
theorem J4 {J : Act → World → Prop} (h : QW Q n ds .ret E w) : QW (Exit.jump l J Q) n ds .ret E w := fun a ha => h a ha
end
/-! ### 59. Four results -/
theorem fin4 {P : Program} {n : Nat} {E : Env} {w : World} {fn : Func} {T : Value → World → Prop} {t u s q : Nat} {v x y z : Value} (hrs : fn.results = #[.tmp t, .tmp u, .tmp s, .tmp q]) (hv : look E t = some v) (hx : look E u = some x) (hy : look E s = some y) (hz : look E q = some z) (hT : T (.tuple #[v, x, y, z]) w) :
    QW (bodyPost P fn fun e w' => ∃ v, e = .returned v ∧ T v w') n [] .ret E w := fun a ha =>
  ⟨ha.defers, _, by have h1 := ha.at_ t v hv; have h2 := ha.at_ u x hx; have h3 := ha.at_ s y hy; have h4 := ha.at_ q z hz; simp only [Array.getD_eq_getD_getElem?] at h1 h2 h3 h4; simp [results, hrs, h1, h2, h3, h4], _, rfl, hT⟩
end Go.Hb

/- Calls that are deferred; drawn regions where nothing may panic. -/
set_option linter.unusedVariables false
set_option linter.unusedSimpArgs false
namespace Go.Hb
open Go Go.RowKit
section
variable {P : Program} {ops : Array Oper} {Q : Exit → Act → World → Prop} {n : Nat} {ds : List Deferred} {E : Env} {w : World}
/-- entering a function that defers calls -/
theorem enterD {f : FuncId} {fn : Func} {c : Code} {args : List Value} {T : Value → World → Prop} (hf : P.funcs[f]? = some fn) (hb : fn.body = some c) (hn : Nat.ble args.length fn.ntmps = true)
    (h : CW P (bodyPostD P fn fun e w' => ∃ v, e = .returned v ∧ T v w') fn.ntmps [] c (args.zipIdx.map fun p => (p.2, p.1)) w) : Ret P f args.toArray w T :=
  calls_of_wp_defers hf hb (h _ (Fits.start args fn.ntmps (by simpa using hn)))
/-- a function's walk, as that of a deferred call -/
theorem enterDef {f : FuncId} {fn : Func} {c : Code} {args : List Value} {T : Value → World → Prop} (hf : P.funcs[f]? = some fn) (hb : fn.body = some c) (hn : Nat.ble args.length fn.ntmps = true)
    (h : CW P (bodyPost P fn fun e w' => ∃ v, e = .returned v ∧ T v w') fn.ntmps [] c (args.zipIdx.map fun p => (p.2, p.1)) w) (u : FrameMode) : CallsD P f args.toArray u w fun e u' w' => u' = u ∧ ∃ v, e = .returned v ∧ T v w' :=
  callsD_of_wp hf hb (h _ (Fits.start args fn.ntmps (by simpa using hn)))
/-- nothing was deferred on this way -/
theorem finD0 {fn : Func} {T : Value → World → Prop} (h : QW (bodyPost P fn fun e w' => ∃ v, e = .returned v ∧ T v w') n [] .ret E w) : QW (bodyPostD P fn fun e w' => ∃ v, e = .returned v ∧ T v w') n [] .ret E w := fun a ha => by
  obtain ⟨hd, v, hr, hT⟩ := h a ha
  show Leaves P fn a.tmps _ a.defers .returning w
  rw [hd]
  exact ⟨v, hr, hT⟩
/-- one call was deferred -/
theorem finD1 {fn : Func} {T T' : Value → World → Prop} {g : FuncId} {gf : Func} {args : List Value} (hg : P.funcs[g]? = some gf) (hi : (invoke (.fn (.func g) #[]) args.toArray).run P w = .ok (.enter g args.toArray) w)
    (hc : CallsD P g args.toArray .returning w fun e u' w' => u' = .returning ∧ ∃ v, e = .returned v ∧ T' v w')
    (h : ∀ v w', T' v w' → QW (bodyPost P fn fun e w' => ∃ v, e = .returned v ∧ T v w') n [] .ret E w') :
    QW (bodyPostD P fn fun e w' => ∃ v, e = .returned v ∧ T v w') n [{ target := .fn (.func g) #[], args := args.toArray }] .ret E w := fun a ha => by
  show Leaves P fn a.tmps _ a.defers .returning w
  rw [ha.defers]
  refine leaves_cons (by simp) hi (hc.mono ?_)
  rintro e u' w' ⟨rfl, v, rfl, hT⟩
  obtain ⟨_, v2, hr, hT2⟩ := h v w' hT { a with defers := [] } ⟨ha.size, rfl, ha.at_⟩
  show Leaves P fn a.tmps _ [] (settle .returning) w'
  exact ⟨v2, hr, hT2⟩
theorem Fits.more {a : Act} (h : Fits n ds E a) (d : Deferred) : Fits n (d :: ds) E { a with defers := d :: a.defers } := ⟨h.size, by rw [← h.defers], h.at_⟩
/-- a call is deferred -/
theorem l_defer {o : Oper} {rest : List Oper} {d : Deferred} (hg : gd ops E o.guard = some true) (hd : dok n o.dst = true)
    (hr : ∀ a, Fits n ds E a → (execOp a.eval o).run P w = .ok (.defer d) w) (h : LW P ops Q n (d :: ds) rest (E.put o.dst undef) w) : LW P ops Q n ds (o :: rest) E w := by
  intro a ha
  unfold wpList
  rw [if_pos (gd_sound ha hg)]
  refine .inl ?_
  simp only [Oper.wp, hr a ha, Oper.upon]
  exact h _ ((ha.more d).put hd _)
/-- in a drawn region: the last operation defers a call -/
theorem op_defer {lo : List Oper} {i : Nat} {o : Oper} {d : Deferred} {K' : Act → World → Prop} (hi : nthO lo i = some o) (hg : gd lo.toArray E o.guard = some true) (hd : dok n o.dst = true) (hx : ∀ a, Fits n ds E a → (execOp a.eval o).run P w = .ok (.defer d) w)
    (hK : ∀ a, Fits n (d :: ds) (E.put o.dst undef) a → K' a w) {a : Act} (ha : Fits n ds E a) : wpOp P lo.toArray Q i K' a w := by
  unfold wpOp
  rw [show lo.toArray[i]? = some o from by simpa [nthO_eq] using hi]
  simp only
  rw [if_pos (gd_sound ha hg)]
  left
  simp only [Oper.wp, hx a ha, Oper.upon]
  exact hK _ ((ha.more d).put hd _)
theorem da_defer {lo : List Oper} {f : Nat} {listed : Array Bool} (i : Nat) {o : Oper} {d : Deferred} (hr : Region.ready .any lo.toArray listed = [i]) (hi : nthO lo i = some o) (hend : Region.ready .any lo.toArray (listed.setIfInBounds i true) = []) (hg : gd lo.toArray E o.guard = some true) (hd : dok n o.dst = true) (hx : ∀ a, Fits n ds E a → (execOp a.eval o).run P w = .ok (.defer d) w)
    (h : QW Q n (d :: ds) .normal (E.put o.dst undef) w) : DA P lo Q n ds (f + 1) listed E w := fun hQ a ha => by
  refine ⟨fun h0 => (by rw [hr] at h0; cases h0), fun j hj => ?_⟩
  rw [hr] at hj
  obtain rfl : j = i := by simpa using hj
  exact op_defer hi hg hd hx (fun a ha => wpAny_done hend (h a ha) f) ha
theorem dx_defer {lo : List Oper} {f : Nat} {listed : Array Bool} {S : World → Prop} {C : List Nat} (i : Nat) {o : Oper} {d : Deferred} (hr : Region.ready .any lo.toArray listed = [i]) (hi : nthO lo i = some o) (hc : C.contains i = true) (hend : Region.ready .any lo.toArray (listed.setIfInBounds i true) = []) (hg : gd lo.toArray E o.guard = some true) (hd : dok n o.dst = true) (hx : ∀ a, Fits n ds E a → (execOp a.eval o).run P w = .ok (.defer d) w)
    (h : QW Q n (d :: ds) .normal (E.put o.dst undef) w) : DX P lo Q n ds S C (f + 1) listed E w := fun hQ hS a ha => by
  refine ⟨fun h0 => (by rw [hr] at h0; cases h0), fun j hj => ?_⟩
  rw [hr] at hj
  obtain rfl : j = i := by simpa using hj
  exact op_defer hi hg hd hx (fun a ha => ⟨fun _ => wpAny_done hend (h a ha) f, fun e => (by rw [hc] at e; cases e)⟩) ha
/-- a drawn region where nothing may panic -/
theorem da_regM [hm : Mixed P] {lo : List Oper} {id : Nat} (h : DA P lo (fun e a w => (∀ c, e ≠ .panic c) ∧ Q e a w) n ds lo.length (List.replicate lo.length false).toArray E w.drew) : CW P Q n ds (.region id lo.toArray true) E w := by
  intro a ha
  exact wp_mono (da_region (fun c a d v w h => absurd rfl (h.1 c)) h a ha) (fun e a w h => h.2)
theorem q_nopan (h : QW Q n ds .normal E w) : QW (fun e a w => (∀ c, e ≠ .panic c) ∧ Q e a w) n ds .normal E w := fun a ha => ⟨(fun c e => Exit.noConfusion e), h a ha⟩
theorem finD_n {fn : Func} {T : Value → World → Prop} (h : QW (bodyPostD P fn fun e w' => ∃ v, e = .returned v ∧ T v w') n ds .ret E w) : QW (bodyPostD P fn fun e w' => ∃ v, e = .returned v ∧ T v w') n ds .normal E w := fun a ha => h a ha
/-- a call of a function is deferred -/
theorem x_defer {g : FuncId} {xs : List Operand} {tys : Array TypeId} {vs : List Value} {dd : Option Tmp} {ty : TypeId} {pos : String} {aft : Array Edge} {gu : Option (Nat × Bool)} (hx : evl E xs = some vs) :
    ∀ a, Fits n ds E a → (execOp a.eval ⟨dd, .defer ⟨.value (.func g), xs.toArray, tys⟩, ty, pos, aft, gu⟩).run P w = .ok (.defer { target := .fn (.func g) #[], args := vs.toArray }) w := fun a ha => by
  have h1 : xs.toArray.map a.eval = vs.toArray := by rw [← evl_sound ha xs vs hx]; simp
  simp [execOp, resolve, Deferred.ofValue, Act.eval, h1]
/-- what a deferred call does, like Tri -/
def TriD (P : Program) (f : FuncId) (args : Array Value) (k : Ctx) (w : World) (R : Value → List HP → Prop) : Prop := CallsD P f args .returning w fun e u' w' => u' = .returning ∧ ∃ v, e = .returned v ∧ ∃ m, R v m ∧ Own k w' m
/-- one walk for both kinds of calls -/
theorem enterB {f : FuncId} {fn : Func} {c : Code} {args : List Value} {k : Ctx} {R : Value → List HP → Prop} (hf : P.funcs[f]? = some fn) (hb : fn.body = some c) (hn : Nat.ble args.length fn.ntmps = true)
    (h : CW P (bodyPost P fn fun e w' => ∃ v, e = .returned v ∧ ∃ m, R v m ∧ Own k w' m) fn.ntmps [] c (args.zipIdx.map fun p => (p.2, p.1)) w) : Tri P f args.toArray k w R ∧ TriD P f args.toArray k w R :=
  ⟨enter hf hb hn h, enterDef hf hb hn h .returning⟩
theorem TriD.framed {k : Ctx} {l rl As : List HP} {f : FuncId} {vs : Array Value} {R : Value → List HP → Prop} (hO : Own k w l) (hp : Pulls l As rl)
    (hc : ∀ k', Ext k k' w → (∀ A ∈ rl, ∀ a cs, Has A a cs → Ro k' a cs) → Own k' w As → TriD P f vs k' w R) : CallsD P f vs .returning w fun e u' w' => u' = .returning ∧ ∃ v, e = .returned v ∧ ∃ m, R v m ∧ Own k w' (m ++ rl) := by
  obtain ⟨k', he, hA, hr, back⟩ := (hO.pulls hp).frame
  refine CallsD.mono (hc k' he (fun A hAm a cs hh j v hv => ?_) hA) fun e u' w' ⟨h0, v, h1, m, h2, h3⟩ => ⟨h0, v, h1, m, h2, back w' m h3⟩
  obtain ⟨hp', h1, h2⟩ := hr A hAm
  obtain ⟨hs, hc⟩ := hh
  obtain ⟨c, T, fz, h3, h4⟩ := hc hp' h1
  have h5 := h2 _ _ h3
  refine ⟨h5.1, ?_⟩
  rw [he.w0, add_at hs]
  simp only [World.cell?, h5.2, Option.isSome_none, Bool.false_eq_true, if_false]
  exact h4 j v hv
/-- a function's end where one call was deferred -/
theorem finDK (qs : List Key) {k : Ctx} {l As rl m0 : List HP} [hp : AtKs l qs As rl m0] {fn : Func} {T : Value → World → Prop} {g : FuncId} [hf : Fun P g] {args : List Value} {R : Value → List HP → Prop} (hO : Own k w l)
    (hc : ∀ k', Ext k k' w → (∀ A ∈ rl, ∀ a cs, Has A a cs → Ro k' a cs) → Own k' w As → TriD P g args.toArray k' w R)
    (h : ∀ v m w', R v m → Own k w' (m ++ rl) → QW (bodyPost P fn fun e w' => ∃ v, e = .returned v ∧ T v w') n [] .ret E w') :
    QW (bodyPostD P fn fun e w' => ∃ v, e = .returned v ∧ T v w') n [{ target := .fn (.func g) #[], args := args.toArray }] .ret E w := fun a ha => by
  show Leaves P fn a.tmps _ a.defers .returning w
  rw [ha.defers]
  refine leaves_cons (by simp) (by simp [invoke, hf.call]) ((TriD.framed hO hp.pulls hc).mono ?_)
  rintro e u' w' ⟨rfl, v, rfl, m, hR, hO'⟩
  obtain ⟨_, v2, hr, hT2⟩ := h v m w' hR hO' { a with defers := [] } ⟨ha.size, rfl, ha.at_⟩
  show Leaves P fn a.tmps _ [] (settle .returning) w'
  exact ⟨v2, hr, hT2⟩
end
end Go.Hb

/- Maps of integers; arrays as values; integers' bits. -/
set_option linter.unusedVariables false
set_option linter.unusedSimpArgs false
namespace Go.Hb
open Go Go.RowKit
/-! ### 70. A map from integers to integers -/
def entsI (kk kv : IntKind) (l : List (Int × Int)) : Array MapEntry := (l.zipIdx.map fun x => ({ key := .int kk x.1.1, val := .int kv x.1.2, born := x.2 } : MapEntry)).toArray
abbrev mpI (b : Nat) (kk kv : IntKind) (l : List (Int × Int)) : HP := obj b (.map (entsI kk kv l) l.length)
def look' (l : List (Int × Int)) (n : Int) : Option Int := (l.find? fun p => p.1 == n).map (·.2)
theorem entsI_snoc (kk kv : IntKind) (l : List (Int × Int)) (a v : Int) : (entsI kk kv l).push { key := .int kk a, val := .int kv v, born := l.length } = entsI kk kv (l ++ [(a, v)]) := by
  apply Array.ext'
  simp [entsI, List.zipIdx_append]
theorem findNow_ents {kk kv : IntKind} {n : Int} : ∀ (l : List (Int × Int)) (i j : Nat),
    (look' l n = none → Instr.findNow (.int kk) (.int kk n) ((l.zipIdx j).map fun x => ({ key := .int kk x.1.1, val := .int kv x.1.2, born := x.2 } : MapEntry)) i = some none) ∧
    ∀ v, look' l n = some v → ∃ q, Instr.findNow (.int kk) (.int kk n) ((l.zipIdx j).map fun x => ({ key := .int kk x.1.1, val := .int kv x.1.2, born := x.2 } : MapEntry)) i = some (some (q, .int kv v))
  | [], i, j => ⟨fun _ => rfl, fun v h => by simp [look'] at h⟩
  | (a, u) :: l, i, j => by
    have ih := findNow_ents (kk := kk) (kv := kv) (n := n) l (i + 1) (j + 1)
    by_cases h : a = n
    · subst h
      refine ⟨fun h => by simp [look'] at h, fun v hv => ⟨i, ?_⟩⟩
      simp [look'] at hv
      subst hv
      simp [Instr.findNow, Instr.sameNow]
    · have e : look' ((a, u) :: l) n = look' l n := by simp [look', h]
      rw [e]
      have e2 : ((n == a) : Bool) = false := by simp; exact fun e => h e.symm
      simp only [List.zipIdx_cons, List.map_cons, Instr.findNow, Instr.sameNow, if_true, e2]
      exact ih
section
variable {P : Program} {ops : Array Oper} {Q : Exit → Act → World → Prop} {n : Nat} {ds : List Deferred} {E : Env} {w : World} {k : Ctx} {l rl : List HP}
variable {rest : List Oper} {d : Option Tmp} {ty : TypeId} {pos : String} {aft : Array Edge} {g : Option (Nat × Bool)}
theorem s_makeMapI {t : TypeId} (kk kv : IntKind) (hO : Own k w l) (h : ∀ b w', Own k w' (mpI b kk kv [] :: l) → LW P ops Q n ds rest (E.put d (.map (some b))) w')
    (hg : gd ops E g = some true := by rfl) (hd : dok n d = true := by rfl) : LW P ops Q n ds (⟨d, .makeMap t none, ty, pos, aft, g⟩ :: rest) E w :=
  l_val (o := ⟨d, .makeMap t none, ty, pos, aft, g⟩) (w' := w.alloc (.map #[] 0)) hg hd (fun c hc => by simp [execOp, Instr.makeMap]) (h _ _ (hO.obj_alloc _))
theorem s_insertI {t kt et : TypeId} {kk kv : IntKind} {b : Nat} {L : List (Int × Int)} {a v : Int} [hu : Und P t (.map kt et)] [hk : Und P kt (.int kk)] {x y z : Operand} (L' : List (Int × Int)) (hO : Own k w (mpI b kk kv L :: l)) (hx : ev E x = some (.map (some b))) (hy : ev E y = some (.int kk a)) (hz : ev E z = some (.int kv v))
    (hn : look' L a = none) (hL : L' = L ++ [(a, v)]) (h : ∀ w', Own k w' (mpI b kk kv L' :: l) → LW P ops Q n ds rest (E.put d undef) w')
    (hg : gd ops E g = some true := by rfl) (hd : dok n d = true := by rfl) : LW P ops Q n ds (⟨d, .insert t x y z, ty, pos, aft, g⟩ :: rest) E w := by
  subst hL
  have hf : Instr.findNow (.int kk) (.int kk a) (entsI kk kv L).toList 0 = some none := by
    rw [entsI]; exact (findNow_ents (kk := kk) (kv := kv) L 0 0).1 hn
  have hb : w.heap[b]? = some (.map (entsI kk kv L) L.length) := hO.heap fun hp hA h => (h b _ hA).2
  have hck := MapKept.run_checkKey (P := P) (w := w) (k := .int kk a) hk.eq (by simp [MapKept.IsKey]) false 9999
  have hfk := MapKept.run_findKey (P := P) (w := w) hk.eq hf
  have hr : (Instr.mapUpdate t (.map (some b)) (.int kk a) (.int kv v)).run P w = .ok () { w with heap := w.heap.setIfInBounds b (.map (entsI kk kv (L ++ [(a, v)])) (L.length + 1)) } := by
    have := MapKept.run_getObj_map (P := P) hb
    have h2 := MapKept.run_setObj_map (P := P) (.map (entsI kk kv (L ++ [(a, v)])) (L.length + 1)) hb
    simp [Instr.mapUpdate, run_underlying hu.eq, this, hck, hfk, Result.andThen, entsI_snoc, h2]
  have hO' := hO.write (w' := { w with heap := w.heap.setIfInBounds b (.map (entsI kk kv (L ++ [(a, v)])) (L.length + 1)) }) (b := b) (A' := mpI b kk kv (L ++ [(a, v)])) (.hd _ _ l) (fun h hA => ⟨_, hA⟩) hb (MapKept.heap_set hb).1 ⟨rfl, rfl, rfl, by simp, fun c hc => (MapKept.heap_set hb).2 c hc⟩
    (fun h hA hb2 => by simp [mpI, obj])
  exact l_unit (o := ⟨d, .insert t x y z, ty, pos, aft, g⟩) hg hd (fun c hc => by simp [execOp, hc.eval hx, hc.eval hy, hc.eval hz, hr]) (h _ hO')
theorem y_lookI {t kt et : TypeId} {kk kv : IntKind} {b : Nat} {L : List (Int × Int)} {a : Int} [hu : Und P t (.map kt et)] [hk : Und P kt (.int kk)] [hz : Zer P et (.int kv 0)] {x y : Operand} (hO : Own k w (mpI b kk kv L :: l)) (hx : ev E x = some (.map (some b))) (hy : ev E y = some (.int kk a)) :
    Yld P n ds E w ⟨d, .lookup t x y true, ty, pos, aft, g⟩ (.tuple #[.int kv ((look' L a).getD 0), .bool (look' L a).isSome]) := by
  have hb : w.heap[b]? = some (.map (entsI kk kv L) L.length) := hO.heap fun hp hA h => (h b _ hA).2
  have hgo := MapKept.run_getObj_map (P := P) hb
  have hck := MapKept.run_checkKey (P := P) (w := w) (k := .int kk a) hk.eq (by simp [MapKept.IsKey]) (entsI kk kv L).isEmpty 9999
  have hs := findNow_ents (kk := kk) (kv := kv) (n := a) L 0 0
  constructor
  intro c hc
  cases hl : look' L a with
  | none =>
    have hfk := MapKept.run_findKey (P := P) (w := w) (l := (entsI kk kv L).toList) hk.eq (hs.1 hl)
    simp [execOp, hc.eval hx, hc.eval hy, Instr.lookup, run_underlying hu.eq, hgo, hck, hfk, hz.run]
  | some v =>
    obtain ⟨q, hq⟩ := hs.2 v hl
    have hfk := MapKept.run_findKey (P := P) (w := w) (l := (entsI kk kv L).toList) hk.eq hq
    simp [execOp, hc.eval hx, hc.eval hy, Instr.lookup, run_underlying hu.eq, hgo, hck, hfk]
/-! ### 71. An element of an array that is a value -/
theorem flat_mid {sz : Nat} : ∀ {rows : List (List Value)}, (∀ r ∈ rows, r.length = sz) → ∀ (i : Nat) (r : List Value), rows[i]? = some r → (rows.flatten.drop (i * sz)).take sz = r
  | [], _, i, r, hr => by simp at hr
  | x :: rows, h, 0, r, hr => by
    simp at hr; subst hr
    have := h x (by simp)
    simp [← this]
  | x :: rows, h, i + 1, r, hr => by
    have hx := h x (by simp)
    rw [List.flatten_cons, List.drop_append, show (i + 1) * sz - x.length = i * sz by rw [hx, Nat.add_mul]; omega, List.drop_eq_nil_of_le (by rw [hx, Nat.add_mul]; omega), List.nil_append]
    exact flat_mid (fun r hr => h r (by simp [hr])) i r (by simpa using hr)
theorem y_idxV {t e : TypeId} {m sz : Nat} [hu : Und P t (.array m e)] [hl : Lay P e true sz] {α : Type} [Inhabited α] (enc : α → List Value) [ho : OneC enc sz] (xs : List α) {x y : Operand} {i : Int} {kd : IntKind} {vs : Array Value} (hx : ev E x = some (.agg vs)) (hy : ev E y = some (.int kd i)) (hv : vs = (xs.map enc).flatten.toArray) (hm : m = xs.length) (h0 : 0 ≤ i) (h1 : i < m) :
    Yld P n ds E w ⟨d, .index t x y, ty, pos, aft, g⟩ (.agg (enc (at_ xs i.toNat)).toArray) := by
  subst hv
  have hi : i.toNat < xs.length := by omega
  have h2 := flat_mid (sz := sz) (rows := xs.map enc) (by intro r hr; obtain ⟨a, _, rfl⟩ := List.mem_map.1 hr; exact ho.len a) i.toNat _ (by rw [List.getElem?_map, at_get hi]; rfl)
  refine ⟨fun c hc => ?_⟩
  have h3 : (xs.map enc).flatten.toArray.extract (i.toNat * sz) (i.toNat * sz + sz) = (enc (at_ xs i.toNat)).toArray := by
    apply Array.ext'
    rw [← h2]
    simp
  simp only [execOp, hc.eval hx, hc.eval hy, Instr.index, asIntOf, Sem.run_bind, Sem.run_pure, Result.andThen, run_underlying hu.eq, part, hl.isAgg, hl.size, h0, h1, and_self, if_true, Sem.run, h3]
theorem y_idxN {t e : TypeId} {m sz : Nat} [hu : Und P t (.array m e)] [hl : Lay P e true sz] {α : Type} [Inhabited α] (enc : α → List Value) [ho : OneC enc sz] (xs : List α) (cs : List Value) {x y : Operand} {j : Nat} {kd : IntKind} {vs : Array Value} (hx : ev E x = some (.agg vs)) (hy : ev E y = some (.int kd (j : Int))) (hv : vs = (xs.map enc).flatten.toArray) (hm : m = xs.length) (h1 : j < m) (hc : enc (at_ xs j) = cs := by rfl) :
    Yld P n ds E w ⟨d, .index t x y, ty, pos, aft, g⟩ (.agg cs.toArray) := by
  subst hc
  exact y_idxV enc xs hx hy hv hm (by omega) (by omega)
/-- an array within a struct, read as a slice -/
theorem sls_blk {b o sz : Nat} {T : TypeId} {vs pre : List Value} {α : Type} {enc : α → List Value} [ho : OneC enc sz] {xs : List α} (hO : Own k w (blk b T vs :: l)) (hv : vs = pre ++ (xs.map enc).flatten) (hp : pre.length = o) (hm : xs.length ≤ maxLen) : Own k w (sls (some ⟨b, o, none⟩) xs.length T sz enc xs :: l) :=
  hO.tell fun h hA => by
    refine .inr ⟨b, o, xs.length, by rw [List.length_map], pre, [], hp, ?_, by simp, by simp, hm, ?_⟩
    · intro r hr; obtain ⟨a, _, rfl⟩ := List.mem_map.1 hr; exact ho.len a
    · rw [List.append_nil, ← hv]; exact hA
/-! ### 72. Bits -/
theorem y_shr {t u : TypeId} {x y : Operand} {kd ky : IntKind} {a b r : Int} (hx : ev E x = some (.int kd a)) (hy : ev E y = some (.int ky b)) (hb : 0 ≤ b) (hr : a.fdiv (2 ^ (min b.toNat kd.bits)) = r) : Yld P n ds E w ⟨d, .binOp .shr t x y u, ty, pos, aft, g⟩ (.int kd r) :=
  ⟨fun c hc => by subst hr; simp [execOp, hc.eval hx, hc.eval hy, eqGuard, binOp, Op.shift, Int.not_lt.2 hb]⟩
theorem y_and {t u : TypeId} {x y : Operand} {kd : IntKind} {a b r : Int} (hx : ev E x = some (.int kd a)) (hy : ev E y = some (.int kd b)) (hr : kd.wrap ((BitVec.ofInt kd.bits a &&& BitVec.ofInt kd.bits b).toNat : Int) = r) : Yld P n ds E w ⟨d, .binOp .and t x y u, ty, pos, aft, g⟩ (.int kd r) :=
  ⟨fun c hc => by subst hr; simp [execOp, hc.eval hx, hc.eval hy, eqGuard, binOp, Op.intBits]⟩
/-! ### 73. The next code point, or none -/
def nextV (s : ByteArray) (p : Nat) : Value := if p < s.size then .tuple #[.bool true, .int .i64 p, .int .i32 (Utf8.decode s p).1] else .tuple #[.bool false]
def nextP (s : ByteArray) (p : Nat) : Nat := if p < s.size then p + (Utf8.decode s p).2 else p
theorem s_nextU {x : Operand} {b : Nat} {s : ByteArray} {p : Nat} (hO : Own k w l) [hp : AtK l (.o b) (obj b (.stringIter s p)) rl] (hx : ev E x = some (.pointer (some ⟨b, 0, none⟩)))
    (h : ∀ w', Own k w' (obj b (.stringIter s (nextP s p)) :: rl) → LW P ops Q n ds rest (E.put d (nextV s p)) w') (hg : gd ops E g = some true := by rfl) (hd : dok n d = true := by rfl) :
    LW P ops Q n ds (⟨d, .next x true, ty, pos, aft, g⟩ :: rest) E w := by
  by_cases hlt : p < s.size
  · refine s_nextS hO hp.pull hg hd hx hlt rfl fun w' hO' => ?_
    have := h w' (by rw [nextP, if_pos hlt]; exact hO')
    rwa [nextV, if_pos hlt] at this
  · have := h w (by rw [nextP, if_neg hlt]; exact hO.pull hp.pull)
    rw [nextV, if_neg hlt] at this
    exact l_y hg hd (y_nextS_end hO hp.pull hx hlt) this
theorem y_next0 {x : Operand} {s : ByteArray} {p : Nat} (hx : ev E x = some (nextV s p)) : Yld P n ds E w ⟨d, .extract x 0, ty, pos, aft, g⟩ (.bool (decide (p < s.size))) := by
  unfold nextV at hx
  split at hx
  · rename_i h; rw [decide_eq_true h]; exact y_extract hx rfl
  · rename_i h; rw [decide_eq_false h]; exact y_extract hx rfl
theorem y_next1 {x : Operand} {s : ByteArray} {p : Nat} (hx : ev E x = some (nextV s p)) (h : p < s.size) : Yld P n ds E w ⟨d, .extract x 1, ty, pos, aft, g⟩ (.int .i64 (p : Int)) := by
  rw [nextV, if_pos h] at hx; exact y_extract hx rfl
theorem y_next2 {x : Operand} {s : ByteArray} {p : Nat} (hx : ev E x = some (nextV s p)) (h : p < s.size) : Yld P n ds E w ⟨d, .extract x 2, ty, pos, aft, g⟩ (.int .i32 ((Utf8.decode s p).1 : Int)) := by
  rw [nextV, if_pos h] at hx; exact y_extract hx rfl
/-! ### 74. A text's bytes, and back -/
end
def rowB (L : List UInt8) (z : Nat) : Array Value := ((L.map fun (b : UInt8) => Value.int IntKind.u8 (b.toNat : Int)) ++ List.replicate z (Value.int IntKind.u8 0)).toArray
abbrev bytO (b : Nat) (T : TypeId) (z : Nat) (L : List UInt8) : HP := obj b (.cells (rowB L z) T (L.length + z, L.length + z + 1))
theorem rowB_size (L : List UInt8) (z : Nat) : (rowB L z).size = L.length + z := by simp [rowB]
theorem rowB_at {L : List UInt8} {z i : Nat} {c : UInt8} (h : L[i]? = some c) : (rowB L z)[i]? = some (.int .u8 c.toNat) := by
  have hi := (List.getElem?_eq_some_iff.1 h).1
  simp [rowB, List.getElem?_append, hi, h]
  rw [List.getElem?_eq_getElem hi] at h
  rw [Option.some.inj h]
theorem rowB_set {L : List UInt8} {z i : Nat} (c : UInt8) (h : i < L.length) : (rowB L z).setIfInBounds i (.int .u8 c.toNat) = rowB (L.set i c) z := by
  apply Array.ext'
  simp [rowB, List.set_append, h, List.map_set]
section
variable {P : Program} {ops : Array Oper} {Q : Exit → Act → World → Prop} {n : Nat} {ds : List Deferred} {E : Env} {w : World} {k : Ctx} {l rl : List HP}
variable {rest : List Oper} {d : Option Tmp} {ty : TypeId} {pos : String} {aft : Array Edge} {g : Option (Nat × Bool)}
theorem s_strByt {t u T : TypeId} [ht : Und P t .string] [hu : Und P u (.slice T)] [hT : Und P T (.int .u8)] {x : Operand} {s : ByteArray} (hO : Own k w l) (hx : ev E x = some (.string s))
    (h : ∀ b z c w', Own k w' (bytO b T z s.data.toList :: l) → LW P ops Q n ds rest (E.put d (.slice (some ⟨b, 0, none⟩) s.data.toList.length c)) w') (hg : gd ops E g = some true := by rfl) (hd : dok n d = true := by rfl) :
    LW P ops Q n ds (⟨d, .convert t u x, ty, pos, aft, g⟩ :: rest) E w := by
  have hr := run_bytes_of_string (P := P) w t u T s ht.eq hu.eq hT.eq
  have hb : bytesRow s (grownCap w s.size 0 T) = rowB s.data.toList (grownCap w s.size 0 T - s.size) := by
    apply Array.ext'
    simp [bytesRow, rowB]
  rw [hb, rowB_size] at hr
  have hsz : s.data.toList.length = s.size := by simp
  have hO2 := hO.drew.obj_alloc (.cells (rowB s.data.toList (grownCap w s.size 0 T - s.size)) T (s.data.toList.length + (grownCap w s.size 0 T - s.size), s.data.toList.length + (grownCap w s.size 0 T - s.size) + 1))
  refine l_val (o := ⟨d, .convert t u x, ty, pos, aft, g⟩) hg hd (fun c hc => ?_) (h w.heap.size (grownCap w s.size 0 T - s.size) (grownCap w s.size 0 T) _ hO2)
  simp [execOp, hc.eval hx, hr, hsz]
theorem byt_cell {b z i : Nat} {T : TypeId} {L : List UInt8} {c : UInt8} (hO : Own k w (bytO b T z L :: l)) (h : L[i]? = some c) : w.cell? ⟨b, i, none⟩ = some (.int .u8 c.toNat) := by
  have hb : w.heap[b]? = some (.cells (rowB L z) T (L.length + z, L.length + z + 1)) := hO.heap fun hp hA hw => (hw b _ hA).2
  simp only [World.cell?, hb]
  simpa using rowB_at h
theorem byt_holds {b z i : Nat} {T : TypeId} {L : List UInt8} {c : UInt8} (hO : Own k w (bytO b T z L :: l)) (h : L[i]? = some c) : Holds w ⟨b, 0 + (((i : Nat) : Int).toNat * 1 + 0), none⟩ [.int .u8 c.toNat] := by
  intro j v hj
  cases j with
  | zero =>
    simp at hj; subst hj
    have := byt_cell hO h
    simpa [Addr.add] using this
  | succ j => simp at hj
theorem s_stByt {t : TypeId} [hl : Lay P t false 1] {b z i : Nat} {T : TypeId} {L : List UInt8} {c : UInt8} {x y : Operand} (hO : Own k w (bytO b T z L :: l)) (hx : ev E x = some (.pointer (some ⟨b, 0 + (((i : Nat) : Int).toNat * 1 + 0), none⟩))) (hy : ev E y = some (.int .u8 c.toNat)) (hi : i < L.length)
    (h : ∀ w', Own k w' (bytO b T z (L.set i c) :: l) → LW P ops Q n ds rest (E.put d undef) w') (hg : gd ops E g = some true := by rfl) (hd : dok n d = true := by rfl) :
    LW P ops Q n ds (⟨d, .store t x y, ty, pos, aft, g⟩ :: rest) E w := by
  have hb : w.heap[b]? = some (.cells (rowB L z) T (L.length + z, L.length + z + 1)) := hO.heap fun hp hA hw => (hw b _ hA).2
  have hlt : b < w.heap.size := (Array.getElem?_eq_some_iff.1 hb).1
  have e0 : (0 + (((i : Nat) : Int).toNat * 1 + 0)) = i := by simp
  rw [e0] at hx
  have hc : w.cell? ⟨b, i, none⟩ = some (.int .u8 (L[i]).toNat) := byt_cell hO (List.getElem?_eq_getElem hi)
  have hf : w.frozen? ⟨b, i, none⟩ = false := by
    simp only [World.frozen?, hb]
    simp; omega
  have hr : (storeCells ⟨b, i, none⟩ [.int .u8 (c.toNat : Int)]).run P w = .ok () (w.setCell ⟨b, i, none⟩ (.int .u8 (c.toNat : Int))) := by
    have h1 := run_store P w ⟨b, i, none⟩ (.int .u8 (c.toNat : Int)) .plain rfl
    rw [hc, hf] at h1
    simp only [storeCells, Sem.run_bind]
    have e1 : (⟨b, i, none⟩ : Addr).add 0 = ⟨b, i, none⟩ := by simp [Addr.add]
    rw [e1]
    simp at h1
    simp [h1, Result.andThen]
  have hw : (w.setCell ⟨b, i, none⟩ (.int .u8 (c.toNat : Int))).heap[b]? = some (.cells (rowB (L.set i c) z) T ((L.set i c).length + z, (L.set i c).length + z + 1)) := by
    simp only [World.setCell, Array.getElem?_modify, if_true, hb, Option.map_some]
    simp [rowB_set c hi]
  have hO' := hO.write (w' := w.setCell ⟨b, i, none⟩ (.int .u8 (c.toNat : Int))) (b := b) (A' := bytO b T z (L.set i c)) (.hd _ _ l) (fun h hA => ⟨_, hA⟩) hb hw ⟨rfl, rfl, rfl, by simp [World.setCell], fun q hq => by simp [World.setCell, Array.getElem?_modify, Ne.symm hq]⟩
    (fun h hA hb2 => by simp [bytO, obj])
  refine l_unit (o := ⟨d, .store t x y, ty, pos, aft, g⟩) hg hd (fun a ha => ?_) (h _ hO')
  simp [execOp, ha.eval hx, ha.eval hy, Instr.storeAt, Instr.sureAddr, storeVar, hl.size, Value.cells, hr]
theorem y_bytStr {s t T : TypeId} [hs : Und P s (.slice T)] [hT : Und P T (.int .u8)] [ht : Und P t .string] {b z c : Nat} {T' : TypeId} {L : List UInt8} {x : Operand} (hO : Own k w (bytO b T' z L :: l)) (hx : ev E x = some (.slice (some ⟨b, 0, none⟩) L.length c)) :
    Yld P n ds E w ⟨d, .convert s t x, ty, pos, aft, g⟩ (.string ⟨L.toArray⟩) :=
  y_convert hx (run_convert_bytes_back (P := P) w s t T ⟨b, 0, none⟩ c L hs.eq hT.eq ht.eq fun j hj => by
    have := byt_cell hO (List.getElem?_eq_getElem hj)
    have e : (⟨b, 0, none⟩ : Addr).add j = ⟨b, j, none⟩ := by unfold Addr.add; split <;> simp_all
    rw [e]; exact this)
theorem y_or {t u : TypeId} {x y : Operand} {kd : IntKind} {a b r : Int} (hx : ev E x = some (.int kd a)) (hy : ev E y = some (.int kd b)) (hr : kd.wrap ((BitVec.ofInt kd.bits a ||| BitVec.ofInt kd.bits b).toNat : Int) = r) : Yld P n ds E w ⟨d, .binOp .or t x y u, ty, pos, aft, g⟩ (.int kd r) :=
  ⟨fun c hc => by subst hr; simp [execOp, hc.eval hx, hc.eval hy, eqGuard, binOp, Op.intBits]⟩
end
end Go.Hb
