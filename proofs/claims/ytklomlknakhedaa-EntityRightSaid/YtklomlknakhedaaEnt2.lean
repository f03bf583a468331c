/- The walks of both Finds. -/
import Derived.Test.YtklomlknakhedaaEnt1
set_option linter.unusedVariables false
set_option linter.unusedSimpArgs false
set_option maxRecDepth 100000
namespace Go.Proofs.Ytklomlknakhedaa
open Go Go.Hb Go.RowKit
def semi : ByteArray := ⟨#[59]⟩
def sufB (s t : ByteArray) : Bool := decide (t.size ≤ s.size) && decide (s.extract (s.size - t.size) s.size = t)
def preB (s t : ByteArray) : Bool := decide (t.size ≤ s.size) && decide (s.extract 0 t.size = t)
def cutT (s t : ByteArray) : ByteArray := if sufB s t = true then s.extract 0 (s.size - t.size) else s
theorem find_take {α : Type} [Inhabited α] {xs : List α} {p : α → Bool} {i : Nat} (h0 : (xs.take i).find? p = none) (hi : i < xs.length) (h : p (at_ xs i) = true) : xs.find? p = some (at_ xs i) := by
  have e : xs[i] = at_ xs i := (at_eq (List.getElem?_eq_getElem hi)).symm
  have h1 : (xs.take i ++ xs.drop i).find? p = some (at_ xs i) := by
    rw [List.find?_append, h0, List.drop_eq_getElem_cons hi, List.find?_cons, e, h]; rfl
  rwa [List.take_append_drop] at h1
theorem find_next {α : Type} [Inhabited α] {xs : List α} {p : α → Bool} {i : Nat} (h0 : (xs.take i).find? p = none) (hi : i < xs.length) (h : ¬ p (at_ xs i) = true) : (xs.take (i + 1)).find? p = none := by
  rw [take_succ_at hi, List.find?_append, h0]
  simp [h]
def isT (s : ByteArray) (x : Entity_name) : Bool := decide (x.text = s)
def isQ (s : ByteArray) (x : Pr) : Bool := decide (x.text = s)
def findP (s : ByteArray) : Option (List Int) :=
  match oldL.find? (isT (cutT s semi)) with
  | some x => some [x.r]
  | none => if sufB s semi = false then none else
    match youngL.find? (isT (cutT s semi)) with
    | some x => some [x.r]
    | none => (pairL.find? (isQ (cutT s semi))).map fun p => [p.x, p.y]
def twoR (s : ByteArray) : Option (List Int) :=
  if s = ⟨#[110, 118, 108, 116, 59]⟩ then some [60, 8402] else if s = ⟨#[98, 110, 101, 59]⟩ then some [61, 8421] else if s = ⟨#[102, 106, 108, 105, 103, 59]⟩ then some [102, 106] else if s = ⟨#[97, 99, 69, 59]⟩ then some [8766, 819] else none
def isO (s : ByteArray) (x : Ref08_row) : Bool := decide (s = x.Name) || decide (s = x.Name ++ semi)
def isY (s : ByteArray) (x : Ref08_row) : Bool := decide (s = x.Name ++ semi)
def findR (s : ByteArray) : Option (List Int) :=
  match (oldL.map rowOf).find? (isO s) with
  | some x => some [x.Rune]
  | none => match (youngL.map rowOf).find? (isY s) with
    | some x => some [x.Rune]
    | none => twoR s
theorem preB_v {s t : ByteArray} {b : Bool} (h : b = (decide ((t.size : Int) ≤ s.size) && decide (s.extract 0 ((t.size : Int)).toNat = t))) : Value.bool b = .bool (preB s t) := by
  subst h
  simp only [preB, Int.toNat_natCast, Int.ofNat_le]
theorem sufB_v {s t : ByteArray} {b : Bool} (h : b = (decide ((t.size : Int) ≤ s.size) && decide (s.extract ((s.size : Int) - (t.size : Int)).toNat s.size = t))) : Value.bool b = .bool (sufB s t) := by
  subst h
  simp only [sufB, Int.toNat_sub, Int.ofNat_le]
section
variable {k : Ctx} {w : World} {s t : ByteArray}
theorem HasSuffix_spec (hs : s.size ≤ 9223372036854775807) (ht : t.size ≤ 9223372036854775807) (hO : Own k w []) : Tri Try.prog 32 #[.string s, .string t] k w fun v m => v = .bool (sufB s t) ∧ m = [] := by
  refine enter (args := [.string s, .string t]) Try.func32 rfl rfl ?_
  have e2 : ((s.size : Int) - (t.size : Int)).toNat = s.size - t.size := Int.toNat_sub s.size t.size
  refine K0 (K1 ?_)
  refine l_y rfl rfl (y_assign rfl) ?_
  refine K2 (K3 (K0 (K1 ?_)))
  refine l_y rfl rfl (y_move rfl) ?_
  refine l_y rfl rfl (y_lenS rfl) ?_
  refine l_y rfl rfl (y_move rfl) ?_
  refine l_y rfl rfl (y_lenS rfl) ?_
  refine Z0 (fun h1_4 => ?_) (fun h1_4 => ?_)
  · refine l_y rfl rfl (y_move rfl) ?_
    refine l_y rfl rfl (y_move rfl) ?_
    refine l_y rfl rfl (y_move rfl) ?_
    refine l_y rfl rfl (y_lenS rfl) ?_
    refine l_y rfl rfl (y_move rfl) ?_
    refine l_y rfl rfl (y_lenS rfl) ?_
    refine l_y rfl rfl (D4) ?_
    refine l_y rfl rfl (y_subFrom rfl rfl (by omega) (by omega)) ?_
    refine l_y rfl rfl (y_move rfl) ?_
    refine Z2 (fun h1_14 => ?_) (fun h1_14 => ?_)
    · refine l_y rfl rfl (y_pick_t rfl rfl) ?_
      refine l_y rfl rfl (y_assign rfl) ?_
      refine K2 (K3 (K6 ?_))
      exact fin1 rfl rfl ⟨_, ⟨sufB_v (by first | (simp [*]; done) | (rw [e2] at h1_14; simp [*])), rfl⟩, hO.none⟩
    · refine l_y rfl rfl (y_pick_t rfl rfl) ?_
      refine l_y rfl rfl (y_assign rfl) ?_
      refine K2 (K3 (K6 ?_))
      exact fin1 rfl rfl ⟨_, ⟨sufB_v (by first | (simp [*]; done) | (rw [e2] at h1_14; simp [*])), rfl⟩, hO.none⟩
  · refine l_y rfl rfl (y_move rfl) ?_
    repeat refine M2 ?_
    refine l_y rfl rfl (y_pick_f rfl rfl) ?_
    refine l_y rfl rfl (y_assign rfl) ?_
    refine K2 (K3 (K6 ?_))
    exact fin1 rfl rfl ⟨_, ⟨sufB_v (by first | (simp [*]; done) | (rw [e2] at h1_14; simp [*])), rfl⟩, hO.none⟩
theorem HasPrefix0_spec (hO : Own k w []) : Tri Try.prog 31 #[.string s, .string t] k w fun v m => v = .bool (preB s t) ∧ m = [] := by
  refine enter (args := [.string s, .string t]) Try.func31 rfl rfl ?_
  refine K0 (K1 ?_)
  refine l_y rfl rfl (y_assign rfl) ?_
  refine K2 (K3 (K0 (K1 ?_)))
  refine l_y rfl rfl (y_move rfl) ?_
  refine l_y rfl rfl (y_lenS rfl) ?_
  refine l_y rfl rfl (y_move rfl) ?_
  refine l_y rfl rfl (y_lenS rfl) ?_
  refine Z0 (fun h1_4 => ?_) (fun h1_4 => ?_)
  · refine l_y rfl rfl (y_move rfl) ?_
    refine l_y rfl rfl (y_move rfl) ?_
    refine l_y rfl rfl (y_move rfl) ?_
    refine l_y rfl rfl (y_lenS rfl) ?_
    refine l_y rfl rfl (y_subTo rfl rfl (by omega) (by omega)) ?_
    refine l_y rfl rfl (y_move rfl) ?_
    refine Z2 (fun h1_11 => ?_) (fun h1_11 => ?_)
    · refine l_y rfl rfl (y_pick_t rfl rfl) ?_
      refine l_y rfl rfl (y_assign rfl) ?_
      refine K2 (K3 (K6 ?_))
      exact fin1 rfl rfl ⟨_, ⟨preB_v (by first | (simp [*]; done) | (rw [Int.toNat_natCast] at h1_11; simp [*])), rfl⟩, hO.none⟩
    · refine l_y rfl rfl (y_pick_t rfl rfl) ?_
      refine l_y rfl rfl (y_assign rfl) ?_
      refine K2 (K3 (K6 ?_))
      exact fin1 rfl rfl ⟨_, ⟨preB_v (by first | (simp [*]; done) | (rw [Int.toNat_natCast] at h1_11; simp [*])), rfl⟩, hO.none⟩
  · refine l_y rfl rfl (y_move rfl) ?_
    repeat refine M2 ?_
    refine l_y rfl rfl (y_pick_f rfl rfl) ?_
    refine l_y rfl rfl (y_assign rfl) ?_
    refine K2 (K3 (K6 ?_))
    exact fin1 rfl rfl ⟨_, ⟨preB_v (by first | (simp [*]; done) | (rw [Int.toNat_natCast] at h1_11; simp [*])), rfl⟩, hO.none⟩
theorem HasPrefix_spec (hO : Own k w []) : Tri Try.prog 26 #[.string s, .string t] k w fun v m => v = .bool (preB s t) ∧ m = [] := by
  refine enter (args := [.string s, .string t]) Try.func26 rfl rfl ?_
  refine K0 (K1 ?_)
  refine l_y rfl rfl (y_assign rfl) ?_
  refine K2 (K3 (K0 (K1 ?_)))
  refine l_y rfl rfl (y_move rfl) ?_
  refine l_y rfl rfl (y_move rfl) ?_
  refine CK [] hO rfl (fun k' hx hr hO' => HasPrefix0_spec (hO := hO')) ?_
  rintro _ _ w ⟨rfl, rfl⟩ hO
  simp only [List.cons_append, List.nil_append] at hO
  refine l_y rfl rfl (y_assign rfl) ?_
  refine K2 (K3 (K6 ?_))
  exact fin1 rfl rfl ⟨_, ⟨rfl, rfl⟩, hO.none⟩
theorem starts_spec (hO : Own k w []) : Tri Try.prog 27 #[.string s, .string t] k w fun v m => v = .bool (preB s t) ∧ m = [] := by
  refine enter (args := [.string s, .string t]) Try.func27 rfl rfl ?_
  refine K0 (K1 ?_)
  refine l_y rfl rfl (y_assign rfl) ?_
  refine K2 (K3 (K0 (K1 ?_)))
  refine l_y rfl rfl (y_move rfl) ?_
  refine l_y rfl rfl (y_lenS rfl) ?_
  refine l_y rfl rfl (y_move rfl) ?_
  refine l_y rfl rfl (y_lenS rfl) ?_
  refine Z0 (fun h1_4 => ?_) (fun h1_4 => ?_)
  · refine l_y rfl rfl (y_move rfl) ?_
    refine l_y rfl rfl (y_move rfl) ?_
    refine l_y rfl rfl (y_move rfl) ?_
    refine l_y rfl rfl (y_lenS rfl) ?_
    refine l_y rfl rfl (y_subTo rfl rfl (by omega) (by omega)) ?_
    refine l_y rfl rfl (y_move rfl) ?_
    refine Z2 (fun h1_11 => ?_) (fun h1_11 => ?_)
    · refine l_y rfl rfl (y_pick_t rfl rfl) ?_
      refine l_y rfl rfl (y_assign rfl) ?_
      refine K2 (K3 (K6 ?_))
      exact fin1 rfl rfl ⟨_, ⟨preB_v (by first | (simp [*]; done) | (rw [Int.toNat_natCast] at h1_11; simp [*])), rfl⟩, hO.none⟩
    · refine l_y rfl rfl (y_pick_t rfl rfl) ?_
      refine l_y rfl rfl (y_assign rfl) ?_
      refine K2 (K3 (K6 ?_))
      exact fin1 rfl rfl ⟨_, ⟨preB_v (by first | (simp [*]; done) | (rw [Int.toNat_natCast] at h1_11; simp [*])), rfl⟩, hO.none⟩
  · refine l_y rfl rfl (y_move rfl) ?_
    repeat refine M2 ?_
    refine l_y rfl rfl (y_pick_f rfl rfl) ?_
    refine l_y rfl rfl (y_assign rfl) ?_
    refine K2 (K3 (K6 ?_))
    exact fin1 rfl rfl ⟨_, ⟨preB_v (by first | (simp [*]; done) | (rw [Int.toNat_natCast] at h1_11; simp [*])), rfl⟩, hO.none⟩
theorem CutSuffix0_spec (hs : s.size ≤ 9223372036854775807) (ht : t.size ≤ 9223372036854775807) (hO : Own k w []) : Tri Try.prog 30 #[.string s, .string t] k w fun v m => v = .tuple #[.string (cutT s t), .bool (sufB s t)] ∧ m = [] := by
  refine enter (args := [.string s, .string t]) Try.func30 rfl rfl ?_
  have hsz : sufB s t = true → t.size ≤ s.size := fun h => by rw [sufB, Bool.and_eq_true] at h; simpa using h.1
  have e2 : ((s.size : Int) - (t.size : Int)).toNat = s.size - t.size := Int.toNat_sub s.size t.size
  have hF : sufB s t = false → cutT s t = s := fun h => by rw [cutT, if_neg (by simp [h])]
  have hT : sufB s t = true → cutT s t = s.extract 0 (s.size - t.size) := fun h => by rw [cutT, if_pos h]
  refine K0 (K1 ?_)
  refine l_y rfl rfl (y_assign rfl) ?_
  refine l_y rfl rfl (y_assign rfl) ?_
  refine K2 (K3 (K0 (K0 (K1 ?_))))
  refine l_y rfl rfl (y_move rfl) ?_
  refine l_y rfl rfl (y_move rfl) ?_
  refine CK [] hO rfl (fun k' hx hr hO' => HasSuffix_spec (by assumption) (by assumption) (hO := hO')) ?_
  rintro _ _ w ⟨rfl, rfl⟩ hO
  simp only [List.cons_append, List.nil_append] at hO
  refine l_y rfl rfl (y_not rfl rfl) ?_
  refine K2 (K3 ?_)
  refine c_split rfl (fun hc9 => ?_) (fun hc9 => ?_)
  · simp only [Bool.not_eq_true', Bool.not_eq_false'] at hc9
    refine K0 (K1 ?_)
    refine l_y rfl rfl (y_move rfl) ?_
    refine l_y rfl rfl (y_assign rfl) ?_
    refine l_y rfl rfl (y_assign rfl) ?_
    refine K2 (K3 (K6 (K9 ?_)))
    rw [hF (by simpa using hc9), show sufB s t = false by simpa using hc9]
    exact fin2 rfl rfl rfl ⟨_, ⟨rfl, rfl⟩, hO.none⟩
  · simp only [Bool.not_eq_true', Bool.not_eq_false'] at hc9
    refine K5 (K3 (K0 ?_))
    have hle := hsz (by simpa using hc9)
    refine K1 ?_
    refine l_y rfl rfl (y_move rfl) ?_
    refine l_y rfl rfl (y_move rfl) ?_
    refine l_y rfl rfl (y_lenS rfl) ?_
    refine l_y rfl rfl (y_move rfl) ?_
    refine l_y rfl rfl (y_lenS rfl) ?_
    refine l_y rfl rfl (D4) ?_
    refine l_y rfl rfl (y_subTo rfl rfl (by omega) (by omega)) ?_
    refine l_y rfl rfl (y_assign rfl) ?_
    refine l_y rfl rfl (y_assign rfl) ?_
    refine K2 (K3 (K6 ?_))
    rw [hT (by simpa using hc9), show sufB s t = true by simpa using hc9]
    exact fin2 rfl rfl rfl ⟨_, ⟨by rw [← e2], rfl⟩, hO.none⟩
theorem CutSuffix_spec (hs : s.size ≤ 9223372036854775807) (ht : t.size ≤ 9223372036854775807) (hO : Own k w []) : Tri Try.prog 19 #[.string s, .string t] k w fun v m => v = .tuple #[.string (cutT s t), .bool (sufB s t)] ∧ m = [] := by
  refine enter (args := [.string s, .string t]) Try.func19 rfl rfl ?_
  refine K0 (K1 ?_)
  refine l_y rfl rfl (y_assign rfl) ?_
  refine l_y rfl rfl (y_assign rfl) ?_
  refine K2 (K3 (K0 (K1 ?_)))
  refine l_y rfl rfl (y_move rfl) ?_
  refine l_y rfl rfl (y_move rfl) ?_
  refine CK [] hO rfl (fun k' hx hr hO' => CutSuffix0_spec (by assumption) (by assumption) (hO := hO')) ?_
  rintro _ _ w ⟨rfl, rfl⟩ hO
  simp only [List.cons_append, List.nil_append] at hO
  refine l_y rfl rfl (y_extract rfl rfl) ?_
  refine l_y rfl rfl (y_extract rfl rfl) ?_
  refine l_y rfl rfl (y_assign rfl) ?_
  refine l_y rfl rfl (y_assign rfl) ?_
  refine K2 (K3 (K6 ?_))
  exact fin2 rfl rfl rfl ⟨_, ⟨rfl, rfl⟩, hO.none⟩
abbrev runesL (q : Option Addr) (c : Nat) (T : TypeId) (l : List Int) : HP := sls q c T 1 (eI .i32) l
def FindV (r : Option (List Int)) (v : Value) (m : List HP) : Prop := ∃ q c T, v = .tuple #[.slice q (r.getD []).length c, .bool r.isSome] ∧ m = [runesL q c T (r.getD [])]
set_option maxHeartbeats 1000000 in
theorem Find_spec (hs : s.size ≤ 9223372036854775807) (hO : Own k w []) : Tri Try.prog 9 #[.string s] k w fun v m => FindV (findP s) v m := by
  refine enter (args := [.string s]) Try.func9 rfl rfl ?_
  have hlO : oldL.length = 106 := by kernel_rfl
  have hlY : youngL.length = 141 := by kernel_rfl
  have hlP : pairL.length = 4 := by kernel_rfl
  refine K0 (K1 ?_)
  refine l_y rfl rfl (y_assign rfl) ?_
  refine l_y rfl rfl (y_assign rfl) ?_
  refine K2 (K3 (K0 (K1 ?_)))
  refine l_y rfl rfl (y_move rfl) ?_
  refine CK [] hO rfl (fun k' hx hr hO' => CutSuffix_spec (by assumption) (by decide) (hO := hO')) ?_
  rintro _ _ w ⟨rfl, rfl⟩ hO
  simp only [List.cons_append, List.nil_append] at hO
  refine l_y rfl rfl (y_move rfl) ?_
  refine l_y rfl rfl (y_extract rfl rfl) ?_
  refine l_y rfl rfl (y_extract rfl rfl) ?_
  refine l_y rfl rfl (y_assign rfl) ?_
  refine l_y rfl rfl (y_assign rfl) ?_
  refine K2 (K3 (K0 (K0 (K1 ?_))))
  refine CK [] hO rfl (fun k' hx hr hO' => old_spec (hO := hO')) ?_
  rintro _ _ w ⟨rfl, rfl⟩ hO
  simp only [List.cons_append, List.nil_append] at hO
  refine l_y rfl rfl (y_move rfl) ?_
  refine K2 (K3 (K4 ?_))
  refine c_rounds (X := Nat) (fun i => [(2, .slice none 0 0), (3, .bool false), (4, .string (cutT s ⟨#[59]⟩)), (5, .bool (sufB s ⟨#[59]⟩)), (17, .agg (oldL.map Entity_name.cells).flatten.toArray), (18, .int .i64 (i : Int))]) (fun i w => Own k w [] ∧ (i ≤ 106) ∧ ((oldL.take i).find? (isT (cutT s semi)) = none)) (fun i => 106 - i) (0) ⟨rfl, rfl, rfl, rfl, rfl, rfl, trivial⟩ ⟨hO.only [], Nat.zero_le _, rfl⟩ ?_
  rintro i w m hm ⟨hO, hi, hf⟩
  refine K0 (K1 ?_)
  refine Z0 (fun h3_0 => ?_) (fun h3_0 => ?_)
  · refine K2 (K3 (K0 (L8 (K5 (K3 (K0 (K4 (K0 (K1 ?_)))))))))
    refine l_y rfl rfl (y_idxN Entity_name.cells oldL [.string (at_ oldL i).text, .int .i32 (at_ oldL i).r] rfl rfl rfl hlO.symm (by omega)) ?_
    refine s_alloc (vs := [.string ⟨#[]⟩, .int .i32 0]) hO rfl rfl rfl fun b7 w hO => ?_
    refine Y3 hO rfl rfl (fun w hO => ?_)
    refine K2 (K3 (K0 (K1 ?_)))
    refine l_y rfl rfl (y_fldb (o' := 0) rfl) ?_
    refine l_y rfl rfl (D5 hO rfl) ?_
    refine l_y rfl rfl (y_move rfl) ?_
    refine Z2 (fun h5_3 => ?_) (fun h5_3 => ?_)
    · refine K2 (K3 (L8 (K0 (K1 ?_))))
      refine l_y rfl rfl (y_fldb (o' := 1) rfl) ?_
      refine l_y rfl rfl (D5 hO rfl) ?_
      refine s_lit (parts := [(0, .tmp 26)]) (enc := (eI .i32)) [(at_ oldL i).r] [.int .i32 (at_ oldL i).r] hO rfl (fun b27 w hO => ?_)
      refine l_y rfl rfl (y_assign rfl) ?_
      refine l_y rfl rfl (y_assign rfl) ?_
      refine K2 (K3 (K6 (L0 (K9 (K9 (L0 (K9 ?_)))))))
      have e : findP s = some [(at_ oldL i).r] := by rw [findP, find_take hf (by omega) (by simp [isT, semi, h5_3])]
      rw [e]
      exact fin2 rfl rfl rfl ⟨_, ⟨_, _, _, rfl, rfl⟩, hO.only [.p (some ⟨b27, 0, none⟩)]⟩
    · refine K2 (K3 (L9 (K5 (K8 (K3 (K1 ?_))))))
      refine l_y rfl rfl (D4) ?_
      refine l_y rfl rfl (y_move rfl) ?_
      refine K2 ?_
      exact q_next (i + 1) ⟨rfl, rfl, rfl, rfl, rfl, rfl, trivial⟩ ⟨hO.only [], by omega, find_next hf (by omega) (fun hh => h5_3 (of_decide_eq_true hh))⟩ (by omega)
  · refine K2 (K3 (K0 (L9 (K7 (L1 (L1 (L2 (K3 (K0 (K0 (K1 ?_)))))))))))
    refine l_y rfl rfl (y_move rfl) ?_
    refine l_y rfl rfl (y_not rfl rfl) ?_
    refine K2 (K3 ?_)
    refine c_split rfl (fun hc30 => ?_) (fun hc30 => ?_)
    · simp only [Bool.not_eq_true', Bool.not_eq_false'] at hc30
      refine K0 (K1 ?_)
      refine l_y rfl rfl (y_assign rfl) ?_
      refine l_y rfl rfl (y_assign rfl) ?_
      refine K2 (K3 (K6 (K9 ?_)))
      have e : findP s = none := by rw [findP, show oldL.find? (isT (cutT s semi)) = none by rw [← hf, List.take_of_length_le (by omega)], if_pos (by simpa [semi] using hc30)]
      rw [e]
      exact fin2 rfl rfl rfl ⟨_, ⟨_, _, _, rfl, rfl⟩, (sl_nil 21 1 hO).one⟩
    · simp only [Bool.not_eq_true', Bool.not_eq_false'] at hc30
      refine K5 (K3 (K0 (K0 ?_)))
      have e0 : findP s = (match youngL.find? (isT (cutT s semi)) with
          | some x => some [x.r]
          | none => (pairL.find? (isQ (cutT s semi))).map fun p => [p.x, p.y]) := by rw [findP, show oldL.find? (isT (cutT s semi)) = none by rw [← hf, List.take_of_length_le (by omega)], if_neg (by simpa [semi] using hc30)]
      refine K1 ?_
      refine CK [] hO rfl (fun k' hx hr hO' => young_spec (hO := hO')) ?_
      rintro _ _ w ⟨rfl, rfl⟩ hO
      simp only [List.cons_append, List.nil_append] at hO
      refine l_y rfl rfl (y_move rfl) ?_
      refine K2 (K3 (K4 ?_))
      refine c_rounds (X := Nat) (fun i => [(2, .slice none 0 0), (3, .bool false), (4, .string (cutT s ⟨#[59]⟩)), (31, .agg (youngL.map Entity_name.cells).flatten.toArray), (32, .int .i64 (i : Int))]) (fun i w => Own k w [] ∧ (i ≤ 141) ∧ ((youngL.take i).find? (isT (cutT s semi)) = none)) (fun i => 141 - i) (0) ⟨rfl, rfl, rfl, rfl, rfl, trivial⟩ ⟨hO.only [], Nat.zero_le _, rfl⟩ ?_
      rintro i w m hm ⟨hO, hi, hf⟩
      refine K0 (K1 ?_)
      refine Z0 (fun h11_0 => ?_) (fun h11_0 => ?_)
      · refine K2 (K3 (K0 (L8 (K5 (K3 (K0 (K4 (K0 (K1 ?_)))))))))
        refine l_y rfl rfl (y_idxN Entity_name.cells youngL [.string (at_ youngL i).text, .int .i32 (at_ youngL i).r] rfl rfl rfl hlY.symm (by omega)) ?_
        refine s_alloc (vs := [.string ⟨#[]⟩, .int .i32 0]) hO rfl rfl rfl fun b9 w hO => ?_
        refine Y3 hO rfl rfl (fun w hO => ?_)
        refine K2 (K3 (K0 (K1 ?_)))
        refine l_y rfl rfl (y_fldb (o' := 0) rfl) ?_
        refine l_y rfl rfl (D5 hO rfl) ?_
        refine l_y rfl rfl (y_move rfl) ?_
        refine Z2 (fun h13_3 => ?_) (fun h13_3 => ?_)
        · refine K2 (K3 (L8 (K0 (K1 ?_))))
          refine l_y rfl rfl (y_fldb (o' := 1) rfl) ?_
          refine l_y rfl rfl (D5 hO rfl) ?_
          refine s_lit (parts := [(0, .tmp 40)]) (enc := (eI .i32)) [(at_ youngL i).r] [.int .i32 (at_ youngL i).r] hO rfl (fun b41 w hO => ?_)
          refine l_y rfl rfl (y_assign rfl) ?_
          refine l_y rfl rfl (y_assign rfl) ?_
          refine K2 (K3 (K6 (L0 (K9 (K9 (L0 (K9 ?_)))))))
          have e : findP s = some [(at_ youngL i).r] := by rw [e0, find_take hf (by omega) (by simp [isT, semi, h13_3])]
          rw [e]
          exact fin2 rfl rfl rfl ⟨_, ⟨_, _, _, rfl, rfl⟩, hO.only [.p (some ⟨b41, 0, none⟩)]⟩
        · refine K2 (K3 (L9 (K5 (K8 (K3 (K1 ?_))))))
          refine l_y rfl rfl (D4) ?_
          refine l_y rfl rfl (y_move rfl) ?_
          refine K2 ?_
          exact q_next (i + 1) ⟨rfl, rfl, rfl, rfl, rfl, trivial⟩ ⟨hO.only [], by omega, find_next hf (by omega) (fun hh => h13_3 (of_decide_eq_true hh))⟩ (by omega)
      · refine K2 (K3 (K0 (L9 (K7 (L1 (L1 (L2 (K3 (K0 (K0 ?_))))))))))
        have e1 : findP s = (pairL.find? (isQ (cutT s semi))).map fun p => [p.x, p.y] := by rw [e0, show youngL.find? (isT (cutT s semi)) = none by rw [← hf, List.take_of_length_le (by omega)]]
        refine K1 ?_
        refine CK [] hO rfl (fun k' hx hr hO' => pairs_spec (hO := hO')) ?_
        rintro _ _ w ⟨rfl, rfl⟩ hO
        simp only [List.cons_append, List.nil_append] at hO
        refine l_y rfl rfl (y_move rfl) ?_
        refine K2 (K3 (K4 ?_))
        refine c_rounds (X := Nat) (fun i => [(2, .slice none 0 0), (3, .bool false), (4, .string (cutT s ⟨#[59]⟩)), (43, .agg (pairL.map Pr.cells).flatten.toArray), (44, .int .i64 (i : Int))]) (fun i w => Own k w [] ∧ (i ≤ 4) ∧ ((pairL.take i).find? (isQ (cutT s semi)) = none)) (fun i => 4 - i) (0) ⟨rfl, rfl, rfl, rfl, rfl, trivial⟩ ⟨hO.only [], Nat.zero_le _, rfl⟩ ?_
        rintro i w m hm ⟨hO, hi, hf⟩
        refine K0 (K1 ?_)
        refine Z0 (fun h17_0 => ?_) (fun h17_0 => ?_)
        · refine K2 (K3 (K0 (L8 (K5 (K3 (K0 (K4 (K0 (K1 ?_)))))))))
          refine l_y rfl rfl (y_idxN Pr.cells pairL [.string (at_ pairL i).text, .int .i32 (at_ pairL i).x, .int .i32 (at_ pairL i).y] rfl rfl rfl hlP.symm (by omega)) ?_
          refine s_alloc (vs := [.string ⟨#[]⟩, .int .i32 0, .int .i32 0]) hO rfl rfl rfl fun b11 w hO => ?_
          refine Y3 hO rfl rfl (fun w hO => ?_)
          refine K2 (K3 (K0 (K1 ?_)))
          refine l_y rfl rfl (y_fldb (o' := 0) rfl) ?_
          refine l_y rfl rfl (D5 hO rfl) ?_
          refine l_y rfl rfl (y_move rfl) ?_
          refine Z2 (fun h19_3 => ?_) (fun h19_3 => ?_)
          · refine K2 (K3 (L8 (K0 (K1 ?_))))
            refine l_y rfl rfl (y_fldb (o' := 1) rfl) ?_
            refine l_y rfl rfl (y_sliceA rfl) ?_
            refine l_y rfl rfl (y_assign rfl) ?_
            refine l_y rfl rfl (y_assign rfl) ?_
            refine K2 (K3 (K6 (L0 (K9 (K9 (L0 (K9 ?_)))))))
            have e : findP s = some [(at_ pairL i).x, (at_ pairL i).y] := by rw [e1, find_take hf (by omega) (by simp [isQ, semi, h19_3])]; rfl
            rw [e]
            have hO := sls_blk (o := 1) (sz := 1) (enc := eI .i32) (pre := [.string (at_ pairL i).text]) (xs := [(at_ pairL i).x, (at_ pairL i).y]) (hO.ks [.b b11]) rfl rfl (by show 2 ≤ maxLen; decide)
            exact fin2 rfl rfl rfl ⟨_, ⟨_, _, _, rfl, rfl⟩, hO.only [.p (some ⟨b11, 1, none⟩)]⟩
          · refine K2 (K3 (L9 (K5 (K8 (K3 (K1 ?_))))))
            refine l_y rfl rfl (D4) ?_
            refine l_y rfl rfl (y_move rfl) ?_
            refine K2 ?_
            exact q_next (i + 1) ⟨rfl, rfl, rfl, rfl, rfl, trivial⟩ ⟨hO.only [], by omega, find_next hf (by omega) (fun hh => h19_3 (of_decide_eq_true hh))⟩ (by omega)
        · refine K2 (K3 (K0 (L9 (K7 (L1 (L1 (L2 (K3 (K0 (K1 ?_))))))))))
          refine l_y rfl rfl (y_assign rfl) ?_
          refine l_y rfl rfl (y_assign rfl) ?_
          refine K2 (K3 (K6 ?_))
          have e : findP s = none := by rw [e1, show pairL.find? (isQ (cutT s semi)) = none by rw [← hf, List.take_of_length_le (by omega)]]; rfl
          rw [e]
          exact fin2 rfl rfl rfl ⟨_, ⟨_, _, _, rfl, rfl⟩, (sl_nil 21 1 hO).one⟩
end
end Go.Proofs.Ytklomlknakhedaa
