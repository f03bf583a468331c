/- Both Finds find the same; the walk of EntityFinds. -/
import Derived.Test.YtklomlknakhedaaEnt3
set_option linter.unusedVariables false
set_option linter.unusedSimpArgs false
set_option maxRecDepth 100000
namespace Go.Proofs.Ytklomlknakhedaa
open Go Go.Hb Go.RowKit
abbrev tl (s : ByteArray) : List UInt8 := s.data.toList
theorem tl_inj {a b : ByteArray} (h : tl a = tl b) : a = b := by cases a; cases b; simp_all [tl]
theorem tl_eq {a b : ByteArray} : a = b ↔ tl a = tl b := ⟨fun h => by rw [h], tl_inj⟩
theorem tl_app (a b : ByteArray) : tl (a ++ b) = tl a ++ tl b := by simp [tl]
theorem tl_ext (s : ByteArray) (i j : Nat) : tl (s.extract i j) = ((tl s).take j).drop i := by simp [tl, List.drop_take]
theorem tl_len (s : ByteArray) : (tl s).length = s.size := by simp [tl]
theorem tl_semi : tl semi = [59] := rfl
theorem find_congr {α : Type} {p q : α → Bool} : ∀ {l : List α}, (∀ x ∈ l, p x = q x) → l.find? p = l.find? q
  | [], _ => rfl
  | x :: l, h => by rw [List.find?_cons, List.find?_cons, h x (by simp), find_congr (l := l) fun y hy => h y (by simp [hy])]
theorem suf_iff (s : ByteArray) : sufB s semi = true ↔ ∃ c, tl s = c ++ [59] := by
  rw [sufB, Bool.and_eq_true, decide_eq_true_eq, decide_eq_true_eq, tl_eq, tl_ext, tl_semi, show semi.size = 1 from rfl]
  have hl := tl_len s
  rw [List.take_of_length_le (by omega)]
  constructor
  · rintro ⟨_, h⟩
    exact ⟨(tl s).take (s.size - 1), by rw [← h, List.take_append_drop]⟩
  · rintro ⟨c, h⟩
    have : s.size = c.length + 1 := by rw [← hl, h]; simp
    refine ⟨by omega, ?_⟩
    rw [h, show s.size - 1 = c.length by omega]; simp
theorem cut_closed {s : ByteArray} (h : sufB s semi = true) : tl s = tl (cutT s semi) ++ [59] := by
  obtain ⟨c, hc⟩ := (suf_iff s).1 h
  have : s.size = c.length + 1 := by rw [← tl_len, hc]; simp
  rw [cutT, if_pos h, tl_ext, show semi.size = 1 from rfl, hc, show s.size - 1 = c.length by omega]; simp
theorem cut_open {s : ByteArray} (h : sufB s semi = false) : cutT s semi = s ∧ ∀ c, tl s ≠ c ++ [59] :=
  ⟨by rw [cutT, if_neg (by simp [h])], fun c hc => by rw [(suf_iff s).2 ⟨c, hc⟩] at h; cases h⟩
theorem old_plain : ∀ x ∈ oldL, (59 : UInt8) ∉ tl x.text := by decide
theorem young_plain : ∀ x ∈ youngL, (59 : UInt8) ∉ tl x.text := by decide
theorem isO_eq {s : ByteArray} {x : Entity_name} (hx : (59 : UInt8) ∉ tl x.text) : isO s (rowOf x) = isT (cutT s semi) x := by
  rw [Bool.eq_iff_iff]
  simp only [isO, isT, rowOf, Bool.or_eq_true, decide_eq_true_eq, tl_eq (a := s), tl_eq (a := x.text), tl_app, tl_semi]
  cases h : sufB s semi with
  | true =>
    have hc := cut_closed h
    constructor
    · rintro (e | e)
      · rw [hc] at e; exact absurd (e ▸ by simp) hx
      · rw [hc] at e; exact (List.append_inj_left' e rfl).symm
    · intro e; right; rw [hc, e]
  | false =>
    obtain ⟨e1, e2⟩ := cut_open h
    rw [e1]
    exact ⟨fun e => e.elim (fun e => e.symm) (fun e => absurd e (e2 _)), fun e => .inl e.symm⟩
theorem isY_eq {s : ByteArray} {x : Entity_name} (h : sufB s semi = true) : isY s (rowOf x) = isT (cutT s semi) x := by
  rw [Bool.eq_iff_iff]
  simp only [isY, isT, rowOf, decide_eq_true_eq, tl_eq (a := s), tl_eq (a := x.text), tl_app, tl_semi]
  rw [cut_closed h]
  exact ⟨fun e => (List.append_inj_left' e rfl).symm, fun e => by rw [e]⟩
theorem isY_open {s : ByteArray} {x : Entity_name} (h : sufB s semi = false) : isY s (rowOf x) = false := by
  simp only [isY, rowOf, decide_eq_false_iff_not, tl_eq (a := s), tl_app, tl_semi]
  exact (cut_open h).2 _
theorem two_open {s : ByteArray} (h : sufB s semi = false) : twoR s = none := by
  have := (cut_open h).2
  have e1 : ¬ s = ⟨#[110, 118, 108, 116, 59]⟩ := fun e => this (tl (⟨#[110, 118, 108, 116]⟩ : ByteArray)) (by rw [e]; rfl)
  have e2 : ¬ s = ⟨#[98, 110, 101, 59]⟩ := fun e => this (tl (⟨#[98, 110, 101]⟩ : ByteArray)) (by rw [e]; rfl)
  have e3 : ¬ s = ⟨#[102, 106, 108, 105, 103, 59]⟩ := fun e => this (tl (⟨#[102, 106, 108, 105, 103]⟩ : ByteArray)) (by rw [e]; rfl)
  have e4 : ¬ s = ⟨#[97, 99, 69, 59]⟩ := fun e => this (tl (⟨#[97, 99, 69]⟩ : ByteArray)) (by rw [e]; rfl)
  rw [twoR, if_neg e1, if_neg e2, if_neg e3, if_neg e4]
theorem two_closed {s : ByteArray} (h : sufB s semi = true) : twoR s = (pairL.find? (isQ (cutT s semi))).map fun p => [p.x, p.y] := by
  have key : ∀ a b : ByteArray, tl b = tl a ++ [59] → decide (s = b) = isQ (cutT s semi) ⟨a, 0, 0⟩ := fun a b hb => by
    rw [Bool.eq_iff_iff]
    simp only [isQ, decide_eq_true_eq, tl_eq (a := s), tl_eq (a := a)]
    rw [hb, cut_closed h]
    exact ⟨fun e => (List.append_inj_left' e rfl).symm, fun e => by rw [e]⟩
  have q : ∀ a x y, isQ (cutT s semi) ⟨a, x, y⟩ = isQ (cutT s semi) ⟨a, 0, 0⟩ := fun _ _ _ => rfl
  have k1 := key ⟨#[110, 118, 108, 116]⟩ ⟨#[110, 118, 108, 116, 59]⟩ rfl
  have k2 := key ⟨#[98, 110, 101]⟩ ⟨#[98, 110, 101, 59]⟩ rfl
  have k3 := key ⟨#[102, 106, 108, 105, 103]⟩ ⟨#[102, 106, 108, 105, 103, 59]⟩ rfl
  have k4 := key ⟨#[97, 99, 69]⟩ ⟨#[97, 99, 69, 59]⟩ rfl
  simp only [pairL, List.find?_cons, List.find?_nil, q, ← k1, ← k2, ← k3, ← k4, twoR]
  repeat' split
  all_goals simp_all
theorem find_eq (s : ByteArray) : findR s = findP s := by
  have h1 : (oldL.map rowOf).find? (isO s) = (oldL.find? (isT (cutT s semi))).map rowOf := by
    rw [List.find?_map]
    congr 1
    exact find_congr fun x hx => isO_eq (old_plain x hx)
  rw [findR, findP, h1]
  cases oldL.find? (isT (cutT s semi)) with
  | some x => rfl
  | none =>
    simp only [Option.map_none]
    cases h : sufB s semi with
    | false =>
      rw [if_pos rfl, List.find?_map, show youngL.find? (isY s ∘ rowOf) = none by rw [List.find?_eq_none]; intro x hx; simp [isY_open h]]
      simp only [Option.map_none]
      exact two_open h
    | true =>
      rw [if_neg (by simp), List.find?_map, show youngL.find? (isY s ∘ rowOf) = youngL.find? (isT (cutT s semi)) from find_congr fun x hx => isY_eq h]
      cases youngL.find? (isT (cutT s semi)) with
      | some x => rfl
      | none => exact two_closed h
theorem findP_len (s : ByteArray) : ((findP s).getD []).length ≤ 2 := by
  unfold findP
  cases oldL.find? (isT (cutT s semi)) with
  | some x => simp
  | none =>
    simp only
    split
    · simp
    · cases youngL.find? (isT (cutT s semi)) with
      | some x => simp
      | none => cases pairL.find? (isQ (cutT s semi)) <;> simp
set_option maxHeartbeats 1000000 in
theorem EntityFinds_spec {k : Ctx} {w : World} {s : ByteArray} (hs : s.size ≤ 9223372036854775807) (hO : Own k w []) : Tri Try.prog 3 #[.string s] k w fun v m => v = .bool true ∧ m = [] := by
  refine enter (args := [.string s]) Try.func3 rfl rfl ?_
  refine K0 (K1 ?_)
  refine l_y rfl rfl (y_assign rfl) ?_
  refine K2 (K3 (K0 (K1 ?_)))
  refine l_y rfl rfl (y_move rfl) ?_
  refine CK [] hO rfl (fun k' hx hr hO' => Find_spec (s := s) hs (hO := hO')) ?_
  rintro _ _ w ⟨q9, c9, T9, rfl, rfl⟩ hO
  simp only [List.cons_append, List.nil_append] at hO
  refine l_y rfl rfl (y_move rfl) ?_
  refine l_y rfl rfl (y_extract rfl rfl) ?_
  refine l_y rfl rfl (y_extract rfl rfl) ?_
  refine l_y rfl rfl (y_assign rfl) ?_
  refine l_y rfl rfl (y_assign rfl) ?_
  refine K2 (K3 (K0 (K1 ?_)))
  refine l_y rfl rfl (y_move rfl) ?_
  refine CK [] hO rfl (fun k' hx hr hO' => FindR_spec (s := s) (hO := hO')) ?_
  rintro _ _ w ⟨q14, c14, T14, rfl, rfl⟩ hO
  simp only [List.cons_append, List.nil_append] at hO
  refine l_y rfl rfl (y_move rfl) ?_
  refine l_y rfl rfl (y_extract rfl rfl) ?_
  refine l_y rfl rfl (y_extract rfl rfl) ?_
  refine l_y rfl rfl (y_assign rfl) ?_
  refine l_y rfl rfl (y_assign rfl) ?_
  refine K2 (K3 (K0 (K1 ?_)))
  refine l_y rfl rfl (y_move rfl) ?_
  refine l_y rfl rfl (y_move rfl) ?_
  refine CK [] hO rfl (fun k' hx hr hO' => runes_spec (a := (findP s).getD []) (b := (findR s).getD []) (sls_roK (p := q9) hr (sls_fct hO)) (sls_roK (p := q14) hr (sls_fct hO)) (by have := findP_len s; omega) (hO := hO')) ?_
  rintro _ _ w ⟨rfl, rfl⟩ hO
  refine l_y rfl rfl (y_move rfl) ?_
  refine l_split 20 rfl (fun hg20 => ?_) (fun hg20 => ?_)
  · refine l_y rfl rfl (y_move rfl) ?_
    refine l_y rfl rfl (y_move rfl) ?_
    refine l_y rfl rfl (y_eqB rfl rfl rfl) ?_
    refine l_y rfl rfl (y_pick_t rfl rfl) ?_
    refine l_y rfl rfl (y_move rfl) ?_
    refine l_split 25 rfl (fun hg25 => ?_) (fun hg25 => ?_)
    · refine CK [] hO rfl (fun k' hx hr hO' => awake_spec (hO := hO')) ?_
      rintro _ _ w ⟨rfl, rfl⟩ hO
      simp only [List.cons_append, List.nil_append] at hO
      refine l_y rfl rfl (y_pick_t rfl rfl) ?_
      refine l_y rfl rfl (y_assign rfl) ?_
      refine K2 (K3 (K6 ?_))
      exact fin1 rfl rfl ⟨_, ⟨by first | rfl | simp_all [find_eq], rfl⟩, hO.none⟩
    · repeat refine M2 ?_
      refine l_y rfl rfl (y_pick_f rfl rfl) ?_
      refine l_y rfl rfl (y_assign rfl) ?_
      refine K2 (K3 (K6 ?_))
      exact fin1 rfl rfl ⟨_, ⟨by first | rfl | simp_all [find_eq], rfl⟩, hO.none⟩
  · repeat refine M2 ?_
    refine l_y rfl rfl (y_pick_f rfl rfl) ?_
    refine l_y rfl rfl (y_move rfl) ?_
    repeat refine M2 ?_
    refine l_y rfl rfl (y_pick_f rfl rfl) ?_
    refine l_y rfl rfl (y_assign rfl) ?_
    refine K2 (K3 (K6 ?_))
    exact fin1 rfl rfl ⟨_, ⟨by first | rfl | simp_all [find_eq], rfl⟩, hO.none⟩
end Go.Proofs.Ytklomlknakhedaa
