/- The walk of the law TaskPicks; no condition. -/
import Derived.Test.YtnlnfmjnoabfeaaTask5
set_option linter.unusedVariables false
set_option linter.unusedSimpArgs false
namespace Go.Proofs.Ytnlnfmjnoabfeaa
open Go Go.Hb Go.RowKit
theorem ready_none (f : Nat → List Tk) : ∀ m, ready f m = [] → ∀ i, i < m → (f i).length = 0
  | 0, _, i, h => absurd h (Nat.not_lt_zero _)
  | m + 1, e, i, h => by
    have e' : ready f (m + 1) = if (f m).length = 0 then ready f m else ready f m ++ [m] := rfl
    rw [e'] at e
    split at e
    · rename_i hz
      by_cases him : i = m
      · subst him; exact hz
      · exact ready_none f m e i (by omega)
    · simp at e
theorem ready_none0 (f : Nat → List Tk) (h : ∀ i, (f i).length = 0) : ∀ m, ready f m = []
  | 0 => rfl
  | m + 1 => by
    have e' : ready f (m + 1) = if (f m).length = 0 then ready f m else ready f m ++ [m] := rfl
    rw [e', if_pos (h m)]
    exact ready_none0 f h m
set_option maxHeartbeats 4000000 in
theorem TaskPicks_spec (k : Ctx) (w : World) (p : Option Addr) (cap : Nat) (rows : List (List Value)) (pick times : Int) (hro : rows ≠ [] → ∃ b o, p = some ⟨b, o, none⟩ ∧ Ro k ⟨b, o, none⟩ rows.flatten)
    (hrow : ∀ r ∈ rows, ∃ n : Int, r = [.int .u8 n] ∧ 0 ≤ n ∧ n ≤ 255) (h1 : 0 ≤ pick) (h2 : pick ≤ 255) (h3 : -128 ≤ times) (h4 : times ≤ 127) (hO : Own k w []) :
    Tri Try.prog 4 #[.slice p rows.length cap, .int .u8 pick, .int .i8 times] k w fun r m => r = .bool true := by
  refine enter (args := [.slice p rows.length cap, .int .u8 pick, .int .i8 times]) Try.func4 rfl rfl ?_
  have hr1 : ∀ r ∈ rows, r.length = 1 := fun r hr => by obtain ⟨n, rfl, _⟩ := hrow r hr; rfl
  repeat (first | (with_reducible first | refine K0 ?_ | refine K1 ?_ | refine K2 ?_ | refine K3 ?_ | refine K4 ?_ | refine K5 ?_ | refine K6 ?_ | refine K7 ?_ | refine K8 ?_ | refine K9 ?_ | refine L0 ?_ | refine L1 ?_ | refine L2 ?_ | refine L3 ?_ | refine L4 ?_ | refine L5 ?_ | refine L6 ?_) | refine Y0 hO rfl ?_ | refine Y1 hO rfl rfl (fun w hO => ?_) | refine Y2 hO rfl ?_ | refine Y3 hO rfl rfl (fun w hO => ?_) | refine l_y rfl rfl (y_index rfl rfl (by omega) (by omega)) ?_ | refine l_y rfl rfl (y_indexA rfl rfl (by omega) (by omega)) ?_ | refine L7 ?_ | refine L8 ?_ | refine L9 ?_ | refine M0 ?_ | refine M1 ?_ | refine M2 ?_ | refine M3 ?_ | refine M4 ?_ | refine M5 ?_ | refine M6 ?_ | refine M7 ?_ | refine M8 ?_ | refine M9 ?_ | refine N0 ?_ | refine N1 ?_ | refine N2 ?_ | refine N3 ?_ | refine N4 ?_ | refine N5 ?_ | refine N6 ?_ | refine N7 ?_ | refine N8 ?_ | refine N9 ?_ | refine R0 ?_ | refine R1 ?_ | refine R2 ?_ | refine R3 ?_ | refine R4 ?_ | refine R5 ?_ | refine R6 ?_ | refine R7 ?_ | refine R8 ?_ | refine R9 ?_ | refine S0 ?_)
  refine s_callO hO (.nil _) rfl rfl rfl (fun k' hx hr hO => New_spec k' _ hO) ?_
  rintro _ _ w ⟨q, rfl, rfl⟩ hO
  repeat (first | (with_reducible first | refine K0 ?_ | refine K1 ?_ | refine K2 ?_ | refine K3 ?_ | refine K4 ?_ | refine K5 ?_ | refine K6 ?_ | refine K7 ?_ | refine K8 ?_ | refine K9 ?_ | refine L0 ?_ | refine L1 ?_ | refine L2 ?_ | refine L3 ?_ | refine L4 ?_ | refine L5 ?_ | refine L6 ?_) | refine Y0 hO rfl ?_ | refine Y1 hO rfl rfl (fun w hO => ?_) | refine Y2 hO rfl ?_ | refine Y3 hO rfl rfl (fun w hO => ?_) | refine l_y rfl rfl (y_index rfl rfl (by omega) (by omega)) ?_ | refine l_y rfl rfl (y_indexA rfl rfl (by omega) (by omega)) ?_ | refine L7 ?_ | refine L8 ?_ | refine L9 ?_ | refine M0 ?_ | refine M1 ?_ | refine M2 ?_ | refine M3 ?_ | refine M4 ?_ | refine M5 ?_ | refine M6 ?_ | refine M7 ?_ | refine M8 ?_ | refine M9 ?_ | refine N0 ?_ | refine N1 ?_ | refine N2 ?_ | refine N3 ?_ | refine N4 ?_ | refine N5 ?_ | refine N6 ?_ | refine N7 ?_ | refine N8 ?_ | refine N9 ?_ | refine R0 ?_ | refine R1 ?_ | refine R2 ?_ | refine R3 ?_ | refine R4 ?_ | refine R5 ?_ | refine R6 ?_ | refine R7 ?_ | refine R8 ?_ | refine R9 ?_ | refine S0 ?_)
  refine c_rounds (X := Nat × (Nat → List Tk)) (fun x => [(0, .slice p rows.length cap), (1, .int .u8 pick), (2, .int .i8 times), (7, .pointer (some ⟨q, 0, none⟩)), (8, .int .i64 (x.1 : Nat))])
    (fun x w => Own k w [que q x.2] ∧ x.1 ≤ rows.length ∧ x.1 ≤ 100 ∧ (ready x.2 4 = [] → x.1 = 0)) (fun x => rows.length - x.1) (0, fun _ => []) ⟨rfl, rfl, rfl, rfl, rfl, trivial⟩ ⟨hO.front (m := []), Nat.zero_le _, Nat.zero_le _, fun _ => rfl⟩ ?_
  rintro ⟨i, f⟩ w m hm ⟨hO, hi, hi2, hre⟩
  dsimp only at hO hi hi2 hre hm ⊢
  by_cases hlt : i < rows.length
  · by_cases h100 : i < 100
    · obtain ⟨b, o, hp, hR⟩ := hro (fun h => by rw [h] at hlt; exact absurd hlt (Nat.not_lt_zero _))
      obtain ⟨n, hn, hn1, hn2⟩ := hrow rows[i] (List.getElem_mem hlt)
      have hcell : rows.flatten[i]? = some (.int .u8 n) := by
        have := flatten_get hr1 i 0 rows[i] (List.getElem?_eq_getElem hlt) (by decide)
        rw [Nat.mul_one, Nat.add_zero, hn] at this
        exact this
      obtain ⟨s, hs⟩ : ∃ s : Nat, n % 4 = (s : Int) := ⟨(n % 4).toNat, by omega⟩
      have hs4 : s < 4 := by omega
      rw [hp]
      repeat (first | (with_reducible first | refine K0 ?_ | refine K1 ?_ | refine K2 ?_ | refine K3 ?_ | refine K4 ?_ | refine K5 ?_ | refine K6 ?_ | refine K7 ?_ | refine K8 ?_ | refine K9 ?_ | refine L0 ?_ | refine L1 ?_ | refine L2 ?_ | refine L3 ?_ | refine L4 ?_ | refine L5 ?_ | refine L6 ?_) | refine Y0 hO rfl ?_ | refine Y1 hO rfl rfl (fun w hO => ?_) | refine Y2 hO rfl ?_ | refine Y3 hO rfl rfl (fun w hO => ?_) | refine l_y rfl rfl (y_index rfl rfl (by omega) (by omega)) ?_ | refine l_y rfl rfl (y_indexA rfl rfl (by omega) (by omega)) ?_ | refine L7 ?_ | refine L8 ?_ | refine L9 ?_ | refine M0 ?_ | refine M1 ?_ | refine M2 ?_ | refine M3 ?_ | refine M4 ?_ | refine M5 ?_ | refine M6 ?_ | refine M7 ?_ | refine M8 ?_ | refine M9 ?_ | refine N0 ?_ | refine N1 ?_ | refine N2 ?_ | refine N3 ?_ | refine N4 ?_ | refine N5 ?_ | refine N6 ?_ | refine N7 ?_ | refine N8 ?_ | refine N9 ?_ | refine R0 ?_ | refine R1 ?_ | refine R2 ?_ | refine R3 ?_ | refine R4 ?_ | refine R5 ?_ | refine R6 ?_ | refine R7 ?_ | refine R8 ?_ | refine R9 ?_ | refine S0 ?_)
      refine dl_start (SO k []) (by intro c a d v w h; cases d <;> exact h) (SO.of hO.drew (.nil _)) ?_
      repeat (first | refine dl_y (by kernel_rfl) rfl rfl (fun w ⟨m, hw⟩ => by first | exact y_move rfl | exact y_assign rfl | exact y_nilCheck rfl rfl | exact y_fieldAddr_row rfl | exact y_fieldAddr rfl | exact y_lenL rfl | exact y_lenS rfl | exact y_extract rfl rfl | exact y_pick_t rfl rfl | exact y_pick_f rfl rfl | exact D5 hw rfl | exact D4 | exact D0 | exact D1 | exact D2 | exact D3 | exact D6 | exact D7 | exact y_index rfl rfl (by omega) (by omega) | exact y_indexA rfl rfl (by omega) (by omega) | exact D8 hw rfl | exact y_not rfl rfl | exact y_eqPnil rfl rfl rfl | exact y_nePnil rfl rfl rfl | exact y_convS rfl | exact y_eqB rfl rfl rfl | exact y_neB rfl rfl rfl) ?_ | refine dl_pass (by kernel_rfl) rfl rfl ?_)
      refine dl_y (by kernel_rfl) rfl rfl (fun w ⟨m, hw⟩ => y_load1 rfl (holds_at (hR.holds hw) i _ hcell)) ?_
      refine dl_y (by kernel_rfl) rfl rfl (fun w ⟨m, hw⟩ => y_remN rfl rfl hn1 (by decide)) ?_
      rw [hs]
      repeat (first | refine dl_y (by kernel_rfl) rfl rfl (fun w ⟨m, hw⟩ => by first | exact y_move rfl | exact y_assign rfl | exact y_nilCheck rfl rfl | exact y_fieldAddr_row rfl | exact y_fieldAddr rfl | exact y_lenL rfl | exact y_lenS rfl | exact y_extract rfl rfl | exact y_pick_t rfl rfl | exact y_pick_f rfl rfl | exact D5 hw rfl | exact D4 | exact D0 | exact D1 | exact D2 | exact D3 | exact D6 | exact D7 | exact y_index rfl rfl (by omega) (by omega) | exact y_indexA rfl rfl (by omega) (by omega) | exact D8 hw rfl | exact y_not rfl rfl | exact y_eqPnil rfl rfl rfl | exact y_nePnil rfl rfl rfl | exact y_convS rfl | exact y_eqB rfl rfl rfl | exact y_neB rfl rfl rfl) ?_ | refine dl_pass (by kernel_rfl) rfl rfl ?_)
      refine dl_only (by kernel_rfl) ?_
      refine s_callO hO.drew (As := []) (.nil _) rfl rfl rfl (fun k' hx hr hO => job_spec k' _ _ hO) ?_
      rintro _ _ w ⟨jb, rfl, rfl⟩ hO
      refine l_nil (o_end ⟨SO.of hO (.nil _), ?_⟩)
      refine dl_only (by kernel_rfl) ?_
      refine s_callO hO (.cons (.tl _ (.hd _ _)) (.nil _)) rfl rfl rfl (fun k' hx hr hO => Post_spec k' _ q _ s hs4 _ hO) ?_
      rintro _ _ w ⟨rfl, rfl⟩ hO
      refine l_nil (o_end ⟨SO.of hO (.nil _), ?_⟩)
      refine dl_end (by kernel_rfl) ?_
      repeat (first | (with_reducible first | refine K0 ?_ | refine K1 ?_ | refine K2 ?_ | refine K3 ?_ | refine K4 ?_ | refine K5 ?_ | refine K6 ?_ | refine K7 ?_ | refine K8 ?_ | refine K9 ?_ | refine L0 ?_ | refine L1 ?_ | refine L2 ?_ | refine L3 ?_ | refine L4 ?_ | refine L5 ?_ | refine L6 ?_) | refine Y0 hO rfl ?_ | refine Y1 hO rfl rfl (fun w hO => ?_) | refine Y2 hO rfl ?_ | refine Y3 hO rfl rfl (fun w hO => ?_) | refine l_y rfl rfl (y_index rfl rfl (by omega) (by omega)) ?_ | refine l_y rfl rfl (y_indexA rfl rfl (by omega) (by omega)) ?_ | refine L7 ?_ | refine L8 ?_ | refine L9 ?_ | refine M0 ?_ | refine M1 ?_ | refine M2 ?_ | refine M3 ?_ | refine M4 ?_ | refine M5 ?_ | refine M6 ?_ | refine M7 ?_ | refine M8 ?_ | refine M9 ?_ | refine N0 ?_ | refine N1 ?_ | refine N2 ?_ | refine N3 ?_ | refine N4 ?_ | refine N5 ?_ | refine N6 ?_ | refine N7 ?_ | refine N8 ?_ | refine N9 ?_ | refine R0 ?_ | refine R1 ?_ | refine R2 ?_ | refine R3 ?_ | refine R4 ?_ | refine R5 ?_ | refine R6 ?_ | refine R7 ?_ | refine R8 ?_ | refine R9 ?_ | refine S0 ?_)
      refine q_next (i + 1, if (f s).length < 4096 then upd f s (f s ++ [⟨2, none, 0, 0, some ⟨jb, 0, none⟩, 1, 1⟩]) else f) ⟨rfl, rfl, rfl, rfl, rfl, trivial⟩ ⟨(hO : Own k w ([_] ++ _)).front, hlt, h100, fun h => ?_⟩ (by simp only; omega)
      exfalso
      by_cases h6 : (f s).length < 4096
      · simp only [if_pos h6] at h
        have h5 := ready_none _ 4 h s hs4
        rw [upd_at] at h5
        simp at h5
      · simp only [if_neg h6] at h
        have h5 := ready_none _ 4 h s hs4
        omega
    · have hcond : i = 100 := by omega
      repeat (first | (with_reducible first | refine K0 ?_ | refine K1 ?_ | refine K2 ?_ | refine K3 ?_ | refine K4 ?_ | refine K5 ?_ | refine K6 ?_ | refine K7 ?_ | refine K8 ?_ | refine K9 ?_ | refine L0 ?_ | refine L1 ?_ | refine L2 ?_ | refine L3 ?_ | refine L4 ?_ | refine L5 ?_ | refine L6 ?_) | refine Y0 hO rfl ?_ | refine Y1 hO rfl rfl (fun w hO => ?_) | refine Y2 hO rfl ?_ | refine Y3 hO rfl rfl (fun w hO => ?_) | refine l_y rfl rfl (y_index rfl rfl (by omega) (by omega)) ?_ | refine l_y rfl rfl (y_indexA rfl rfl (by omega) (by omega)) ?_ | refine L7 ?_ | refine L8 ?_ | refine L9 ?_ | refine M0 ?_ | refine M1 ?_ | refine M2 ?_ | refine M3 ?_ | refine M4 ?_ | refine M5 ?_ | refine M6 ?_ | refine M7 ?_ | refine M8 ?_ | refine M9 ?_ | refine N0 ?_ | refine N1 ?_ | refine N2 ?_ | refine N3 ?_ | refine N4 ?_ | refine N5 ?_ | refine N6 ?_ | refine N7 ?_ | refine N8 ?_ | refine N9 ?_ | refine R0 ?_ | refine R1 ?_ | refine R2 ?_ | refine R3 ?_ | refine R4 ?_ | refine R5 ?_ | refine R6 ?_ | refine R7 ?_ | refine R8 ?_ | refine R9 ?_ | refine S0 ?_)
      refine s_callO hO (.cons (.hd _ _) (.nil _)) rfl rfl rfl (fun k' hx hr hO => Ready_spec k' _ q f hO) ?_
      rintro v _ w hm' hO
      subst hm'
      have hrl := ready_len f 4
      have hil := ints_len (ready f 4)
      rcases sl_open ((hO : Own k w ([_, _] ++ [])).swap) with ⟨hv, h0, hO2⟩ | ⟨rb, ro, cap', hv, hO2⟩
      · subst hv
        have hr0 : ready f 4 = [] := by
          cases hr : ready f 4 with
          | nil => rfl
          | cons a l => rw [hr] at h0; simp [ints] at h0
        have hi0 := hre hr0
        repeat (first | (with_reducible first | refine K0 ?_ | refine K1 ?_ | refine K2 ?_ | refine K3 ?_ | refine K4 ?_ | refine K5 ?_ | refine K6 ?_ | refine K7 ?_ | refine K8 ?_ | refine K9 ?_ | refine L0 ?_ | refine L1 ?_ | refine L2 ?_ | refine L3 ?_ | refine L4 ?_ | refine L5 ?_ | refine L6 ?_) | refine Y0 hO rfl ?_ | refine Y1 hO rfl rfl (fun w hO => ?_) | refine Y2 hO rfl ?_ | refine Y3 hO rfl rfl (fun w hO => ?_) | refine l_y rfl rfl (y_index rfl rfl (by omega) (by omega)) ?_ | refine l_y rfl rfl (y_indexA rfl rfl (by omega) (by omega)) ?_ | refine L7 ?_ | refine L8 ?_ | refine L9 ?_ | refine M0 ?_ | refine M1 ?_ | refine M2 ?_ | refine M3 ?_ | refine M4 ?_ | refine M5 ?_ | refine M6 ?_ | refine M7 ?_ | refine M8 ?_ | refine M9 ?_ | refine N0 ?_ | refine N1 ?_ | refine N2 ?_ | refine N3 ?_ | refine N4 ?_ | refine N5 ?_ | refine N6 ?_ | refine N7 ?_ | refine N8 ?_ | refine N9 ?_ | refine R0 ?_ | refine R1 ?_ | refine R2 ?_ | refine R3 ?_ | refine R4 ?_ | refine R5 ?_ | refine R6 ?_ | refine R7 ?_ | refine R8 ?_ | refine R9 ?_ | refine S0 ?_)
        exact fin1 rfl rfl ⟨_, rfl, hO2⟩
      · subst hv
        have hO := hO2
        by_cases hz : (ready f 4).length = 0
        · have hi0 := hre (List.length_eq_zero_iff.1 hz)
          repeat (first | (with_reducible first | refine K0 ?_ | refine K1 ?_ | refine K2 ?_ | refine K3 ?_ | refine K4 ?_ | refine K5 ?_ | refine K6 ?_ | refine K7 ?_ | refine K8 ?_ | refine K9 ?_ | refine L0 ?_ | refine L1 ?_ | refine L2 ?_ | refine L3 ?_ | refine L4 ?_ | refine L5 ?_ | refine L6 ?_) | refine Y0 hO rfl ?_ | refine Y1 hO rfl rfl (fun w hO => ?_) | refine Y2 hO rfl ?_ | refine Y3 hO rfl rfl (fun w hO => ?_) | refine l_y rfl rfl (y_index rfl rfl (by omega) (by omega)) ?_ | refine l_y rfl rfl (y_indexA rfl rfl (by omega) (by omega)) ?_ | refine L7 ?_ | refine L8 ?_ | refine L9 ?_ | refine M0 ?_ | refine M1 ?_ | refine M2 ?_ | refine M3 ?_ | refine M4 ?_ | refine M5 ?_ | refine M6 ?_ | refine M7 ?_ | refine M8 ?_ | refine M9 ?_ | refine N0 ?_ | refine N1 ?_ | refine N2 ?_ | refine N3 ?_ | refine N4 ?_ | refine N5 ?_ | refine N6 ?_ | refine N7 ?_ | refine N8 ?_ | refine N9 ?_ | refine R0 ?_ | refine R1 ?_ | refine R2 ?_ | refine R3 ?_ | refine R4 ?_ | refine R5 ?_ | refine R6 ?_ | refine R7 ?_ | refine R8 ?_ | refine R9 ?_ | refine S0 ?_)
          exact fin1 rfl rfl ⟨_, rfl, hO⟩
        · have hat := Int.emod_nonneg pick (b := ((ints (ready f 4)).length : Int)) (by omega)
          have hat2 := Int.emod_lt_of_pos pick (b := ((ints (ready f 4)).length : Int)) (by omega)
          have m1 : times * ((ints (ready f 4)).length : Int) ≤ 127 * 4 := Int.le_trans (Int.mul_le_mul_of_nonneg_right h4 (by omega)) (by omega)
          have m2 : -128 * 4 ≤ times * ((ints (ready f 4)).length : Int) := Int.le_trans (by omega) (Int.mul_le_mul_of_nonneg_right h3 (by omega))
          repeat (first | (with_reducible first | refine K0 ?_ | refine K1 ?_ | refine K2 ?_ | refine K3 ?_ | refine K4 ?_ | refine K5 ?_ | refine K6 ?_ | refine K7 ?_ | refine K8 ?_ | refine K9 ?_ | refine L0 ?_ | refine L1 ?_ | refine L2 ?_ | refine L3 ?_ | refine L4 ?_ | refine L5 ?_ | refine L6 ?_) | refine Y0 hO rfl ?_ | refine Y1 hO rfl rfl (fun w hO => ?_) | refine Y2 hO rfl ?_ | refine Y3 hO rfl rfl (fun w hO => ?_) | refine l_y rfl rfl (y_index rfl rfl (by omega) (by omega)) ?_ | refine l_y rfl rfl (y_indexA rfl rfl (by omega) (by omega)) ?_ | refine L7 ?_ | refine L8 ?_ | refine L9 ?_ | refine M0 ?_ | refine M1 ?_ | refine M2 ?_ | refine M3 ?_ | refine M4 ?_ | refine M5 ?_ | refine M6 ?_ | refine M7 ?_ | refine M8 ?_ | refine M9 ?_ | refine N0 ?_ | refine N1 ?_ | refine N2 ?_ | refine N3 ?_ | refine N4 ?_ | refine N5 ?_ | refine N6 ?_ | refine N7 ?_ | refine N8 ?_ | refine N9 ?_ | refine R0 ?_ | refine R1 ?_ | refine R2 ?_ | refine R3 ?_ | refine R4 ?_ | refine R5 ?_ | refine R6 ?_ | refine R7 ?_ | refine R8 ?_ | refine R9 ?_ | refine S0 ?_)
          refine l_y rfl rfl (y_remN rfl rfl h1 (by omega)) ?_
          repeat (first | (with_reducible first | refine K0 ?_ | refine K1 ?_ | refine K2 ?_ | refine K3 ?_ | refine K4 ?_ | refine K5 ?_ | refine K6 ?_ | refine K7 ?_ | refine K8 ?_ | refine K9 ?_ | refine L0 ?_ | refine L1 ?_ | refine L2 ?_ | refine L3 ?_ | refine L4 ?_ | refine L5 ?_ | refine L6 ?_) | refine Y0 hO rfl ?_ | refine Y1 hO rfl rfl (fun w hO => ?_) | refine Y2 hO rfl ?_ | refine Y3 hO rfl rfl (fun w hO => ?_) | refine l_y rfl rfl (y_index rfl rfl (by omega) (by omega)) ?_ | refine l_y rfl rfl (y_indexA rfl rfl (by omega) (by omega)) ?_ | refine L7 ?_ | refine L8 ?_ | refine L9 ?_ | refine M0 ?_ | refine M1 ?_ | refine M2 ?_ | refine M3 ?_ | refine M4 ?_ | refine M5 ?_ | refine M6 ?_ | refine M7 ?_ | refine M8 ?_ | refine M9 ?_ | refine N0 ?_ | refine N1 ?_ | refine N2 ?_ | refine N3 ?_ | refine N4 ?_ | refine N5 ?_ | refine N6 ?_ | refine N7 ?_ | refine N8 ?_ | refine N9 ?_ | refine R0 ?_ | refine R1 ?_ | refine R2 ?_ | refine R3 ?_ | refine R4 ?_ | refine R5 ?_ | refine R6 ?_ | refine R7 ?_ | refine R8 ?_ | refine R9 ?_ | refine S0 ?_)
          refine s_callO hO (.cons (.tl _ (.hd _ _)) (.nil _)) rfl rfl rfl (fun k' hx hr hO => Next_spec k' _ q f _ hO) ?_
          rintro r mm w hA hO
          rcases hA with ⟨hr0, _⟩ | ⟨s, t, _, hs, _, hrr, rest, hmm⟩
          · exact absurd (by rw [hr0]; rfl) hz
          subst hrr
          subst hmm
          have hO : Own k w ([_] ++ _) := hO.perm (List.perm_append_comm (l₂ := [_]))
          rw [← hil, Int.add_mul_emod_self_right, Int.emod_emod_of_dvd _ (Int.dvd_refl _)] at hs
          have hs' : (ints (ready f 4))[(pick % ((ints (ready f 4)).length : Int)).toNat]? = some [.int .i64 (s : Nat)] := by
            simp only [ints, List.getElem?_map] at hs ⊢
            rw [hs]; rfl
          repeat (first | (with_reducible first | refine K0 ?_ | refine K1 ?_ | refine K2 ?_ | refine K3 ?_ | refine K4 ?_ | refine K5 ?_ | refine K6 ?_ | refine K7 ?_ | refine K8 ?_ | refine K9 ?_ | refine L0 ?_ | refine L1 ?_ | refine L2 ?_ | refine L3 ?_ | refine L4 ?_ | refine L5 ?_ | refine L6 ?_) | refine Y0 hO rfl ?_ | refine Y1 hO rfl rfl (fun w hO => ?_) | refine Y2 hO rfl ?_ | refine Y3 hO rfl rfl (fun w hO => ?_) | refine l_y rfl rfl (y_index rfl rfl (by omega) (by omega)) ?_ | refine l_y rfl rfl (y_indexA rfl rfl (by omega) (by omega)) ?_ | refine L7 ?_ | refine L8 ?_ | refine L9 ?_ | refine M0 ?_ | refine M1 ?_ | refine M2 ?_ | refine M3 ?_ | refine M4 ?_ | refine M5 ?_ | refine M6 ?_ | refine M7 ?_ | refine M8 ?_ | refine M9 ?_ | refine N0 ?_ | refine N1 ?_ | refine N2 ?_ | refine N3 ?_ | refine N4 ?_ | refine N5 ?_ | refine N6 ?_ | refine N7 ?_ | refine N8 ?_ | refine N9 ?_ | refine R0 ?_ | refine R1 ?_ | refine R2 ?_ | refine R3 ?_ | refine R4 ?_ | refine R5 ?_ | refine R6 ?_ | refine R7 ?_ | refine R8 ?_ | refine R9 ?_ | refine S0 ?_)
          refine s_alloc hO rfl rfl rfl fun ba w hO => ?_
          repeat (first | (with_reducible first | refine K0 ?_ | refine K1 ?_ | refine K2 ?_ | refine K3 ?_ | refine K4 ?_ | refine K5 ?_ | refine K6 ?_ | refine K7 ?_ | refine K8 ?_ | refine K9 ?_ | refine L0 ?_ | refine L1 ?_ | refine L2 ?_ | refine L3 ?_ | refine L4 ?_ | refine L5 ?_ | refine L6 ?_) | refine Y0 hO rfl ?_ | refine Y1 hO rfl rfl (fun w hO => ?_) | refine Y2 hO rfl ?_ | refine Y3 hO rfl rfl (fun w hO => ?_) | refine l_y rfl rfl (y_index rfl rfl (by omega) (by omega)) ?_ | refine l_y rfl rfl (y_indexA rfl rfl (by omega) (by omega)) ?_ | refine L7 ?_ | refine L8 ?_ | refine L9 ?_ | refine M0 ?_ | refine M1 ?_ | refine M2 ?_ | refine M3 ?_ | refine M4 ?_ | refine M5 ?_ | refine M6 ?_ | refine M7 ?_ | refine M8 ?_ | refine M9 ?_ | refine N0 ?_ | refine N1 ?_ | refine N2 ?_ | refine N3 ?_ | refine N4 ?_ | refine N5 ?_ | refine N6 ?_ | refine N7 ?_ | refine N8 ?_ | refine N9 ?_ | refine R0 ?_ | refine R1 ?_ | refine R2 ?_ | refine R3 ?_ | refine R4 ?_ | refine R5 ?_ | refine R6 ?_ | refine R7 ?_ | refine R8 ?_ | refine R9 ?_ | refine S0 ?_)
          refine s_load1 rfl rfl rfl (hO.holds (.tl _ (.hd _ _ _)) (.ofArr1 hs' rfl)) ?_
          repeat (first | (with_reducible first | refine K0 ?_ | refine K1 ?_ | refine K2 ?_ | refine K3 ?_ | refine K4 ?_ | refine K5 ?_ | refine K6 ?_ | refine K7 ?_ | refine K8 ?_ | refine K9 ?_ | refine L0 ?_ | refine L1 ?_ | refine L2 ?_ | refine L3 ?_ | refine L4 ?_ | refine L5 ?_ | refine L6 ?_) | refine Y0 hO rfl ?_ | refine Y1 hO rfl rfl (fun w hO => ?_) | refine Y2 hO rfl ?_ | refine Y3 hO rfl rfl (fun w hO => ?_) | refine l_y rfl rfl (y_index rfl rfl (by omega) (by omega)) ?_ | refine l_y rfl rfl (y_indexA rfl rfl (by omega) (by omega)) ?_ | refine L7 ?_ | refine L8 ?_ | refine L9 ?_ | refine M0 ?_ | refine M1 ?_ | refine M2 ?_ | refine M3 ?_ | refine M4 ?_ | refine M5 ?_ | refine M6 ?_ | refine M7 ?_ | refine M8 ?_ | refine M9 ?_ | refine N0 ?_ | refine N1 ?_ | refine N2 ?_ | refine N3 ?_ | refine N4 ?_ | refine N5 ?_ | refine N6 ?_ | refine N7 ?_ | refine N8 ?_ | refine N9 ?_ | refine R0 ?_ | refine R1 ?_ | refine R2 ?_ | refine R3 ?_ | refine R4 ?_ | refine R5 ?_ | refine R6 ?_ | refine R7 ?_ | refine R8 ?_ | refine R9 ?_ | refine S0 ?_)
          exact fin1 rfl rfl ⟨_, rfl, hO⟩
  · have hcond : i = rows.length := by omega
    repeat (first | (with_reducible first | refine K0 ?_ | refine K1 ?_ | refine K2 ?_ | refine K3 ?_ | refine K4 ?_ | refine K5 ?_ | refine K6 ?_ | refine K7 ?_ | refine K8 ?_ | refine K9 ?_ | refine L0 ?_ | refine L1 ?_ | refine L2 ?_ | refine L3 ?_ | refine L4 ?_ | refine L5 ?_ | refine L6 ?_) | refine Y0 hO rfl ?_ | refine Y1 hO rfl rfl (fun w hO => ?_) | refine Y2 hO rfl ?_ | refine Y3 hO rfl rfl (fun w hO => ?_) | refine l_y rfl rfl (y_index rfl rfl (by omega) (by omega)) ?_ | refine l_y rfl rfl (y_indexA rfl rfl (by omega) (by omega)) ?_ | refine L7 ?_ | refine L8 ?_ | refine L9 ?_ | refine M0 ?_ | refine M1 ?_ | refine M2 ?_ | refine M3 ?_ | refine M4 ?_ | refine M5 ?_ | refine M6 ?_ | refine M7 ?_ | refine M8 ?_ | refine M9 ?_ | refine N0 ?_ | refine N1 ?_ | refine N2 ?_ | refine N3 ?_ | refine N4 ?_ | refine N5 ?_ | refine N6 ?_ | refine N7 ?_ | refine N8 ?_ | refine N9 ?_ | refine R0 ?_ | refine R1 ?_ | refine R2 ?_ | refine R3 ?_ | refine R4 ?_ | refine R5 ?_ | refine R6 ?_ | refine R7 ?_ | refine R8 ?_ | refine R9 ?_ | refine S0 ?_)
    refine s_callO hO (.cons (.hd _ _) (.nil _)) rfl rfl rfl (fun k' hx hr hO => Ready_spec k' _ q f hO) ?_
    rintro v _ w hm' hO
    subst hm'
    have hrl := ready_len f 4
    have hil := ints_len (ready f 4)
    rcases sl_open ((hO : Own k w ([_, _] ++ [])).swap) with ⟨hv, h0, hO2⟩ | ⟨rb, ro, cap', hv, hO2⟩
    · subst hv
      have hr0 : ready f 4 = [] := by
        cases hr : ready f 4 with
        | nil => rfl
        | cons a l => rw [hr] at h0; simp [ints] at h0
      have hi0 := hre hr0
      repeat (first | (with_reducible first | refine K0 ?_ | refine K1 ?_ | refine K2 ?_ | refine K3 ?_ | refine K4 ?_ | refine K5 ?_ | refine K6 ?_ | refine K7 ?_ | refine K8 ?_ | refine K9 ?_ | refine L0 ?_ | refine L1 ?_ | refine L2 ?_ | refine L3 ?_ | refine L4 ?_ | refine L5 ?_ | refine L6 ?_) | refine Y0 hO rfl ?_ | refine Y1 hO rfl rfl (fun w hO => ?_) | refine Y2 hO rfl ?_ | refine Y3 hO rfl rfl (fun w hO => ?_) | refine l_y rfl rfl (y_index rfl rfl (by omega) (by omega)) ?_ | refine l_y rfl rfl (y_indexA rfl rfl (by omega) (by omega)) ?_ | refine L7 ?_ | refine L8 ?_ | refine L9 ?_ | refine M0 ?_ | refine M1 ?_ | refine M2 ?_ | refine M3 ?_ | refine M4 ?_ | refine M5 ?_ | refine M6 ?_ | refine M7 ?_ | refine M8 ?_ | refine M9 ?_ | refine N0 ?_ | refine N1 ?_ | refine N2 ?_ | refine N3 ?_ | refine N4 ?_ | refine N5 ?_ | refine N6 ?_ | refine N7 ?_ | refine N8 ?_ | refine N9 ?_ | refine R0 ?_ | refine R1 ?_ | refine R2 ?_ | refine R3 ?_ | refine R4 ?_ | refine R5 ?_ | refine R6 ?_ | refine R7 ?_ | refine R8 ?_ | refine R9 ?_ | refine S0 ?_)
      exact fin1 rfl rfl ⟨_, rfl, hO2⟩
    · subst hv
      have hO := hO2
      by_cases hz : (ready f 4).length = 0
      · have hi0 := hre (List.length_eq_zero_iff.1 hz)
        repeat (first | (with_reducible first | refine K0 ?_ | refine K1 ?_ | refine K2 ?_ | refine K3 ?_ | refine K4 ?_ | refine K5 ?_ | refine K6 ?_ | refine K7 ?_ | refine K8 ?_ | refine K9 ?_ | refine L0 ?_ | refine L1 ?_ | refine L2 ?_ | refine L3 ?_ | refine L4 ?_ | refine L5 ?_ | refine L6 ?_) | refine Y0 hO rfl ?_ | refine Y1 hO rfl rfl (fun w hO => ?_) | refine Y2 hO rfl ?_ | refine Y3 hO rfl rfl (fun w hO => ?_) | refine l_y rfl rfl (y_index rfl rfl (by omega) (by omega)) ?_ | refine l_y rfl rfl (y_indexA rfl rfl (by omega) (by omega)) ?_ | refine L7 ?_ | refine L8 ?_ | refine L9 ?_ | refine M0 ?_ | refine M1 ?_ | refine M2 ?_ | refine M3 ?_ | refine M4 ?_ | refine M5 ?_ | refine M6 ?_ | refine M7 ?_ | refine M8 ?_ | refine M9 ?_ | refine N0 ?_ | refine N1 ?_ | refine N2 ?_ | refine N3 ?_ | refine N4 ?_ | refine N5 ?_ | refine N6 ?_ | refine N7 ?_ | refine N8 ?_ | refine N9 ?_ | refine R0 ?_ | refine R1 ?_ | refine R2 ?_ | refine R3 ?_ | refine R4 ?_ | refine R5 ?_ | refine R6 ?_ | refine R7 ?_ | refine R8 ?_ | refine R9 ?_ | refine S0 ?_)
        exact fin1 rfl rfl ⟨_, rfl, hO⟩
      · have hat := Int.emod_nonneg pick (b := ((ints (ready f 4)).length : Int)) (by omega)
        have hat2 := Int.emod_lt_of_pos pick (b := ((ints (ready f 4)).length : Int)) (by omega)
        have m1 : times * ((ints (ready f 4)).length : Int) ≤ 127 * 4 := Int.le_trans (Int.mul_le_mul_of_nonneg_right h4 (by omega)) (by omega)
        have m2 : -128 * 4 ≤ times * ((ints (ready f 4)).length : Int) := Int.le_trans (by omega) (Int.mul_le_mul_of_nonneg_right h3 (by omega))
        repeat (first | (with_reducible first | refine K0 ?_ | refine K1 ?_ | refine K2 ?_ | refine K3 ?_ | refine K4 ?_ | refine K5 ?_ | refine K6 ?_ | refine K7 ?_ | refine K8 ?_ | refine K9 ?_ | refine L0 ?_ | refine L1 ?_ | refine L2 ?_ | refine L3 ?_ | refine L4 ?_ | refine L5 ?_ | refine L6 ?_) | refine Y0 hO rfl ?_ | refine Y1 hO rfl rfl (fun w hO => ?_) | refine Y2 hO rfl ?_ | refine Y3 hO rfl rfl (fun w hO => ?_) | refine l_y rfl rfl (y_index rfl rfl (by omega) (by omega)) ?_ | refine l_y rfl rfl (y_indexA rfl rfl (by omega) (by omega)) ?_ | refine L7 ?_ | refine L8 ?_ | refine L9 ?_ | refine M0 ?_ | refine M1 ?_ | refine M2 ?_ | refine M3 ?_ | refine M4 ?_ | refine M5 ?_ | refine M6 ?_ | refine M7 ?_ | refine M8 ?_ | refine M9 ?_ | refine N0 ?_ | refine N1 ?_ | refine N2 ?_ | refine N3 ?_ | refine N4 ?_ | refine N5 ?_ | refine N6 ?_ | refine N7 ?_ | refine N8 ?_ | refine N9 ?_ | refine R0 ?_ | refine R1 ?_ | refine R2 ?_ | refine R3 ?_ | refine R4 ?_ | refine R5 ?_ | refine R6 ?_ | refine R7 ?_ | refine R8 ?_ | refine R9 ?_ | refine S0 ?_)
        refine l_y rfl rfl (y_remN rfl rfl h1 (by omega)) ?_
        repeat (first | (with_reducible first | refine K0 ?_ | refine K1 ?_ | refine K2 ?_ | refine K3 ?_ | refine K4 ?_ | refine K5 ?_ | refine K6 ?_ | refine K7 ?_ | refine K8 ?_ | refine K9 ?_ | refine L0 ?_ | refine L1 ?_ | refine L2 ?_ | refine L3 ?_ | refine L4 ?_ | refine L5 ?_ | refine L6 ?_) | refine Y0 hO rfl ?_ | refine Y1 hO rfl rfl (fun w hO => ?_) | refine Y2 hO rfl ?_ | refine Y3 hO rfl rfl (fun w hO => ?_) | refine l_y rfl rfl (y_index rfl rfl (by omega) (by omega)) ?_ | refine l_y rfl rfl (y_indexA rfl rfl (by omega) (by omega)) ?_ | refine L7 ?_ | refine L8 ?_ | refine L9 ?_ | refine M0 ?_ | refine M1 ?_ | refine M2 ?_ | refine M3 ?_ | refine M4 ?_ | refine M5 ?_ | refine M6 ?_ | refine M7 ?_ | refine M8 ?_ | refine M9 ?_ | refine N0 ?_ | refine N1 ?_ | refine N2 ?_ | refine N3 ?_ | refine N4 ?_ | refine N5 ?_ | refine N6 ?_ | refine N7 ?_ | refine N8 ?_ | refine N9 ?_ | refine R0 ?_ | refine R1 ?_ | refine R2 ?_ | refine R3 ?_ | refine R4 ?_ | refine R5 ?_ | refine R6 ?_ | refine R7 ?_ | refine R8 ?_ | refine R9 ?_ | refine S0 ?_)
        refine s_callO hO (.cons (.tl _ (.hd _ _)) (.nil _)) rfl rfl rfl (fun k' hx hr hO => Next_spec k' _ q f _ hO) ?_
        rintro r mm w hA hO
        rcases hA with ⟨hr0, _⟩ | ⟨s, t, _, hs, _, hrr, rest, hmm⟩
        · exact absurd (by rw [hr0]; rfl) hz
        subst hrr
        subst hmm
        have hO : Own k w ([_] ++ _) := hO.perm (List.perm_append_comm (l₂ := [_]))
        rw [← hil, Int.add_mul_emod_self_right, Int.emod_emod_of_dvd _ (Int.dvd_refl _)] at hs
        have hs' : (ints (ready f 4))[(pick % ((ints (ready f 4)).length : Int)).toNat]? = some [.int .i64 (s : Nat)] := by
          simp only [ints, List.getElem?_map] at hs ⊢
          rw [hs]; rfl
        repeat (first | (with_reducible first | refine K0 ?_ | refine K1 ?_ | refine K2 ?_ | refine K3 ?_ | refine K4 ?_ | refine K5 ?_ | refine K6 ?_ | refine K7 ?_ | refine K8 ?_ | refine K9 ?_ | refine L0 ?_ | refine L1 ?_ | refine L2 ?_ | refine L3 ?_ | refine L4 ?_ | refine L5 ?_ | refine L6 ?_) | refine Y0 hO rfl ?_ | refine Y1 hO rfl rfl (fun w hO => ?_) | refine Y2 hO rfl ?_ | refine Y3 hO rfl rfl (fun w hO => ?_) | refine l_y rfl rfl (y_index rfl rfl (by omega) (by omega)) ?_ | refine l_y rfl rfl (y_indexA rfl rfl (by omega) (by omega)) ?_ | refine L7 ?_ | refine L8 ?_ | refine L9 ?_ | refine M0 ?_ | refine M1 ?_ | refine M2 ?_ | refine M3 ?_ | refine M4 ?_ | refine M5 ?_ | refine M6 ?_ | refine M7 ?_ | refine M8 ?_ | refine M9 ?_ | refine N0 ?_ | refine N1 ?_ | refine N2 ?_ | refine N3 ?_ | refine N4 ?_ | refine N5 ?_ | refine N6 ?_ | refine N7 ?_ | refine N8 ?_ | refine N9 ?_ | refine R0 ?_ | refine R1 ?_ | refine R2 ?_ | refine R3 ?_ | refine R4 ?_ | refine R5 ?_ | refine R6 ?_ | refine R7 ?_ | refine R8 ?_ | refine R9 ?_ | refine S0 ?_)
        refine s_alloc hO rfl rfl rfl fun ba w hO => ?_
        repeat (first | (with_reducible first | refine K0 ?_ | refine K1 ?_ | refine K2 ?_ | refine K3 ?_ | refine K4 ?_ | refine K5 ?_ | refine K6 ?_ | refine K7 ?_ | refine K8 ?_ | refine K9 ?_ | refine L0 ?_ | refine L1 ?_ | refine L2 ?_ | refine L3 ?_ | refine L4 ?_ | refine L5 ?_ | refine L6 ?_) | refine Y0 hO rfl ?_ | refine Y1 hO rfl rfl (fun w hO => ?_) | refine Y2 hO rfl ?_ | refine Y3 hO rfl rfl (fun w hO => ?_) | refine l_y rfl rfl (y_index rfl rfl (by omega) (by omega)) ?_ | refine l_y rfl rfl (y_indexA rfl rfl (by omega) (by omega)) ?_ | refine L7 ?_ | refine L8 ?_ | refine L9 ?_ | refine M0 ?_ | refine M1 ?_ | refine M2 ?_ | refine M3 ?_ | refine M4 ?_ | refine M5 ?_ | refine M6 ?_ | refine M7 ?_ | refine M8 ?_ | refine M9 ?_ | refine N0 ?_ | refine N1 ?_ | refine N2 ?_ | refine N3 ?_ | refine N4 ?_ | refine N5 ?_ | refine N6 ?_ | refine N7 ?_ | refine N8 ?_ | refine N9 ?_ | refine R0 ?_ | refine R1 ?_ | refine R2 ?_ | refine R3 ?_ | refine R4 ?_ | refine R5 ?_ | refine R6 ?_ | refine R7 ?_ | refine R8 ?_ | refine R9 ?_ | refine S0 ?_)
        refine s_load1 rfl rfl rfl (hO.holds (.tl _ (.hd _ _ _)) (.ofArr1 hs' rfl)) ?_
        repeat (first | (with_reducible first | refine K0 ?_ | refine K1 ?_ | refine K2 ?_ | refine K3 ?_ | refine K4 ?_ | refine K5 ?_ | refine K6 ?_ | refine K7 ?_ | refine K8 ?_ | refine K9 ?_ | refine L0 ?_ | refine L1 ?_ | refine L2 ?_ | refine L3 ?_ | refine L4 ?_ | refine L5 ?_ | refine L6 ?_) | refine Y0 hO rfl ?_ | refine Y1 hO rfl rfl (fun w hO => ?_) | refine Y2 hO rfl ?_ | refine Y3 hO rfl rfl (fun w hO => ?_) | refine l_y rfl rfl (y_index rfl rfl (by omega) (by omega)) ?_ | refine l_y rfl rfl (y_indexA rfl rfl (by omega) (by omega)) ?_ | refine L7 ?_ | refine L8 ?_ | refine L9 ?_ | refine M0 ?_ | refine M1 ?_ | refine M2 ?_ | refine M3 ?_ | refine M4 ?_ | refine M5 ?_ | refine M6 ?_ | refine M7 ?_ | refine M8 ?_ | refine M9 ?_ | refine N0 ?_ | refine N1 ?_ | refine N2 ?_ | refine N3 ?_ | refine N4 ?_ | refine N5 ?_ | refine N6 ?_ | refine N7 ?_ | refine N8 ?_ | refine N9 ?_ | refine R0 ?_ | refine R1 ?_ | refine R2 ?_ | refine R3 ?_ | refine R4 ?_ | refine R5 ?_ | refine R6 ?_ | refine R7 ?_ | refine R8 ?_ | refine R9 ?_ | refine S0 ?_)
        exact fin1 rfl rfl ⟨_, rfl, hO⟩
end Go.Proofs.Ytnlnfmjnoabfeaa
