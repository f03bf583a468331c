/- The walk of the law InputNest. -/
import Derived.Test.YtfpppopcdhihgaaInp6
set_option linter.unusedVariables false
set_option linter.unusedSimpArgs false
namespace Go.Proofs.Ytfpppopcdhihgaa
open Go Go.Hb Go.RowKit
theorem ok_at {σ : St} (h : σ.Ok) : ∀ j, j ≤ nread σ → (σ.at j).Ok
  | 0, _ => by rw [at_zero]; exact h
  | j + 1, hj => by
    have hl := nread_le h
    have h1 := ok_at h j (by omega)
    have h2 := ok_next h1
    rw [next_at h (by omega) (List.getElem?_eq_getElem (by omega))] at h2
    exact h2
def lets : Nat → List Int
  | 0 => []
  | i + 1 => (97 + (i : Int)) :: lets i
def mks : Nat → List Int
  | 0 => []
  | i + 1 => ((i : Int) + 1) :: mks i
theorem lets_len : ∀ i, (lets i).length = i
  | 0 => rfl
  | i + 1 => by simp [lets, lets_len i]
theorem mks_len : ∀ i, (mks i).length = i
  | 0 => rfl
  | i + 1 => by simp [mks, mks_len i]
theorem lets_ne : ∀ i, ∀ x ∈ lets i, x ≠ -1
  | 0, x, h => by cases h
  | i + 1, x, h => by
    rcases List.mem_cons.1 h with rfl | h
    · omega
    · exact lets_ne i x h
theorem mks_up : ∀ i, (mks i).map (· + 1) ++ [1] = ((i : Int) + 1) :: mks i
  | 0 => rfl
  | i + 1 => by
    rw [mks, List.map_cons, List.cons_append, mks_up i]
    simp [mks]
theorem mks_snoc (i : Nat) : mks (i + 1) = (mks i).map (· + 1) ++ [1] := (mks_up i).symm
def nst (i : Nat) : St := ⟨lets i, mks i, false, false, false⟩
theorem nest_mark (i : Nat) (hi : i < 21) : markS (nst i) = (0, ⟨lets i, mks i ++ [0], false, false, false⟩) := by
  unfold markS nst; dsimp only
  rw [if_neg (by rw [mks_len]; omega)]
theorem nest_full (i : Nat) (hi : i = 21) : markS (nst i) = (9, nst i) := by
  unfold markS nst; dsimp only
  rw [if_pos (by rw [mks_len]; exact hi)]
theorem nest_write (i : Nat) (hi : i < 21) : writeS ⟨lets i, mks i ++ [0], false, false, false⟩ [97 + (i : Int)] = (0, nst (i + 1)) := by
  have e : ends false [97 + (i : Int)] = ([97 + (i : Int)], false) := by
    simp only [ends]
    rw [if_neg (by omega), if_neg (by simp)]
    simp; omega
  have e2 : (mks i ++ [0]).getLast? = some 0 := by simp
  unfold writeS
  simp only [e2, e]
  rw [if_pos (by simp [lets_len]; omega)]
  have h := mks_up i
  simp [nst, lets, mks] at h ⊢
  exact h
theorem nest_all (i : Nat) : nread (nst (i + 1)) = 1 ∧ (nst (i + 1)).at 1 = ⟨lets i, mks i ++ [0], false, false, false⟩ := by
  have e : (mks (i + 1)).getLast? = some 1 := by rw [mks_snoc]; simp
  constructor
  · simp only [nread, nst, e]; rfl
  · simp only [St.at, nst, mks_snoc]
    simp [lets]
    rw [List.map_congr_left (g := id) (fun a _ => by simp; omega)]
    simp
theorem nest_unmark (i : Nat) : unmarkS ⟨lets i, mks i ++ [0], false, false, false⟩ = (0, nst i) := by
  unfold unmarkS
  rw [if_neg (by simp)]
  simp [nst]
theorem InputNest_spec (k : Ctx) (w : World) (n : Int) (h1 : 0 ≤ n) (h2 : n ≤ 255) (hO : Own k w []) :
    Tri Try.prog 5 #[.int .u8 n] k w fun r m => r = .bool true := by
  refine enter (args := [.int .u8 n]) Try.func5 rfl rfl ?_
  repeat (first | (with_reducible first | refine K0 ?_ | refine K1 ?_ | refine K2 ?_ | refine K3 ?_ | refine K4 ?_ | refine K5 ?_ | refine K6 ?_ | refine K7 ?_ | refine K8 ?_ | refine K9 ?_ | refine L0 ?_ | refine L1 ?_ | refine L2 ?_ | refine L3 ?_ | refine L4 ?_ | refine L5 ?_ | refine L6 ?_) | refine Y0 hO rfl ?_ | refine Y1 hO rfl rfl (fun w hO => ?_) | refine Y2 hO rfl ?_ | refine Y3 hO rfl rfl (fun w hO => ?_) | refine l_y rfl rfl (y_index rfl rfl (by omega) (by omega)) ?_ | refine l_y rfl rfl (y_indexA rfl rfl (by omega) (by omega)) ?_ | refine L7 ?_ | refine L8 ?_ | refine L9 ?_ | refine M0 ?_ | refine M1 ?_ | refine M2 ?_ | refine M3 ?_ | refine M4 ?_ | refine M5 ?_ | refine M6 ?_ | refine M7 ?_ | refine M8 ?_ | refine M9 ?_ | refine N0 ?_ | refine N1 ?_ | refine N2 ?_ | refine N3 ?_ | refine N4 ?_ | refine N5 ?_ | refine N6 ?_ | refine N7 ?_ | refine N8 ?_ | refine N9 ?_ | refine R0 ?_ | refine R1 ?_ | refine R2 ?_ | refine R3 ?_ | refine R4 ?_ | refine R5 ?_ | refine R6 ?_ | refine R7 ?_ | refine R8 ?_ | refine R9 ?_ | refine S0 ?_)
  refine s_callO hO (.nil _) rfl rfl rfl (fun k' hx hr hO => New_spec k' _ hO) ?_
  rintro _ _ w ⟨s, rfl, rfl⟩ hO
  have hO : Own k w [_] := hO
  repeat (first | (with_reducible first | refine K0 ?_ | refine K1 ?_ | refine K2 ?_ | refine K3 ?_ | refine K4 ?_ | refine K5 ?_ | refine K6 ?_ | refine K7 ?_ | refine K8 ?_ | refine K9 ?_ | refine L0 ?_ | refine L1 ?_ | refine L2 ?_ | refine L3 ?_ | refine L4 ?_ | refine L5 ?_ | refine L6 ?_) | refine Y0 hO rfl ?_ | refine Y1 hO rfl rfl (fun w hO => ?_) | refine Y2 hO rfl ?_ | refine Y3 hO rfl rfl (fun w hO => ?_) | refine l_y rfl rfl (y_index rfl rfl (by omega) (by omega)) ?_ | refine l_y rfl rfl (y_indexA rfl rfl (by omega) (by omega)) ?_ | refine L7 ?_ | refine L8 ?_ | refine L9 ?_ | refine M0 ?_ | refine M1 ?_ | refine M2 ?_ | refine M3 ?_ | refine M4 ?_ | refine M5 ?_ | refine M6 ?_ | refine M7 ?_ | refine M8 ?_ | refine M9 ?_ | refine N0 ?_ | refine N1 ?_ | refine N2 ?_ | refine N3 ?_ | refine N4 ?_ | refine N5 ?_ | refine N6 ?_ | refine N7 ?_ | refine N8 ?_ | refine N9 ?_ | refine R0 ?_ | refine R1 ?_ | refine R2 ?_ | refine R3 ?_ | refine R4 ?_ | refine R5 ?_ | refine R6 ?_ | refine R7 ?_ | refine R8 ?_ | refine R9 ?_ | refine S0 ?_)
  refine l_y rfl rfl (y_remN rfl rfl h1 (by decide)) ?_
  obtain ⟨q, hq⟩ : ∃ q : Nat, n % 30 = (q : Int) := ⟨(n % 30).toNat, by omega⟩
  have hq30 : q < 30 := by omega
  rw [hq]
  repeat (first | (with_reducible first | refine K0 ?_ | refine K1 ?_ | refine K2 ?_ | refine K3 ?_ | refine K4 ?_ | refine K5 ?_ | refine K6 ?_ | refine K7 ?_ | refine K8 ?_ | refine K9 ?_ | refine L0 ?_ | refine L1 ?_ | refine L2 ?_ | refine L3 ?_ | refine L4 ?_ | refine L5 ?_ | refine L6 ?_) | refine Y0 hO rfl ?_ | refine Y1 hO rfl rfl (fun w hO => ?_) | refine Y2 hO rfl ?_ | refine Y3 hO rfl rfl (fun w hO => ?_) | refine l_y rfl rfl (y_index rfl rfl (by omega) (by omega)) ?_ | refine l_y rfl rfl (y_indexA rfl rfl (by omega) (by omega)) ?_ | refine L7 ?_ | refine L8 ?_ | refine L9 ?_ | refine M0 ?_ | refine M1 ?_ | refine M2 ?_ | refine M3 ?_ | refine M4 ?_ | refine M5 ?_ | refine M6 ?_ | refine M7 ?_ | refine M8 ?_ | refine M9 ?_ | refine N0 ?_ | refine N1 ?_ | refine N2 ?_ | refine N3 ?_ | refine N4 ?_ | refine N5 ?_ | refine N6 ?_ | refine N7 ?_ | refine N8 ?_ | refine N9 ?_ | refine R0 ?_ | refine R1 ?_ | refine R2 ?_ | refine R3 ?_ | refine R4 ?_ | refine R5 ?_ | refine R6 ?_ | refine R7 ?_ | refine R8 ?_ | refine R9 ?_ | refine S0 ?_)
  have hO := (sl_nil 21 1 hO).swap
  refine c_rounds (X := Nat × Nat × Option Addr × Nat) (fun x => [(3, .pointer (some ⟨s, 0, none⟩)), (4, .int .i64 q), (5, .slice x.2.2.1 (lets x.2.1).length x.2.2.2), (6, .int .i64 x.1)]) (fun x w => Own k w [stm s (nst x.2.1), rsl (.slice x.2.2.1 (lets x.2.1).length x.2.2.2) (lets x.2.1)] ∧ (nst x.2.1).Ok ∧ x.1 ≤ q ∧ (x.2.1 = x.1 ∧ x.1 ≤ 21 ∨ x.2.1 = 21 ∧ 21 < x.1)) (fun x => q - x.1) (0, 0, none, 0) ⟨rfl, rfl, rfl, rfl, trivial⟩ ⟨hO, ok_new, Nat.zero_le _, .inl ⟨rfl, by simp⟩⟩ ?_
  rintro ⟨i, j, pv, cv⟩ w m hm ⟨hO, hok, hi, hij⟩
  dsimp only at hO hok hi hij hm ⊢
  have hll := lets_len j
  by_cases hlt : i < q
  · repeat (first | (with_reducible first | refine K0 ?_ | refine K1 ?_ | refine K2 ?_ | refine K3 ?_ | refine K4 ?_ | refine K5 ?_ | refine K6 ?_ | refine K7 ?_ | refine K8 ?_ | refine K9 ?_ | refine L0 ?_ | refine L1 ?_ | refine L2 ?_ | refine L3 ?_ | refine L4 ?_ | refine L5 ?_ | refine L6 ?_) | refine Y0 hO rfl ?_ | refine Y1 hO rfl rfl (fun w hO => ?_) | refine Y2 hO rfl ?_ | refine Y3 hO rfl rfl (fun w hO => ?_) | refine l_y rfl rfl (y_index rfl rfl (by omega) (by omega)) ?_ | refine l_y rfl rfl (y_indexA rfl rfl (by omega) (by omega)) ?_ | refine L7 ?_ | refine L8 ?_ | refine L9 ?_ | refine M0 ?_ | refine M1 ?_ | refine M2 ?_ | refine M3 ?_ | refine M4 ?_ | refine M5 ?_ | refine M6 ?_ | refine M7 ?_ | refine M8 ?_ | refine M9 ?_ | refine N0 ?_ | refine N1 ?_ | refine N2 ?_ | refine N3 ?_ | refine N4 ?_ | refine N5 ?_ | refine N6 ?_ | refine N7 ?_ | refine N8 ?_ | refine N9 ?_ | refine R0 ?_ | refine R1 ?_ | refine R2 ?_ | refine R3 ?_ | refine R4 ?_ | refine R5 ?_ | refine R6 ?_ | refine R7 ?_ | refine R8 ?_ | refine R9 ?_ | refine S0 ?_)
    refine s_callO hO (.cons (.hd _ _) (.nil _)) rfl rfl rfl (fun k' hx hr hO => Mark_spec k' _ s _ hok.1 hO) ?_
    rintro _ _ w ⟨rfl, rfl⟩ hO
    have hO : Own k w [_, _] := hO
    by_cases h21 : i < 21
    · obtain rfl : j = i := by omega
      have hokm := ok_mark hok
      rw [nest_mark j h21] at hO hokm ⊢
      dsimp only at hO hokm ⊢
      repeat (first | (with_reducible first | refine K0 ?_ | refine K1 ?_ | refine K2 ?_ | refine K3 ?_ | refine K4 ?_ | refine K5 ?_ | refine K6 ?_ | refine K7 ?_ | refine K8 ?_ | refine K9 ?_ | refine L0 ?_ | refine L1 ?_ | refine L2 ?_ | refine L3 ?_ | refine L4 ?_ | refine L5 ?_ | refine L6 ?_) | refine Y0 hO rfl ?_ | refine Y1 hO rfl rfl (fun w hO => ?_) | refine Y2 hO rfl ?_ | refine Y3 hO rfl rfl (fun w hO => ?_) | refine l_y rfl rfl (y_index rfl rfl (by omega) (by omega)) ?_ | refine l_y rfl rfl (y_indexA rfl rfl (by omega) (by omega)) ?_ | refine L7 ?_ | refine L8 ?_ | refine L9 ?_ | refine M0 ?_ | refine M1 ?_ | refine M2 ?_ | refine M3 ?_ | refine M4 ?_ | refine M5 ?_ | refine M6 ?_ | refine M7 ?_ | refine M8 ?_ | refine M9 ?_ | refine N0 ?_ | refine N1 ?_ | refine N2 ?_ | refine N3 ?_ | refine N4 ?_ | refine N5 ?_ | refine N6 ?_ | refine N7 ?_ | refine N8 ?_ | refine N9 ?_ | refine R0 ?_ | refine R1 ?_ | refine R2 ?_ | refine R3 ?_ | refine R4 ?_ | refine R5 ?_ | refine R6 ?_ | refine R7 ?_ | refine R8 ?_ | refine R9 ?_ | refine S0 ?_)
      refine s_slices (parts := [(0, .tmp 40)]) [.int .i32 (97 + (j : Int))] hO rfl rfl rfl rfl (by simp [Value.cells]) (by decide) (by simp) (by simp) fun b w hO => ?_
      have hA : Own k w (rsl (.slice (some ⟨b, 0, none⟩) 1 1) [97 + (j : Int)] :: [_, _]) := sl_shut hO rfl
      have hO := hA
      have hw := nest_write j h21
      refine s_callO hO (.cons (.tl _ (.hd _ _)) (.nil _)) rfl rfl rfl (fun k' hx hr hO' => Write_spec k' _ s _ hokm.1 hokm.2 _ _ _ [97 + (j : Int)] (sl_ro hr (by simp) hO (.hd _ _)) hO') ?_
      rintro _ _ w ⟨rfl, rfl⟩ hO
      have hO : Own k w [_, _, _] := hO
      have hokw := ok_write hokm [97 + (j : Int)]
      rw [hw] at hO hokw ⊢
      dsimp only at hO hokw ⊢
      repeat (first | (with_reducible first | refine K0 ?_ | refine K1 ?_ | refine K2 ?_ | refine K3 ?_ | refine K4 ?_ | refine K5 ?_ | refine K6 ?_ | refine K7 ?_ | refine K8 ?_ | refine K9 ?_ | refine L0 ?_ | refine L1 ?_ | refine L2 ?_ | refine L3 ?_ | refine L4 ?_ | refine L5 ?_ | refine L6 ?_) | refine Y0 hO rfl ?_ | refine Y1 hO rfl rfl (fun w hO => ?_) | refine Y2 hO rfl ?_ | refine Y3 hO rfl rfl (fun w hO => ?_) | refine l_y rfl rfl (y_index rfl rfl (by omega) (by omega)) ?_ | refine l_y rfl rfl (y_indexA rfl rfl (by omega) (by omega)) ?_ | refine L7 ?_ | refine L8 ?_ | refine L9 ?_ | refine M0 ?_ | refine M1 ?_ | refine M2 ?_ | refine M3 ?_ | refine M4 ?_ | refine M5 ?_ | refine M6 ?_ | refine M7 ?_ | refine M8 ?_ | refine M9 ?_ | refine N0 ?_ | refine N1 ?_ | refine N2 ?_ | refine N3 ?_ | refine N4 ?_ | refine N5 ?_ | refine N6 ?_ | refine N7 ?_ | refine N8 ?_ | refine N9 ?_ | refine R0 ?_ | refine R1 ?_ | refine R2 ?_ | refine R3 ?_ | refine R4 ?_ | refine R5 ?_ | refine R6 ?_ | refine R7 ?_ | refine R8 ?_ | refine R9 ?_ | refine S0 ?_)
      refine s_slices (parts := [(0, .tmp 45)]) [.int .i32 (97 + (j : Int))] hO rfl rfl rfl rfl (by simp [Value.cells]) (by decide) (by simp) (by simp) fun b2 w hO => ?_
      have hA : Own k w (rsl (.slice (some ⟨b2, 0, none⟩) 1 1) [97 + (j : Int)] :: [_, _, _]) := sl_shut hO rfl
      have hO := hA
      repeat (first | (with_reducible first | refine K0 ?_ | refine K1 ?_ | refine K2 ?_ | refine K3 ?_ | refine K4 ?_ | refine K5 ?_ | refine K6 ?_ | refine K7 ?_ | refine K8 ?_ | refine K9 ?_ | refine L0 ?_ | refine L1 ?_ | refine L2 ?_ | refine L3 ?_ | refine L4 ?_ | refine L5 ?_ | refine L6 ?_) | refine Y0 hO rfl ?_ | refine Y1 hO rfl rfl (fun w hO => ?_) | refine Y2 hO rfl ?_ | refine Y3 hO rfl rfl (fun w hO => ?_) | refine l_y rfl rfl (y_index rfl rfl (by omega) (by omega)) ?_ | refine l_y rfl rfl (y_indexA rfl rfl (by omega) (by omega)) ?_ | refine L7 ?_ | refine L8 ?_ | refine L9 ?_ | refine M0 ?_ | refine M1 ?_ | refine M2 ?_ | refine M3 ?_ | refine M4 ?_ | refine M5 ?_ | refine M6 ?_ | refine M7 ?_ | refine M8 ?_ | refine M9 ?_ | refine N0 ?_ | refine N1 ?_ | refine N2 ?_ | refine N3 ?_ | refine N4 ?_ | refine N5 ?_ | refine N6 ?_ | refine N7 ?_ | refine N8 ?_ | refine N9 ?_ | refine R0 ?_ | refine R1 ?_ | refine R2 ?_ | refine R3 ?_ | refine R4 ?_ | refine R5 ?_ | refine R6 ?_ | refine R7 ?_ | refine R8 ?_ | refine R9 ?_ | refine S0 ?_)
      have e1 := iv_length .i32 (lets j)
      have e2 := iv_length .i32 [97 + (j : Int)]
      have e3 : [97 + (j : Int)].length = 1 := rfl
      refine s_append (news := iv .i32 (lets j)) (by intro kk h; cases h) hO (.hd _ _) rfl rfl rfl rfl ((sl_sli hO (.tl _ (.tl _ (.tl _ (.hd _ _))))).src (iv_one _ _) (iv_cells _ _)) (iv_one _ _) (by omega) (by omega) fun v' w hO hgr => ?_
      rw [← iv_append] at hO
      obtain ⟨pv', cv', hv⟩ := sl_shape hO
      rw [iv_length] at hv
      subst hv
      have hO : Own k w (rsl (.slice pv' (lets (j + 1)).length cv') (lets (j + 1)) :: [_, _, _]) := hO
      repeat (first | (with_reducible first | refine K0 ?_ | refine K1 ?_ | refine K2 ?_ | refine K3 ?_ | refine K4 ?_ | refine K5 ?_ | refine K6 ?_ | refine K7 ?_ | refine K8 ?_ | refine K9 ?_ | refine L0 ?_ | refine L1 ?_ | refine L2 ?_ | refine L3 ?_ | refine L4 ?_ | refine L5 ?_ | refine L6 ?_) | refine Y0 hO rfl ?_ | refine Y1 hO rfl rfl (fun w hO => ?_) | refine Y2 hO rfl ?_ | refine Y3 hO rfl rfl (fun w hO => ?_) | refine l_y rfl rfl (y_index rfl rfl (by omega) (by omega)) ?_ | refine l_y rfl rfl (y_indexA rfl rfl (by omega) (by omega)) ?_ | refine L7 ?_ | refine L8 ?_ | refine L9 ?_ | refine M0 ?_ | refine M1 ?_ | refine M2 ?_ | refine M3 ?_ | refine M4 ?_ | refine M5 ?_ | refine M6 ?_ | refine M7 ?_ | refine M8 ?_ | refine M9 ?_ | refine N0 ?_ | refine N1 ?_ | refine N2 ?_ | refine N3 ?_ | refine N4 ?_ | refine N5 ?_ | refine N6 ?_ | refine N7 ?_ | refine N8 ?_ | refine N9 ?_ | refine R0 ?_ | refine R1 ?_ | refine R2 ?_ | refine R3 ?_ | refine R4 ?_ | refine R5 ?_ | refine R6 ?_ | refine R7 ?_ | refine R8 ?_ | refine R9 ?_ | refine S0 ?_)
      have hO := hO.pulls (As := [_, _]) (.cons (.tl _ (.hd _ _)) (.cons (.hd _ _) (.nil _)))
      exact q_next (j + 1, j + 1, pv', cv') ⟨rfl, rfl, rfl, rfl, trivial⟩ ⟨Own.front (l := [_, _]) hO, hokw, by dsimp only; omega, .inl ⟨rfl, by dsimp only; omega⟩⟩ (by dsimp only; omega)
    · obtain rfl : j = 21 := by omega
      rw [nest_full 21 rfl] at hO ⊢
      dsimp only at hO ⊢
      repeat (first | (with_reducible first | refine K0 ?_ | refine K1 ?_ | refine K2 ?_ | refine K3 ?_ | refine K4 ?_ | refine K5 ?_ | refine K6 ?_ | refine K7 ?_ | refine K8 ?_ | refine K9 ?_ | refine L0 ?_ | refine L1 ?_ | refine L2 ?_ | refine L3 ?_ | refine L4 ?_ | refine L5 ?_ | refine L6 ?_) | refine Y0 hO rfl ?_ | refine Y1 hO rfl rfl (fun w hO => ?_) | refine Y2 hO rfl ?_ | refine Y3 hO rfl rfl (fun w hO => ?_) | refine l_y rfl rfl (y_index rfl rfl (by omega) (by omega)) ?_ | refine l_y rfl rfl (y_indexA rfl rfl (by omega) (by omega)) ?_ | refine L7 ?_ | refine L8 ?_ | refine L9 ?_ | refine M0 ?_ | refine M1 ?_ | refine M2 ?_ | refine M3 ?_ | refine M4 ?_ | refine M5 ?_ | refine M6 ?_ | refine M7 ?_ | refine M8 ?_ | refine M9 ?_ | refine N0 ?_ | refine N1 ?_ | refine N2 ?_ | refine N3 ?_ | refine N4 ?_ | refine N5 ?_ | refine N6 ?_ | refine N7 ?_ | refine N8 ?_ | refine N9 ?_ | refine R0 ?_ | refine R1 ?_ | refine R2 ?_ | refine R3 ?_ | refine R4 ?_ | refine R5 ?_ | refine R6 ?_ | refine R7 ?_ | refine R8 ?_ | refine R9 ?_ | refine S0 ?_)
      exact q_next (i + 1, 21, pv, cv) ⟨rfl, rfl, rfl, rfl, trivial⟩ ⟨hO, hok, by dsimp only; omega, .inr ⟨rfl, by dsimp only; omega⟩⟩ (by dsimp only; omega)
  · have hj21 : j ≤ 21 := by omega
    repeat (first | (with_reducible first | refine K0 ?_ | refine K1 ?_ | refine K2 ?_ | refine K3 ?_ | refine K4 ?_ | refine K5 ?_ | refine K6 ?_ | refine K7 ?_ | refine K8 ?_ | refine K9 ?_ | refine L0 ?_ | refine L1 ?_ | refine L2 ?_ | refine L3 ?_ | refine L4 ?_ | refine L5 ?_ | refine L6 ?_) | refine Y0 hO rfl ?_ | refine Y1 hO rfl rfl (fun w hO => ?_) | refine Y2 hO rfl ?_ | refine Y3 hO rfl rfl (fun w hO => ?_) | refine l_y rfl rfl (y_index rfl rfl (by omega) (by omega)) ?_ | refine l_y rfl rfl (y_indexA rfl rfl (by omega) (by omega)) ?_ | refine L7 ?_ | refine L8 ?_ | refine L9 ?_ | refine M0 ?_ | refine M1 ?_ | refine M2 ?_ | refine M3 ?_ | refine M4 ?_ | refine M5 ?_ | refine M6 ?_ | refine M7 ?_ | refine M8 ?_ | refine M9 ?_ | refine N0 ?_ | refine N1 ?_ | refine N2 ?_ | refine N3 ?_ | refine N4 ?_ | refine N5 ?_ | refine N6 ?_ | refine N7 ?_ | refine N8 ?_ | refine N9 ?_ | refine R0 ?_ | refine R1 ?_ | refine R2 ?_ | refine R3 ?_ | refine R4 ?_ | refine R5 ?_ | refine R6 ?_ | refine R7 ?_ | refine R8 ?_ | refine R9 ?_ | refine S0 ?_)
    have hO := (sl_nil 21 1 hO).pulls (As := [_, _, _]) (.cons (.tl _ (.hd _ _)) (.cons (.tl _ (.hd _ _)) (.cons (.hd _ _) (.nil _))))
    refine c_rounds (X := Nat × Nat × Option Addr × Nat) (fun x => [(3, .pointer (some ⟨s, 0, none⟩)), (5, .slice pv (lets j).length cv), (8, .slice x.2.2.1 ((lets j).take x.1).length x.2.2.2)]) (fun x w => Own k w [stm s (nst x.2.1), rsl (.slice pv (lets j).length cv) (lets j), rsl (.slice x.2.2.1 ((lets j).take x.1).length x.2.2.2) ((lets j).take x.1)] ∧ (nst x.2.1).Ok ∧ x.1 + x.2.1 = j ∧ (lets j).drop x.1 = lets x.2.1) (fun x => j - x.1) (0, j, none, 0) ⟨rfl, rfl, rfl, trivial⟩ ⟨hO, hok, by simp, by simp⟩ ?_
    clear hO hok hm hi hij hlt
    rintro ⟨i, r, pg, cg⟩ w m hm ⟨hO, hok, hir, hdr⟩
    dsimp only at hO hok hir hdr hm ⊢
    repeat (first | (with_reducible first | refine K0 ?_ | refine K1 ?_ | refine K2 ?_ | refine K3 ?_ | refine K4 ?_ | refine K5 ?_ | refine K6 ?_ | refine K7 ?_ | refine K8 ?_ | refine K9 ?_ | refine L0 ?_ | refine L1 ?_ | refine L2 ?_ | refine L3 ?_ | refine L4 ?_ | refine L5 ?_ | refine L6 ?_) | refine Y0 hO rfl ?_ | refine Y1 hO rfl rfl (fun w hO => ?_) | refine Y2 hO rfl ?_ | refine Y3 hO rfl rfl (fun w hO => ?_) | refine l_y rfl rfl (y_index rfl rfl (by omega) (by omega)) ?_ | refine l_y rfl rfl (y_indexA rfl rfl (by omega) (by omega)) ?_ | refine L7 ?_ | refine L8 ?_ | refine L9 ?_ | refine M0 ?_ | refine M1 ?_ | refine M2 ?_ | refine M3 ?_ | refine M4 ?_ | refine M5 ?_ | refine M6 ?_ | refine M7 ?_ | refine M8 ?_ | refine M9 ?_ | refine N0 ?_ | refine N1 ?_ | refine N2 ?_ | refine N3 ?_ | refine N4 ?_ | refine N5 ?_ | refine N6 ?_ | refine N7 ?_ | refine N8 ?_ | refine N9 ?_ | refine R0 ?_ | refine R1 ?_ | refine R2 ?_ | refine R3 ?_ | refine R4 ?_ | refine R5 ?_ | refine R6 ?_ | refine R7 ?_ | refine R8 ?_ | refine R9 ?_ | refine S0 ?_)
    refine s_callO hO (.cons (.hd _ _) (.nil _)) rfl rfl rfl (fun k' hx hr hO => Marks_spec k' _ s _ hO) ?_
    rintro _ _ w ⟨rfl, rfl⟩ hO
    have hO : Own k w [_, _, _] := hO
    have hml : (nst r).M.length = r := mks_len r
    have hrl := lets_len r
    have hne := lets_ne r
    have htl : ((lets j).take i).length = i := by simp; omega
    cases r with
    | succ r =>
      repeat (first | (with_reducible first | refine K0 ?_ | refine K1 ?_ | refine K2 ?_ | refine K3 ?_ | refine K4 ?_ | refine K5 ?_ | refine K6 ?_ | refine K7 ?_ | refine K8 ?_ | refine K9 ?_ | refine L0 ?_ | refine L1 ?_ | refine L2 ?_ | refine L3 ?_ | refine L4 ?_ | refine L5 ?_ | refine L6 ?_) | refine Y0 hO rfl ?_ | refine Y1 hO rfl rfl (fun w hO => ?_) | refine Y2 hO rfl ?_ | refine Y3 hO rfl rfl (fun w hO => ?_) | refine l_y rfl rfl (y_index rfl rfl (by omega) (by omega)) ?_ | refine l_y rfl rfl (y_indexA rfl rfl (by omega) (by omega)) ?_ | refine L7 ?_ | refine L8 ?_ | refine L9 ?_ | refine M0 ?_ | refine M1 ?_ | refine M2 ?_ | refine M3 ?_ | refine M4 ?_ | refine M5 ?_ | refine M6 ?_ | refine M7 ?_ | refine M8 ?_ | refine M9 ?_ | refine N0 ?_ | refine N1 ?_ | refine N2 ?_ | refine N3 ?_ | refine N4 ?_ | refine N5 ?_ | refine N6 ?_ | refine N7 ?_ | refine N8 ?_ | refine N9 ?_ | refine R0 ?_ | refine R1 ?_ | refine R2 ?_ | refine R3 ?_ | refine R4 ?_ | refine R5 ?_ | refine R6 ?_ | refine R7 ?_ | refine R8 ?_ | refine R9 ?_ | refine S0 ?_)
      refine s_callO hO (.cons (.hd _ _) (.nil _)) rfl rfl rfl (fun k' hx hr hO => all_spec k' _ s _ hok hne hO) ?_
      rintro v _ w rfl hO
      have hO : Own k w [_, _, _, _] := hO
      have oka := ok_at hok (nread (nst (r + 1))) (Nat.le_refl _)
      obtain ⟨hn1, hn2⟩ := nest_all r
      rw [hn1, hn2] at hO oka
      rw [show (nst (r + 1)).L.take 1 = [97 + (r : Int)] from rfl] at hO
      have e1 := iv_length .i32 ((lets j).take i)
      have e2 := iv_length .i32 [97 + (r : Int)]
      have e3 : [97 + (r : Int)].length = 1 := rfl
      refine s_append (news := iv .i32 [97 + (r : Int)]) (by intro kk h; cases h) hO (.tl _ (.tl _ (.tl _ (.hd _ _)))) rfl rfl rfl rfl ((sl_sli hO (.tl _ (.hd _ _))).src (iv_one _ _) (iv_cells _ _)) (iv_one _ _) (by omega) (by omega) fun v' w hO hgr => ?_
      rw [← iv_append] at hO
      have ht : (lets j).take (i + 1) = (lets j).take i ++ [97 + (r : Int)] := by
        rw [List.take_add_one]
        congr 1
        have h := congrArg List.head? hdr
        rw [List.head?_drop] at h
        rw [h]; rfl
      rw [← ht] at hO
      obtain ⟨pv', cv', hv⟩ := sl_shape hO
      rw [iv_length] at hv
      subst hv
      have hO : Own k w [_, _, _, _] := hO
      repeat (first | (with_reducible first | refine K0 ?_ | refine K1 ?_ | refine K2 ?_ | refine K3 ?_ | refine K4 ?_ | refine K5 ?_ | refine K6 ?_ | refine K7 ?_ | refine K8 ?_ | refine K9 ?_ | refine L0 ?_ | refine L1 ?_ | refine L2 ?_ | refine L3 ?_ | refine L4 ?_ | refine L5 ?_ | refine L6 ?_) | refine Y0 hO rfl ?_ | refine Y1 hO rfl rfl (fun w hO => ?_) | refine Y2 hO rfl ?_ | refine Y3 hO rfl rfl (fun w hO => ?_) | refine l_y rfl rfl (y_index rfl rfl (by omega) (by omega)) ?_ | refine l_y rfl rfl (y_indexA rfl rfl (by omega) (by omega)) ?_ | refine L7 ?_ | refine L8 ?_ | refine L9 ?_ | refine M0 ?_ | refine M1 ?_ | refine M2 ?_ | refine M3 ?_ | refine M4 ?_ | refine M5 ?_ | refine M6 ?_ | refine M7 ?_ | refine M8 ?_ | refine M9 ?_ | refine N0 ?_ | refine N1 ?_ | refine N2 ?_ | refine N3 ?_ | refine N4 ?_ | refine N5 ?_ | refine N6 ?_ | refine N7 ?_ | refine N8 ?_ | refine N9 ?_ | refine R0 ?_ | refine R1 ?_ | refine R2 ?_ | refine R3 ?_ | refine R4 ?_ | refine R5 ?_ | refine R6 ?_ | refine R7 ?_ | refine R8 ?_ | refine R9 ?_ | refine S0 ?_)
      refine s_callO hO (.cons (.tl _ (.hd _ _)) (.nil _)) rfl rfl rfl (fun k' hx hr hO => Unmark_spec k' _ s _ oka.1 hO) ?_
      rintro _ _ w ⟨rfl, rfl⟩ hO
      have oku := ok_unmark oka
      rw [nest_unmark] at hO oku
      repeat (first | (with_reducible first | refine K0 ?_ | refine K1 ?_ | refine K2 ?_ | refine K3 ?_ | refine K4 ?_ | refine K5 ?_ | refine K6 ?_ | refine K7 ?_ | refine K8 ?_ | refine K9 ?_ | refine L0 ?_ | refine L1 ?_ | refine L2 ?_ | refine L3 ?_ | refine L4 ?_ | refine L5 ?_ | refine L6 ?_) | refine Y0 hO rfl ?_ | refine Y1 hO rfl rfl (fun w hO => ?_) | refine Y2 hO rfl ?_ | refine Y3 hO rfl rfl (fun w hO => ?_) | refine l_y rfl rfl (y_index rfl rfl (by omega) (by omega)) ?_ | refine l_y rfl rfl (y_indexA rfl rfl (by omega) (by omega)) ?_ | refine L7 ?_ | refine L8 ?_ | refine L9 ?_ | refine M0 ?_ | refine M1 ?_ | refine M2 ?_ | refine M3 ?_ | refine M4 ?_ | refine M5 ?_ | refine M6 ?_ | refine M7 ?_ | refine M8 ?_ | refine M9 ?_ | refine N0 ?_ | refine N1 ?_ | refine N2 ?_ | refine N3 ?_ | refine N4 ?_ | refine N5 ?_ | refine N6 ?_ | refine N7 ?_ | refine N8 ?_ | refine N9 ?_ | refine R0 ?_ | refine R1 ?_ | refine R2 ?_ | refine R3 ?_ | refine R4 ?_ | refine R5 ?_ | refine R6 ?_ | refine R7 ?_ | refine R8 ?_ | refine R9 ?_ | refine S0 ?_)
      have hO := hO.pulls (As := [_, _, _]) (.cons (.hd _ _) (.cons (.tl _ (.tl _ (.hd _ _))) (.cons (.hd _ _) (.nil _))))
      exact q_next (i + 1, r, pv', cv') ⟨rfl, rfl, rfl, trivial⟩ ⟨Own.front (l := [_, _, _]) hO, oku, by dsimp only; omega, by dsimp only; rw [← List.drop_drop, hdr]; rfl⟩ (by dsimp only; omega)
    | zero =>
      have hle : (lets j).take i = lets j := List.take_of_length_le (by rw [lets_len]; omega)
      rw [hle] at hO ⊢
      dsimp only [nst, mks] at hml ⊢
      repeat (first | (with_reducible first | refine K0 ?_ | refine K1 ?_ | refine K2 ?_ | refine K3 ?_ | refine K4 ?_ | refine K5 ?_ | refine K6 ?_ | refine K7 ?_ | refine K8 ?_ | refine K9 ?_ | refine L0 ?_ | refine L1 ?_ | refine L2 ?_ | refine L3 ?_ | refine L4 ?_ | refine L5 ?_ | refine L6 ?_) | refine Y0 hO rfl ?_ | refine Y1 hO rfl rfl (fun w hO => ?_) | refine Y2 hO rfl ?_ | refine Y3 hO rfl rfl (fun w hO => ?_) | refine l_y rfl rfl (y_index rfl rfl (by omega) (by omega)) ?_ | refine l_y rfl rfl (y_indexA rfl rfl (by omega) (by omega)) ?_ | refine L7 ?_ | refine L8 ?_ | refine L9 ?_ | refine M0 ?_ | refine M1 ?_ | refine M2 ?_ | refine M3 ?_ | refine M4 ?_ | refine M5 ?_ | refine M6 ?_ | refine M7 ?_ | refine M8 ?_ | refine M9 ?_ | refine N0 ?_ | refine N1 ?_ | refine N2 ?_ | refine N3 ?_ | refine N4 ?_ | refine N5 ?_ | refine N6 ?_ | refine N7 ?_ | refine N8 ?_ | refine N9 ?_ | refine R0 ?_ | refine R1 ?_ | refine R2 ?_ | refine R3 ?_ | refine R4 ?_ | refine R5 ?_ | refine R6 ?_ | refine R7 ?_ | refine R8 ?_ | refine R9 ?_ | refine S0 ?_)
      refine s_callO hO (.nil _) rfl rfl rfl (fun k' hx hr hO' => runes_spec k' _ pg pv _ _ _ _ (lets j) (lets j) (sl_ro hr (by simp) hO (.tl _ (.tl _ (.hd _ _)))) (sl_ro hr (by simp) hO (.tl _ (.hd _ _))) (by omega) hO') ?_
      rintro _ _ w ⟨rfl, rfl⟩ hO
      have hO : Own k w [_, _, _] := hO
      rw [decide_eq_true rfl]
      repeat (first | (with_reducible first | refine K0 ?_ | refine K1 ?_ | refine K2 ?_ | refine K3 ?_ | refine K4 ?_ | refine K5 ?_ | refine K6 ?_ | refine K7 ?_ | refine K8 ?_ | refine K9 ?_ | refine L0 ?_ | refine L1 ?_ | refine L2 ?_ | refine L3 ?_ | refine L4 ?_ | refine L5 ?_ | refine L6 ?_) | refine Y0 hO rfl ?_ | refine Y1 hO rfl rfl (fun w hO => ?_) | refine Y2 hO rfl ?_ | refine Y3 hO rfl rfl (fun w hO => ?_) | refine l_y rfl rfl (y_index rfl rfl (by omega) (by omega)) ?_ | refine l_y rfl rfl (y_indexA rfl rfl (by omega) (by omega)) ?_ | refine L7 ?_ | refine L8 ?_ | refine L9 ?_ | refine M0 ?_ | refine M1 ?_ | refine M2 ?_ | refine M3 ?_ | refine M4 ?_ | refine M5 ?_ | refine M6 ?_ | refine M7 ?_ | refine M8 ?_ | refine M9 ?_ | refine N0 ?_ | refine N1 ?_ | refine N2 ?_ | refine N3 ?_ | refine N4 ?_ | refine N5 ?_ | refine N6 ?_ | refine N7 ?_ | refine N8 ?_ | refine N9 ?_ | refine R0 ?_ | refine R1 ?_ | refine R2 ?_ | refine R3 ?_ | refine R4 ?_ | refine R5 ?_ | refine R6 ?_ | refine R7 ?_ | refine R8 ?_ | refine R9 ?_ | refine S0 ?_)
      refine s_callO hO (.cons (.hd _ _) (.nil _)) rfl rfl rfl (fun k' hx hr hO => Len_spec k' _ s _ hO) ?_
      rintro _ _ w ⟨rfl, rfl⟩ hO
      have hO : Own k w [_, _, _] := hO
      rw [show (nst 0).L.length = 0 from rfl]
      repeat (first | (with_reducible first | refine K0 ?_ | refine K1 ?_ | refine K2 ?_ | refine K3 ?_ | refine K4 ?_ | refine K5 ?_ | refine K6 ?_ | refine K7 ?_ | refine K8 ?_ | refine K9 ?_ | refine L0 ?_ | refine L1 ?_ | refine L2 ?_ | refine L3 ?_ | refine L4 ?_ | refine L5 ?_ | refine L6 ?_) | refine Y0 hO rfl ?_ | refine Y1 hO rfl rfl (fun w hO => ?_) | refine Y2 hO rfl ?_ | refine Y3 hO rfl rfl (fun w hO => ?_) | refine l_y rfl rfl (y_index rfl rfl (by omega) (by omega)) ?_ | refine l_y rfl rfl (y_indexA rfl rfl (by omega) (by omega)) ?_ | refine L7 ?_ | refine L8 ?_ | refine L9 ?_ | refine M0 ?_ | refine M1 ?_ | refine M2 ?_ | refine M3 ?_ | refine M4 ?_ | refine M5 ?_ | refine M6 ?_ | refine M7 ?_ | refine M8 ?_ | refine M9 ?_ | refine N0 ?_ | refine N1 ?_ | refine N2 ?_ | refine N3 ?_ | refine N4 ?_ | refine N5 ?_ | refine N6 ?_ | refine N7 ?_ | refine N8 ?_ | refine N9 ?_ | refine R0 ?_ | refine R1 ?_ | refine R2 ?_ | refine R3 ?_ | refine R4 ?_ | refine R5 ?_ | refine R6 ?_ | refine R7 ?_ | refine R8 ?_ | refine R9 ?_ | refine S0 ?_)
      refine s_callO hO (.nil _) rfl rfl rfl (fun k' hx hr hO => awake_spec k' _ hO) ?_
      rintro _ _ w ⟨rfl, rfl⟩ hO
      repeat (first | (with_reducible first | refine K0 ?_ | refine K1 ?_ | refine K2 ?_ | refine K3 ?_ | refine K4 ?_ | refine K5 ?_ | refine K6 ?_ | refine K7 ?_ | refine K8 ?_ | refine K9 ?_ | refine L0 ?_ | refine L1 ?_ | refine L2 ?_ | refine L3 ?_ | refine L4 ?_ | refine L5 ?_ | refine L6 ?_) | refine Y0 hO rfl ?_ | refine Y1 hO rfl rfl (fun w hO => ?_) | refine Y2 hO rfl ?_ | refine Y3 hO rfl rfl (fun w hO => ?_) | refine l_y rfl rfl (y_index rfl rfl (by omega) (by omega)) ?_ | refine l_y rfl rfl (y_indexA rfl rfl (by omega) (by omega)) ?_ | refine L7 ?_ | refine L8 ?_ | refine L9 ?_ | refine M0 ?_ | refine M1 ?_ | refine M2 ?_ | refine M3 ?_ | refine M4 ?_ | refine M5 ?_ | refine M6 ?_ | refine M7 ?_ | refine M8 ?_ | refine M9 ?_ | refine N0 ?_ | refine N1 ?_ | refine N2 ?_ | refine N3 ?_ | refine N4 ?_ | refine N5 ?_ | refine N6 ?_ | refine N7 ?_ | refine N8 ?_ | refine N9 ?_ | refine R0 ?_ | refine R1 ?_ | refine R2 ?_ | refine R3 ?_ | refine R4 ?_ | refine R5 ?_ | refine R6 ?_ | refine R7 ?_ | refine R8 ?_ | refine R9 ?_ | refine S0 ?_)
      exact fin1 rfl rfl ⟨_, rfl, hO⟩
end Go.Proofs.Ytfpppopcdhihgaa
