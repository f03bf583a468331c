/- The walk of the law InputWrites. -/
import Derived.Test.YtfpppopcdhihgaaInp7
set_option linter.unusedVariables false
set_option linter.unusedSimpArgs false
namespace Go.Proofs.Ytfpppopcdhihgaa
open Go Go.Hb Go.RowKit
theorem ends_mem : ∀ (l : List Int) (cr : Bool) (x : Int), x ∈ (ends cr l).1 → x = 10 ∨ x ∈ l
  | [], _, x, h => by cases h
  | r :: l, cr, x, h => by
    rw [ends_cons] at h
    dsimp only at h
    split at h
    · rcases List.mem_cons.1 h with rfl | h
      · exact .inl rfl
      · rcases ends_mem l _ x h with h | h
        · exact .inl h
        · exact .inr (List.mem_cons_of_mem _ h)
    · split at h
      · rcases ends_mem l _ x h with h | h
        · exact .inl h
        · exact .inr (List.mem_cons_of_mem _ h)
      · rcases List.mem_cons.1 h with rfl | h
        · exact .inr (List.mem_cons_self ..)
        · rcases ends_mem l _ x h with h | h
          · exact .inl h
          · exact .inr (List.mem_cons_of_mem _ h)
theorem ends_ne {l : List Int} (h : ∀ x ∈ l, x ≠ -1) (cr : Bool) : ∀ x ∈ (ends cr l).1, x ≠ -1 := by
  intro x hx
  rcases ends_mem l cr x hx with rfl | hx
  · decide
  · exact h x hx
theorem feed_new (x : List Int) (hx : x.length ≤ 1048576) : feedS ⟨[], [], false, false, false⟩ x = (0, ⟨(ends false x).1, [], (ends false x).2, false, false⟩) := by
  unfold feedS
  dsimp only
  rw [if_neg (by simp), if_pos (by simp; omega)]
  rfl
theorem read_all (L : List Int) (cr : Bool) : nread ⟨L, [], cr, true, false⟩ = L.length ∧ (⟨L, [], cr, true, false⟩ : St).at L.length = ⟨[], [], cr, true, false⟩ := by
  constructor
  · rfl
  · simp [St.at]
/-- a stream of its own that is fed, ended and read -/
theorem wst_write (W E x : List Int) (cr : Bool) (h : (x.length : Int) ≤ 1048576 - (W ++ E).length) : writeS ⟨W ++ E, [(W.length : Int)], cr, true, false⟩ x = (0, ⟨(W ++ (ends false x).1) ++ E, [((W ++ (ends false x).1).length : Int)], cr, true, false⟩) := by
  unfold writeS
  simp only [List.getLast?_singleton]
  rw [if_pos h]
  simp
theorem wst_read (W E : List Int) (cr : Bool) : nread ⟨W ++ E, [(W.length : Int)], cr, true, false⟩ = W.length ∧ (⟨W ++ E, [(W.length : Int)], cr, true, false⟩ : St).at W.length = ⟨E, [0], cr, true, false⟩ := by
  constructor
  · simp [nread]
  · simp [St.at]; omega
theorem InputWrites_spec (k : Ctx) (w : World) (p pw : Option Addr) (n cap nw cw : Nat) (x : List Int) (ws : List (List Value)) (hS : Sli (Ro k) (.slice p n cap) (iv .i32 x)) (hxl : x.length ≤ 9223372036854775807)
    (hW : Sli (Ro k) (.slice pw nw cw) ws) (hw1 : ∀ r ∈ ws, r.length = 1) (hw2 : ∀ (i : Nat) (r : List Value), ws[i]? = some r → ∃ (q : Option Addr) (m c : Nat) (y : List Int), r = [Value.slice q m c] ∧ Sli (Ro k) (.slice q m c) (iv .i32 y) ∧ y.length ≤ 9223372036854775807) (hO : Own k w []) :
    Tri Try.prog 4 #[.slice p n cap, .slice pw nw cw] k w fun r m => r = .bool true := by
  refine enter (args := [.slice p n cap, .slice pw nw cw]) Try.func4 rfl rfl ?_
  repeat (first | (with_reducible first | refine K0 ?_ | refine K1 ?_ | refine K2 ?_ | refine K3 ?_ | refine K4 ?_ | refine K5 ?_ | refine K6 ?_ | refine K7 ?_ | refine K8 ?_ | refine K9 ?_ | refine L0 ?_ | refine L1 ?_ | refine L2 ?_ | refine L3 ?_ | refine L4 ?_ | refine L5 ?_ | refine L6 ?_) | refine Y0 hO rfl ?_ | refine Y1 hO rfl rfl (fun w hO => ?_) | refine Y2 hO rfl ?_ | refine Y3 hO rfl rfl (fun w hO => ?_) | refine l_y rfl rfl (y_index rfl rfl (by omega) (by omega)) ?_ | refine l_y rfl rfl (y_indexA rfl rfl (by omega) (by omega)) ?_ | refine L7 ?_ | refine L8 ?_ | refine L9 ?_ | refine M0 ?_ | refine M1 ?_ | refine M2 ?_ | refine M3 ?_ | refine M4 ?_ | refine M5 ?_ | refine M6 ?_ | refine M7 ?_ | refine M8 ?_ | refine M9 ?_ | refine N0 ?_ | refine N1 ?_ | refine N2 ?_ | refine N3 ?_ | refine N4 ?_ | refine N5 ?_ | refine N6 ?_ | refine N7 ?_ | refine N8 ?_ | refine N9 ?_ | refine R0 ?_ | refine R1 ?_ | refine R2 ?_ | refine R3 ?_ | refine R4 ?_ | refine R5 ?_ | refine R6 ?_ | refine R7 ?_ | refine R8 ?_ | refine R9 ?_ | refine S0 ?_)
  refine s_callO hO (.nil _) rfl rfl rfl (fun k' hx hr hO => New_spec k' _ hO) ?_
  rintro _ _ w ⟨s, rfl, rfl⟩ hO
  have hO : Own k w [_] := hO
  repeat (first | (with_reducible first | refine K0 ?_ | refine K1 ?_ | refine K2 ?_ | refine K3 ?_ | refine K4 ?_ | refine K5 ?_ | refine K6 ?_ | refine K7 ?_ | refine K8 ?_ | refine K9 ?_ | refine L0 ?_ | refine L1 ?_ | refine L2 ?_ | refine L3 ?_ | refine L4 ?_ | refine L5 ?_ | refine L6 ?_) | refine Y0 hO rfl ?_ | refine Y1 hO rfl rfl (fun w hO => ?_) | refine Y2 hO rfl ?_ | refine Y3 hO rfl rfl (fun w hO => ?_) | refine l_y rfl rfl (y_index rfl rfl (by omega) (by omega)) ?_ | refine l_y rfl rfl (y_indexA rfl rfl (by omega) (by omega)) ?_ | refine L7 ?_ | refine L8 ?_ | refine L9 ?_ | refine M0 ?_ | refine M1 ?_ | refine M2 ?_ | refine M3 ?_ | refine M4 ?_ | refine M5 ?_ | refine M6 ?_ | refine M7 ?_ | refine M8 ?_ | refine M9 ?_ | refine N0 ?_ | refine N1 ?_ | refine N2 ?_ | refine N3 ?_ | refine N4 ?_ | refine N5 ?_ | refine N6 ?_ | refine N7 ?_ | refine N8 ?_ | refine N9 ?_ | refine R0 ?_ | refine R1 ?_ | refine R2 ?_ | refine R3 ?_ | refine R4 ?_ | refine R5 ?_ | refine R6 ?_ | refine R7 ?_ | refine R8 ?_ | refine R9 ?_ | refine S0 ?_)
  refine s_callO hO (.nil _) rfl rfl rfl (fun k' hx hr hO' => plain_spec k' _ p n cap x (hS.ext hO hx) hxl hO') ?_
  rintro v _ w ⟨l, rfl, hol, hout⟩ hO
  have hO : Own k w [_, _] := hO
  obtain ⟨pv, cv, hv⟩ := sl_shape hO
  rw [iv_length] at hv
  subst hv
  repeat (first | (with_reducible first | refine K0 ?_ | refine K1 ?_ | refine K2 ?_ | refine K3 ?_ | refine K4 ?_ | refine K5 ?_ | refine K6 ?_ | refine K7 ?_ | refine K8 ?_ | refine K9 ?_ | refine L0 ?_ | refine L1 ?_ | refine L2 ?_ | refine L3 ?_ | refine L4 ?_ | refine L5 ?_ | refine L6 ?_) | refine Y0 hO rfl ?_ | refine Y1 hO rfl rfl (fun w hO => ?_) | refine Y2 hO rfl ?_ | refine Y3 hO rfl rfl (fun w hO => ?_) | refine l_y rfl rfl (y_index rfl rfl (by omega) (by omega)) ?_ | refine l_y rfl rfl (y_indexA rfl rfl (by omega) (by omega)) ?_ | refine L7 ?_ | refine L8 ?_ | refine L9 ?_ | refine M0 ?_ | refine M1 ?_ | refine M2 ?_ | refine M3 ?_ | refine M4 ?_ | refine M5 ?_ | refine M6 ?_ | refine M7 ?_ | refine M8 ?_ | refine M9 ?_ | refine N0 ?_ | refine N1 ?_ | refine N2 ?_ | refine N3 ?_ | refine N4 ?_ | refine N5 ?_ | refine N6 ?_ | refine N7 ?_ | refine N8 ?_ | refine N9 ?_ | refine R0 ?_ | refine R1 ?_ | refine R2 ?_ | refine R3 ?_ | refine R4 ?_ | refine R5 ?_ | refine R6 ?_ | refine R7 ?_ | refine R8 ?_ | refine R9 ?_ | refine S0 ?_)
  refine s_callO hO (.cons (.tl _ (.hd _ _)) (.nil _)) rfl rfl rfl (fun k' hx hr hO' => Feed_spec k' _ s _ ok_new.1 _ _ _ l (sl_ro hr (by simp) hO (.hd _ _)) hO') ?_
  rintro _ _ w ⟨rfl, rfl⟩ hO
  have hO : Own k w [_, _] := hO
  have okf := ok_feed ok_new l
  rw [feed_new l (by omega)] at hO okf
  dsimp only at hO okf
  obtain ⟨E, hE⟩ : ∃ E, E = (ends false l).1 := ⟨_, rfl⟩
  obtain ⟨c0, hc0⟩ : ∃ c0, c0 = (ends false l).2 := ⟨_, rfl⟩
  have hEl := ends_len l false
  have hEne := ends_ne hout false
  rw [← hE] at hO okf hEl hEne
  rw [← hc0] at hO okf
  repeat (first | (with_reducible first | refine K0 ?_ | refine K1 ?_ | refine K2 ?_ | refine K3 ?_ | refine K4 ?_ | refine K5 ?_ | refine K6 ?_ | refine K7 ?_ | refine K8 ?_ | refine K9 ?_ | refine L0 ?_ | refine L1 ?_ | refine L2 ?_ | refine L3 ?_ | refine L4 ?_ | refine L5 ?_ | refine L6 ?_) | refine Y0 hO rfl ?_ | refine Y1 hO rfl rfl (fun w hO => ?_) | refine Y2 hO rfl ?_ | refine Y3 hO rfl rfl (fun w hO => ?_) | refine l_y rfl rfl (y_index rfl rfl (by omega) (by omega)) ?_ | refine l_y rfl rfl (y_indexA rfl rfl (by omega) (by omega)) ?_ | refine L7 ?_ | refine L8 ?_ | refine L9 ?_ | refine M0 ?_ | refine M1 ?_ | refine M2 ?_ | refine M3 ?_ | refine M4 ?_ | refine M5 ?_ | refine M6 ?_ | refine M7 ?_ | refine M8 ?_ | refine M9 ?_ | refine N0 ?_ | refine N1 ?_ | refine N2 ?_ | refine N3 ?_ | refine N4 ?_ | refine N5 ?_ | refine N6 ?_ | refine N7 ?_ | refine N8 ?_ | refine N9 ?_ | refine R0 ?_ | refine R1 ?_ | refine R2 ?_ | refine R3 ?_ | refine R4 ?_ | refine R5 ?_ | refine R6 ?_ | refine R7 ?_ | refine R8 ?_ | refine R9 ?_ | refine S0 ?_)
  refine s_callO hO (.cons (.hd _ _) (.nil _)) rfl rfl rfl (fun k' hx hr hO => End_spec k' _ s _ hO) ?_
  rintro _ _ w ⟨rfl, rfl⟩ hO
  have oke := ok_end okf
  have hO : Own k w [stm s ⟨E, [], c0, true, false⟩, _] := hO
  have oke : St.Ok ⟨E, [], c0, true, false⟩ := oke
  repeat (first | (with_reducible first | refine K0 ?_ | refine K1 ?_ | refine K2 ?_ | refine K3 ?_ | refine K4 ?_ | refine K5 ?_ | refine K6 ?_ | refine K7 ?_ | refine K8 ?_ | refine K9 ?_ | refine L0 ?_ | refine L1 ?_ | refine L2 ?_ | refine L3 ?_ | refine L4 ?_ | refine L5 ?_ | refine L6 ?_) | refine Y0 hO rfl ?_ | refine Y1 hO rfl rfl (fun w hO => ?_) | refine Y2 hO rfl ?_ | refine Y3 hO rfl rfl (fun w hO => ?_) | refine l_y rfl rfl (y_index rfl rfl (by omega) (by omega)) ?_ | refine l_y rfl rfl (y_indexA rfl rfl (by omega) (by omega)) ?_ | refine L7 ?_ | refine L8 ?_ | refine L9 ?_ | refine M0 ?_ | refine M1 ?_ | refine M2 ?_ | refine M3 ?_ | refine M4 ?_ | refine M5 ?_ | refine M6 ?_ | refine M7 ?_ | refine M8 ?_ | refine M9 ?_ | refine N0 ?_ | refine N1 ?_ | refine N2 ?_ | refine N3 ?_ | refine N4 ?_ | refine N5 ?_ | refine N6 ?_ | refine N7 ?_ | refine N8 ?_ | refine N9 ?_ | refine R0 ?_ | refine R1 ?_ | refine R2 ?_ | refine R3 ?_ | refine R4 ?_ | refine R5 ?_ | refine R6 ?_ | refine R7 ?_ | refine R8 ?_ | refine R9 ?_ | refine S0 ?_)
  refine s_callO hO (.cons (.hd _ _) (.nil _)) rfl rfl rfl (fun k' hx hr hO => Mark_spec k' _ s _ oke.1 hO) ?_
  rintro _ _ w ⟨rfl, rfl⟩ hO
  have okm := ok_mark oke
  have okm : St.Ok ⟨[] ++ E, [(([] : List Int).length : Int)], c0, true, false⟩ := okm
  have hO : Own k w [stm s ⟨[] ++ E, [(([] : List Int).length : Int)], c0, true, false⟩, rsl (.slice pv l.length cv) l] := hO
  rw [show (markS ⟨E, [], c0, true, false⟩).1 = 0 from rfl]
  repeat (first | (with_reducible first | refine K0 ?_ | refine K1 ?_ | refine K2 ?_ | refine K3 ?_ | refine K4 ?_ | refine K5 ?_ | refine K6 ?_ | refine K7 ?_ | refine K8 ?_ | refine K9 ?_ | refine L0 ?_ | refine L1 ?_ | refine L2 ?_ | refine L3 ?_ | refine L4 ?_ | refine L5 ?_ | refine L6 ?_) | refine Y0 hO rfl ?_ | refine Y1 hO rfl rfl (fun w hO => ?_) | refine Y2 hO rfl ?_ | refine Y3 hO rfl rfl (fun w hO => ?_) | refine l_y rfl rfl (y_index rfl rfl (by omega) (by omega)) ?_ | refine l_y rfl rfl (y_indexA rfl rfl (by omega) (by omega)) ?_ | refine L7 ?_ | refine L8 ?_ | refine L9 ?_ | refine M0 ?_ | refine M1 ?_ | refine M2 ?_ | refine M3 ?_ | refine M4 ?_ | refine M5 ?_ | refine M6 ?_ | refine M7 ?_ | refine M8 ?_ | refine M9 ?_ | refine N0 ?_ | refine N1 ?_ | refine N2 ?_ | refine N3 ?_ | refine N4 ?_ | refine N5 ?_ | refine N6 ?_ | refine N7 ?_ | refine N8 ?_ | refine N9 ?_ | refine R0 ?_ | refine R1 ?_ | refine R2 ?_ | refine R3 ?_ | refine R4 ?_ | refine R5 ?_ | refine R6 ?_ | refine R7 ?_ | refine R8 ?_ | refine R9 ?_ | refine S0 ?_)
  have hO := (sl_nil 21 1 hO).pulls (As := [_, _, _]) (.cons (.tl _ (.hd _ _)) (.cons (.tl _ (.hd _ _)) (.cons (.hd _ _) (.nil _))))
  refine c_rounds (X := Nat × List Int × Option Addr × Nat) (fun q => [(1, .slice pw nw cw), (5, .pointer (some ⟨s, 0, none⟩)), (6, .slice pv l.length cv), (7, .slice q.2.2.1 q.2.1.length q.2.2.2), (8, .int .i64 q.1)]) (fun q w => Own k w [stm s ⟨q.2.1 ++ E, [(q.2.1.length : Int)], c0, true, false⟩, rsl (.slice pv l.length cv) l, rsl (.slice q.2.2.1 q.2.1.length q.2.2.2) q.2.1] ∧ St.Ok ⟨q.2.1 ++ E, [(q.2.1.length : Int)], c0, true, false⟩ ∧ q.1 ≤ 50 ∧ q.1 ≤ nw ∧ q.2.1.length ≤ 5000 * q.1 ∧ ∀ z ∈ q.2.1, z ≠ -1) (fun q => 50 - q.1) (0, [], none, 0) ⟨rfl, rfl, rfl, rfl, rfl, trivial⟩ ⟨hO, okm, by simp, by simp, by simp, by simp⟩ ?_
  clear okm oke okf hO
  rintro ⟨i, W, pg, cg⟩ w m hm ⟨hO, hok, hi, hin, hWl, hWne⟩
  dsimp only at hO hok hi hin hWl hWne hm ⊢
  have hwn := hW.fits.1
  by_cases hlt : i < nw ∧ i < 50
  · obtain ⟨hlt, hlt2⟩ := hlt
    obtain ⟨r, hr⟩ : ∃ r, ws[i]? = some r := ⟨ws[i], List.getElem?_eq_getElem (by omega)⟩
    obtain ⟨q, yn, yc, y, hry, hY, hyl⟩ := hw2 i r hr
    subst hry
    obtain ⟨b1, o1, hp1, hH1⟩ := hW.get (cuts_ro k) hw1 hr
    subst hp1
    repeat (first | (with_reducible first | refine K0 ?_ | refine K1 ?_ | refine K2 ?_ | refine K3 ?_ | refine K4 ?_ | refine K5 ?_ | refine K6 ?_ | refine K7 ?_ | refine K8 ?_ | refine K9 ?_ | refine L0 ?_ | refine L1 ?_ | refine L2 ?_ | refine L3 ?_ | refine L4 ?_ | refine L5 ?_ | refine L6 ?_) | refine Y0 hO rfl ?_ | refine Y1 hO rfl rfl (fun w hO => ?_) | refine Y2 hO rfl ?_ | refine Y3 hO rfl rfl (fun w hO => ?_) | refine l_y rfl rfl (y_index rfl rfl (by omega) (by omega)) ?_ | refine l_y rfl rfl (y_indexA rfl rfl (by omega) (by omega)) ?_ | refine L7 ?_ | refine L8 ?_ | refine L9 ?_ | refine M0 ?_ | refine M1 ?_ | refine M2 ?_ | refine M3 ?_ | refine M4 ?_ | refine M5 ?_ | refine M6 ?_ | refine M7 ?_ | refine M8 ?_ | refine M9 ?_ | refine N0 ?_ | refine N1 ?_ | refine N2 ?_ | refine N3 ?_ | refine N4 ?_ | refine N5 ?_ | refine N6 ?_ | refine N7 ?_ | refine N8 ?_ | refine N9 ?_ | refine R0 ?_ | refine R1 ?_ | refine R2 ?_ | refine R3 ?_ | refine R4 ?_ | refine R5 ?_ | refine R6 ?_ | refine R7 ?_ | refine R8 ?_ | refine R9 ?_ | refine S0 ?_)
    refine l_y rfl rfl (y_load1 rfl (hH1.holds hO)) ?_
    refine s_callO hO (.nil _) rfl rfl rfl (fun k' hx hr hO' => plain_spec k' _ q yn yc y (hY.ext hO hx) hyl hO') ?_
    rintro u _ w ⟨z, rfl, hzl, hzne⟩ hO
    have hO : Own k w [_, _, _, _] := hO
    obtain ⟨pz, cz, hv⟩ := sl_shape hO
    rw [iv_length] at hv
    subst hv
    have hsz : (W ++ E).length = W.length + E.length := by simp
    have hwr := wst_write W E z c0 (by omega)
    have okw := ok_write hok z
    have hez := ends_len z false
    have hezne := ends_ne hzne false
    rw [hwr] at okw
    dsimp only at okw
    repeat (first | (with_reducible first | refine K0 ?_ | refine K1 ?_ | refine K2 ?_ | refine K3 ?_ | refine K4 ?_ | refine K5 ?_ | refine K6 ?_ | refine K7 ?_ | refine K8 ?_ | refine K9 ?_ | refine L0 ?_ | refine L1 ?_ | refine L2 ?_ | refine L3 ?_ | refine L4 ?_ | refine L5 ?_ | refine L6 ?_) | refine Y0 hO rfl ?_ | refine Y1 hO rfl rfl (fun w hO => ?_) | refine Y2 hO rfl ?_ | refine Y3 hO rfl rfl (fun w hO => ?_) | refine l_y rfl rfl (y_index rfl rfl (by omega) (by omega)) ?_ | refine l_y rfl rfl (y_indexA rfl rfl (by omega) (by omega)) ?_ | refine L7 ?_ | refine L8 ?_ | refine L9 ?_ | refine M0 ?_ | refine M1 ?_ | refine M2 ?_ | refine M3 ?_ | refine M4 ?_ | refine M5 ?_ | refine M6 ?_ | refine M7 ?_ | refine M8 ?_ | refine M9 ?_ | refine N0 ?_ | refine N1 ?_ | refine N2 ?_ | refine N3 ?_ | refine N4 ?_ | refine N5 ?_ | refine N6 ?_ | refine N7 ?_ | refine N8 ?_ | refine N9 ?_ | refine R0 ?_ | refine R1 ?_ | refine R2 ?_ | refine R3 ?_ | refine R4 ?_ | refine R5 ?_ | refine R6 ?_ | refine R7 ?_ | refine R8 ?_ | refine R9 ?_ | refine S0 ?_)
    refine s_callO hO (.cons (.tl _ (.hd _ _)) (.nil _)) rfl rfl rfl (fun k' hx hr hO' => Write_spec k' _ s _ hok.1 hok.2 _ _ _ z (sl_ro hr (by simp) hO (.hd _ _)) hO') ?_
    rintro _ _ w ⟨rfl, rfl⟩ hO
    have hO : Own k w [_, _, _, _] := hO
    rw [hwr] at hO ⊢
    dsimp only at hO ⊢
    repeat (first | (with_reducible first | refine K0 ?_ | refine K1 ?_ | refine K2 ?_ | refine K3 ?_ | refine K4 ?_ | refine K5 ?_ | refine K6 ?_ | refine K7 ?_ | refine K8 ?_ | refine K9 ?_ | refine L0 ?_ | refine L1 ?_ | refine L2 ?_ | refine L3 ?_ | refine L4 ?_ | refine L5 ?_ | refine L6 ?_) | refine Y0 hO rfl ?_ | refine Y1 hO rfl rfl (fun w hO => ?_) | refine Y2 hO rfl ?_ | refine Y3 hO rfl rfl (fun w hO => ?_) | refine l_y rfl rfl (y_index rfl rfl (by omega) (by omega)) ?_ | refine l_y rfl rfl (y_indexA rfl rfl (by omega) (by omega)) ?_ | refine L7 ?_ | refine L8 ?_ | refine L9 ?_ | refine M0 ?_ | refine M1 ?_ | refine M2 ?_ | refine M3 ?_ | refine M4 ?_ | refine M5 ?_ | refine M6 ?_ | refine M7 ?_ | refine M8 ?_ | refine M9 ?_ | refine N0 ?_ | refine N1 ?_ | refine N2 ?_ | refine N3 ?_ | refine N4 ?_ | refine N5 ?_ | refine N6 ?_ | refine N7 ?_ | refine N8 ?_ | refine N9 ?_ | refine R0 ?_ | refine R1 ?_ | refine R2 ?_ | refine R3 ?_ | refine R4 ?_ | refine R5 ?_ | refine R6 ?_ | refine R7 ?_ | refine R8 ?_ | refine R9 ?_ | refine S0 ?_)
    refine s_callO hO (.nil _) rfl rfl rfl (fun k' hx hr hO => New_spec k' _ hO) ?_
    rintro _ _ w ⟨t, rfl, rfl⟩ hO
    have hO : Own k w [_, _, _, _, _] := hO
    repeat (first | (with_reducible first | refine K0 ?_ | refine K1 ?_ | refine K2 ?_ | refine K3 ?_ | refine K4 ?_ | refine K5 ?_ | refine K6 ?_ | refine K7 ?_ | refine K8 ?_ | refine K9 ?_ | refine L0 ?_ | refine L1 ?_ | refine L2 ?_ | refine L3 ?_ | refine L4 ?_ | refine L5 ?_ | refine L6 ?_) | refine Y0 hO rfl ?_ | refine Y1 hO rfl rfl (fun w hO => ?_) | refine Y2 hO rfl ?_ | refine Y3 hO rfl rfl (fun w hO => ?_) | refine l_y rfl rfl (y_index rfl rfl (by omega) (by omega)) ?_ | refine l_y rfl rfl (y_indexA rfl rfl (by omega) (by omega)) ?_ | refine L7 ?_ | refine L8 ?_ | refine L9 ?_ | refine M0 ?_ | refine M1 ?_ | refine M2 ?_ | refine M3 ?_ | refine M4 ?_ | refine M5 ?_ | refine M6 ?_ | refine M7 ?_ | refine M8 ?_ | refine M9 ?_ | refine N0 ?_ | refine N1 ?_ | refine N2 ?_ | refine N3 ?_ | refine N4 ?_ | refine N5 ?_ | refine N6 ?_ | refine N7 ?_ | refine N8 ?_ | refine N9 ?_ | refine R0 ?_ | refine R1 ?_ | refine R2 ?_ | refine R3 ?_ | refine R4 ?_ | refine R5 ?_ | refine R6 ?_ | refine R7 ?_ | refine R8 ?_ | refine R9 ?_ | refine S0 ?_)
    refine s_callO hO (.cons (.hd _ _) (.nil _)) rfl rfl rfl (fun k' hx hr hO' => Feed_spec k' _ t _ ok_new.1 _ _ _ z (sl_ro hr (by simp) hO (.tl _ (.tl _ (.hd _ _)))) hO') ?_
    rintro _ _ w ⟨rfl, rfl⟩ hO
    have hO : Own k w [_, _, _, _, _] := hO
    have okf := ok_feed ok_new z
    rw [feed_new z (by omega)] at hO okf
    dsimp only at hO okf
    repeat (first | (with_reducible first | refine K0 ?_ | refine K1 ?_ | refine K2 ?_ | refine K3 ?_ | refine K4 ?_ | refine K5 ?_ | refine K6 ?_ | refine K7 ?_ | refine K8 ?_ | refine K9 ?_ | refine L0 ?_ | refine L1 ?_ | refine L2 ?_ | refine L3 ?_ | refine L4 ?_ | refine L5 ?_ | refine L6 ?_) | refine Y0 hO rfl ?_ | refine Y1 hO rfl rfl (fun w hO => ?_) | refine Y2 hO rfl ?_ | refine Y3 hO rfl rfl (fun w hO => ?_) | refine l_y rfl rfl (y_index rfl rfl (by omega) (by omega)) ?_ | refine l_y rfl rfl (y_indexA rfl rfl (by omega) (by omega)) ?_ | refine L7 ?_ | refine L8 ?_ | refine L9 ?_ | refine M0 ?_ | refine M1 ?_ | refine M2 ?_ | refine M3 ?_ | refine M4 ?_ | refine M5 ?_ | refine M6 ?_ | refine M7 ?_ | refine M8 ?_ | refine M9 ?_ | refine N0 ?_ | refine N1 ?_ | refine N2 ?_ | refine N3 ?_ | refine N4 ?_ | refine N5 ?_ | refine N6 ?_ | refine N7 ?_ | refine N8 ?_ | refine N9 ?_ | refine R0 ?_ | refine R1 ?_ | refine R2 ?_ | refine R3 ?_ | refine R4 ?_ | refine R5 ?_ | refine R6 ?_ | refine R7 ?_ | refine R8 ?_ | refine R9 ?_ | refine S0 ?_)
    refine s_callO hO (.cons (.hd _ _) (.nil _)) rfl rfl rfl (fun k' hx hr hO => End_spec k' _ t _ hO) ?_
    rintro _ _ w ⟨rfl, rfl⟩ hO
    have hO : Own k w [stm t ⟨(ends false z).1, [], (ends false z).2, true, false⟩, _, _, _, _] := hO
    have oke : St.Ok ⟨(ends false z).1, [], (ends false z).2, true, false⟩ := ok_end okf
    repeat (first | (with_reducible first | refine K0 ?_ | refine K1 ?_ | refine K2 ?_ | refine K3 ?_ | refine K4 ?_ | refine K5 ?_ | refine K6 ?_ | refine K7 ?_ | refine K8 ?_ | refine K9 ?_ | refine L0 ?_ | refine L1 ?_ | refine L2 ?_ | refine L3 ?_ | refine L4 ?_ | refine L5 ?_ | refine L6 ?_) | refine Y0 hO rfl ?_ | refine Y1 hO rfl rfl (fun w hO => ?_) | refine Y2 hO rfl ?_ | refine Y3 hO rfl rfl (fun w hO => ?_) | refine l_y rfl rfl (y_index rfl rfl (by omega) (by omega)) ?_ | refine l_y rfl rfl (y_indexA rfl rfl (by omega) (by omega)) ?_ | refine L7 ?_ | refine L8 ?_ | refine L9 ?_ | refine M0 ?_ | refine M1 ?_ | refine M2 ?_ | refine M3 ?_ | refine M4 ?_ | refine M5 ?_ | refine M6 ?_ | refine M7 ?_ | refine M8 ?_ | refine M9 ?_ | refine N0 ?_ | refine N1 ?_ | refine N2 ?_ | refine N3 ?_ | refine N4 ?_ | refine N5 ?_ | refine N6 ?_ | refine N7 ?_ | refine N8 ?_ | refine N9 ?_ | refine R0 ?_ | refine R1 ?_ | refine R2 ?_ | refine R3 ?_ | refine R4 ?_ | refine R5 ?_ | refine R6 ?_ | refine R7 ?_ | refine R8 ?_ | refine R9 ?_ | refine S0 ?_)
    refine s_callO hO (.cons (.hd _ _) (.nil _)) rfl rfl rfl (fun k' hx hr hO => all_spec k' _ t _ oke hezne hO) ?_
    rintro u _ w rfl hO
    rw [(read_all _ _).1, List.take_length] at hO
    have hO : Own k w [_, _, _, _, _, _] := hO
    have e1 := iv_length .i32 W
    have e2 := iv_length .i32 (ends false z).1
    refine s_append (news := iv .i32 (ends false z).1) (by intro kk h; cases h) hO (.tl _ (.tl _ (.tl _ (.tl _ (.tl _ (.hd _ _)))))) rfl rfl rfl rfl ((sl_sli hO (.tl _ (.hd _ _))).src (iv_one _ _) (iv_cells _ _)) (iv_one _ _) (by omega) (by omega) fun v' w hO hgr => ?_
    rw [← iv_append] at hO
    obtain ⟨pv', cv', hv⟩ := sl_shape hO
    rw [iv_length] at hv
    subst hv
    have hO : Own k w [_, _, _, _, _, _] := hO
    have hO := hO.pulls (As := [_, _, _]) (.cons (.tl _ (.tl _ (.tl _ (.hd _ _)))) (.cons (.tl _ (.tl _ (.tl _ (.tl _ (.hd _ _))))) (.cons (.hd _ _) (.nil _))))
    repeat (first | (with_reducible first | refine K0 ?_ | refine K1 ?_ | refine K2 ?_ | refine K3 ?_ | refine K4 ?_ | refine K5 ?_ | refine K6 ?_ | refine K7 ?_ | refine K8 ?_ | refine K9 ?_ | refine L0 ?_ | refine L1 ?_ | refine L2 ?_ | refine L3 ?_ | refine L4 ?_ | refine L5 ?_ | refine L6 ?_) | refine Y0 hO rfl ?_ | refine Y1 hO rfl rfl (fun w hO => ?_) | refine Y2 hO rfl ?_ | refine Y3 hO rfl rfl (fun w hO => ?_) | refine l_y rfl rfl (y_index rfl rfl (by omega) (by omega)) ?_ | refine l_y rfl rfl (y_indexA rfl rfl (by omega) (by omega)) ?_ | refine L7 ?_ | refine L8 ?_ | refine L9 ?_ | refine M0 ?_ | refine M1 ?_ | refine M2 ?_ | refine M3 ?_ | refine M4 ?_ | refine M5 ?_ | refine M6 ?_ | refine M7 ?_ | refine M8 ?_ | refine M9 ?_ | refine N0 ?_ | refine N1 ?_ | refine N2 ?_ | refine N3 ?_ | refine N4 ?_ | refine N5 ?_ | refine N6 ?_ | refine N7 ?_ | refine N8 ?_ | refine N9 ?_ | refine R0 ?_ | refine R1 ?_ | refine R2 ?_ | refine R3 ?_ | refine R4 ?_ | refine R5 ?_ | refine R6 ?_ | refine R7 ?_ | refine R8 ?_ | refine R9 ?_ | refine S0 ?_)
    exact q_next (i + 1, W ++ (ends false z).1, pv', cv') ⟨rfl, rfl, rfl, rfl, rfl, trivial⟩ ⟨Own.front (l := [_, _, _]) hO, okw, by dsimp only; omega, by dsimp only; omega, by simp; omega, fun z hz => (List.mem_append.1 hz).elim (hWne z) (hezne z)⟩ (by dsimp only; omega)
  · have hne : ∀ z ∈ W ++ E, z ≠ -1 := fun z hz => (List.mem_append.1 hz).elim (hWne z) (hEne z)
    have fin : ∀ (E' : Env), True := fun _ => trivial
    have go : (i : Int) < nw ∧ ¬ (i : Int) < 50 ∨ ¬ (i : Int) < nw := by omega
    rcases go with ⟨go1, go2⟩ | go1
    all_goals
      repeat (first | (with_reducible first | refine K0 ?_ | refine K1 ?_ | refine K2 ?_ | refine K3 ?_ | refine K4 ?_ | refine K5 ?_ | refine K6 ?_ | refine K7 ?_ | refine K8 ?_ | refine K9 ?_ | refine L0 ?_ | refine L1 ?_ | refine L2 ?_ | refine L3 ?_ | refine L4 ?_ | refine L5 ?_ | refine L6 ?_) | refine Y0 hO rfl ?_ | refine Y1 hO rfl rfl (fun w hO => ?_) | refine Y2 hO rfl ?_ | refine Y3 hO rfl rfl (fun w hO => ?_) | refine l_y rfl rfl (y_index rfl rfl (by omega) (by omega)) ?_ | refine l_y rfl rfl (y_indexA rfl rfl (by omega) (by omega)) ?_ | refine L7 ?_ | refine L8 ?_ | refine L9 ?_ | refine M0 ?_ | refine M1 ?_ | refine M2 ?_ | refine M3 ?_ | refine M4 ?_ | refine M5 ?_ | refine M6 ?_ | refine M7 ?_ | refine M8 ?_ | refine M9 ?_ | refine N0 ?_ | refine N1 ?_ | refine N2 ?_ | refine N3 ?_ | refine N4 ?_ | refine N5 ?_ | refine N6 ?_ | refine N7 ?_ | refine N8 ?_ | refine N9 ?_ | refine R0 ?_ | refine R1 ?_ | refine R2 ?_ | refine R3 ?_ | refine R4 ?_ | refine R5 ?_ | refine R6 ?_ | refine R7 ?_ | refine R8 ?_ | refine R9 ?_ | refine S0 ?_)
      refine s_callO hO (.cons (.hd _ _) (.nil _)) rfl rfl rfl (fun k' hx hr hO => all_spec k' _ s _ hok hne hO) ?_
      rintro u _ w rfl hO
      have oka := ok_at hok W.length (by rw [(wst_read W E c0).1]; exact Nat.le_refl _)
      rw [(wst_read W E c0).1, (wst_read W E c0).2] at hO
      rw [(wst_read W E c0).2] at oka
      rw [show (⟨W ++ E, [(W.length : Int)], c0, true, false⟩ : St).L.take W.length = W from List.take_left] at hO
      have hO : Own k w [_, _, _, _] := hO
      obtain ⟨pu, cu, hv⟩ := sl_shape (hO.pull (.tl _ (.hd _ _)))
      rw [iv_length] at hv
      subst hv
      repeat (first | (with_reducible first | refine K0 ?_ | refine K1 ?_ | refine K2 ?_ | refine K3 ?_ | refine K4 ?_ | refine K5 ?_ | refine K6 ?_ | refine K7 ?_ | refine K8 ?_ | refine K9 ?_ | refine L0 ?_ | refine L1 ?_ | refine L2 ?_ | refine L3 ?_ | refine L4 ?_ | refine L5 ?_ | refine L6 ?_) | refine Y0 hO rfl ?_ | refine Y1 hO rfl rfl (fun w hO => ?_) | refine Y2 hO rfl ?_ | refine Y3 hO rfl rfl (fun w hO => ?_) | refine l_y rfl rfl (y_index rfl rfl (by omega) (by omega)) ?_ | refine l_y rfl rfl (y_indexA rfl rfl (by omega) (by omega)) ?_ | refine L7 ?_ | refine L8 ?_ | refine L9 ?_ | refine M0 ?_ | refine M1 ?_ | refine M2 ?_ | refine M3 ?_ | refine M4 ?_ | refine M5 ?_ | refine M6 ?_ | refine M7 ?_ | refine M8 ?_ | refine M9 ?_ | refine N0 ?_ | refine N1 ?_ | refine N2 ?_ | refine N3 ?_ | refine N4 ?_ | refine N5 ?_ | refine N6 ?_ | refine N7 ?_ | refine N8 ?_ | refine N9 ?_ | refine R0 ?_ | refine R1 ?_ | refine R2 ?_ | refine R3 ?_ | refine R4 ?_ | refine R5 ?_ | refine R6 ?_ | refine R7 ?_ | refine R8 ?_ | refine R9 ?_ | refine S0 ?_)
      refine s_callO hO (.cons (.hd _ _) (.nil _)) rfl rfl rfl (fun k' hx hr hO => Next_spec k' _ s _ oka.1 (by simp) hO) ?_
      rintro _ _ w ⟨rfl, rfl⟩ hO
      have hnx : nextS ⟨E, [0], c0, true, false⟩ = ((0, false), ⟨E, [0], c0, true, false⟩) := rfl
      rw [hnx] at hO ⊢
      dsimp only at hO ⊢
      have hO : Own k w [_, _, _, _] := hO
      repeat (first | (with_reducible first | refine K0 ?_ | refine K1 ?_ | refine K2 ?_ | refine K3 ?_ | refine K4 ?_ | refine K5 ?_ | refine K6 ?_ | refine K7 ?_ | refine K8 ?_ | refine K9 ?_ | refine L0 ?_ | refine L1 ?_ | refine L2 ?_ | refine L3 ?_ | refine L4 ?_ | refine L5 ?_ | refine L6 ?_) | refine Y0 hO rfl ?_ | refine Y1 hO rfl rfl (fun w hO => ?_) | refine Y2 hO rfl ?_ | refine Y3 hO rfl rfl (fun w hO => ?_) | refine l_y rfl rfl (y_index rfl rfl (by omega) (by omega)) ?_ | refine l_y rfl rfl (y_indexA rfl rfl (by omega) (by omega)) ?_ | refine L7 ?_ | refine L8 ?_ | refine L9 ?_ | refine M0 ?_ | refine M1 ?_ | refine M2 ?_ | refine M3 ?_ | refine M4 ?_ | refine M5 ?_ | refine M6 ?_ | refine M7 ?_ | refine M8 ?_ | refine M9 ?_ | refine N0 ?_ | refine N1 ?_ | refine N2 ?_ | refine N3 ?_ | refine N4 ?_ | refine N5 ?_ | refine N6 ?_ | refine N7 ?_ | refine N8 ?_ | refine N9 ?_ | refine R0 ?_ | refine R1 ?_ | refine R2 ?_ | refine R3 ?_ | refine R4 ?_ | refine R5 ?_ | refine R6 ?_ | refine R7 ?_ | refine R8 ?_ | refine R9 ?_ | refine S0 ?_)
      refine s_callO hO (.nil _) rfl rfl rfl (fun k' hx hr hO' => runes_spec k' _ pu pg _ _ _ _ W W (sl_ro hr (by simp) hO (.tl _ (.hd _ _))) (sl_ro hr (by simp) hO (.tl _ (.tl _ (.tl _ (.hd _ _))))) (by omega) hO') ?_
      rintro _ _ w ⟨rfl, rfl⟩ hO
      have hO : Own k w [_, _, _, _] := hO
      rw [decide_eq_true rfl]
      repeat (first | (with_reducible first | refine K0 ?_ | refine K1 ?_ | refine K2 ?_ | refine K3 ?_ | refine K4 ?_ | refine K5 ?_ | refine K6 ?_ | refine K7 ?_ | refine K8 ?_ | refine K9 ?_ | refine L0 ?_ | refine L1 ?_ | refine L2 ?_ | refine L3 ?_ | refine L4 ?_ | refine L5 ?_ | refine L6 ?_) | refine Y0 hO rfl ?_ | refine Y1 hO rfl rfl (fun w hO => ?_) | refine Y2 hO rfl ?_ | refine Y3 hO rfl rfl (fun w hO => ?_) | refine l_y rfl rfl (y_index rfl rfl (by omega) (by omega)) ?_ | refine l_y rfl rfl (y_indexA rfl rfl (by omega) (by omega)) ?_ | refine L7 ?_ | refine L8 ?_ | refine L9 ?_ | refine M0 ?_ | refine M1 ?_ | refine M2 ?_ | refine M3 ?_ | refine M4 ?_ | refine M5 ?_ | refine M6 ?_ | refine M7 ?_ | refine M8 ?_ | refine M9 ?_ | refine N0 ?_ | refine N1 ?_ | refine N2 ?_ | refine N3 ?_ | refine N4 ?_ | refine N5 ?_ | refine N6 ?_ | refine N7 ?_ | refine N8 ?_ | refine N9 ?_ | refine R0 ?_ | refine R1 ?_ | refine R2 ?_ | refine R3 ?_ | refine R4 ?_ | refine R5 ?_ | refine R6 ?_ | refine R7 ?_ | refine R8 ?_ | refine R9 ?_ | refine S0 ?_)
      refine s_callO hO (.cons (.hd _ _) (.nil _)) rfl rfl rfl (fun k' hx hr hO => Unmark_spec k' _ s _ oka.1 hO) ?_
      rintro _ _ w ⟨rfl, rfl⟩ hO
      have oku := ok_unmark oka
      have oku : St.Ok ⟨E, [], c0, true, false⟩ := oku
      have hO : Own k w [stm s ⟨E, [], c0, true, false⟩, _, rsl (.slice pv l.length cv) l, _] := hO
      rw [show (unmarkS ⟨E, [0], c0, true, false⟩).1 = 0 from rfl]
      repeat (first | (with_reducible first | refine K0 ?_ | refine K1 ?_ | refine K2 ?_ | refine K3 ?_ | refine K4 ?_ | refine K5 ?_ | refine K6 ?_ | refine K7 ?_ | refine K8 ?_ | refine K9 ?_ | refine L0 ?_ | refine L1 ?_ | refine L2 ?_ | refine L3 ?_ | refine L4 ?_ | refine L5 ?_ | refine L6 ?_) | refine Y0 hO rfl ?_ | refine Y1 hO rfl rfl (fun w hO => ?_) | refine Y2 hO rfl ?_ | refine Y3 hO rfl rfl (fun w hO => ?_) | refine l_y rfl rfl (y_index rfl rfl (by omega) (by omega)) ?_ | refine l_y rfl rfl (y_indexA rfl rfl (by omega) (by omega)) ?_ | refine L7 ?_ | refine L8 ?_ | refine L9 ?_ | refine M0 ?_ | refine M1 ?_ | refine M2 ?_ | refine M3 ?_ | refine M4 ?_ | refine M5 ?_ | refine M6 ?_ | refine M7 ?_ | refine M8 ?_ | refine M9 ?_ | refine N0 ?_ | refine N1 ?_ | refine N2 ?_ | refine N3 ?_ | refine N4 ?_ | refine N5 ?_ | refine N6 ?_ | refine N7 ?_ | refine N8 ?_ | refine N9 ?_ | refine R0 ?_ | refine R1 ?_ | refine R2 ?_ | refine R3 ?_ | refine R4 ?_ | refine R5 ?_ | refine R6 ?_ | refine R7 ?_ | refine R8 ?_ | refine R9 ?_ | refine S0 ?_)
      refine s_callO hO (.nil _) rfl rfl rfl (fun k' hx hr hO => New_spec k' _ hO) ?_
      rintro _ _ w ⟨t, rfl, rfl⟩ hO
      have hO : Own k w [_, _, _, _, _] := hO
      repeat (first | (with_reducible first | refine K0 ?_ | refine K1 ?_ | refine K2 ?_ | refine K3 ?_ | refine K4 ?_ | refine K5 ?_ | refine K6 ?_ | refine K7 ?_ | refine K8 ?_ | refine K9 ?_ | refine L0 ?_ | refine L1 ?_ | refine L2 ?_ | refine L3 ?_ | refine L4 ?_ | refine L5 ?_ | refine L6 ?_) | refine Y0 hO rfl ?_ | refine Y1 hO rfl rfl (fun w hO => ?_) | refine Y2 hO rfl ?_ | refine Y3 hO rfl rfl (fun w hO => ?_) | refine l_y rfl rfl (y_index rfl rfl (by omega) (by omega)) ?_ | refine l_y rfl rfl (y_indexA rfl rfl (by omega) (by omega)) ?_ | refine L7 ?_ | refine L8 ?_ | refine L9 ?_ | refine M0 ?_ | refine M1 ?_ | refine M2 ?_ | refine M3 ?_ | refine M4 ?_ | refine M5 ?_ | refine M6 ?_ | refine M7 ?_ | refine M8 ?_ | refine M9 ?_ | refine N0 ?_ | refine N1 ?_ | refine N2 ?_ | refine N3 ?_ | refine N4 ?_ | refine N5 ?_ | refine N6 ?_ | refine N7 ?_ | refine N8 ?_ | refine N9 ?_ | refine R0 ?_ | refine R1 ?_ | refine R2 ?_ | refine R3 ?_ | refine R4 ?_ | refine R5 ?_ | refine R6 ?_ | refine R7 ?_ | refine R8 ?_ | refine R9 ?_ | refine S0 ?_)
      refine s_callO hO (.cons (.hd _ _) (.nil _)) rfl rfl rfl (fun k' hx hr hO' => Feed_spec k' _ t _ ok_new.1 _ _ _ l (sl_ro hr (by simp) hO (.tl _ (.tl _ (.tl _ (.hd _ _))))) hO') ?_
      rintro _ _ w ⟨rfl, rfl⟩ hO
      have hO : Own k w [_, _, _, _, _] := hO
      have okf := ok_feed ok_new l
      rw [feed_new l (by omega), ← hE, ← hc0] at hO okf
      dsimp only at hO okf
      repeat (first | (with_reducible first | refine K0 ?_ | refine K1 ?_ | refine K2 ?_ | refine K3 ?_ | refine K4 ?_ | refine K5 ?_ | refine K6 ?_ | refine K7 ?_ | refine K8 ?_ | refine K9 ?_ | refine L0 ?_ | refine L1 ?_ | refine L2 ?_ | refine L3 ?_ | refine L4 ?_ | refine L5 ?_ | refine L6 ?_) | refine Y0 hO rfl ?_ | refine Y1 hO rfl rfl (fun w hO => ?_) | refine Y2 hO rfl ?_ | refine Y3 hO rfl rfl (fun w hO => ?_) | refine l_y rfl rfl (y_index rfl rfl (by omega) (by omega)) ?_ | refine l_y rfl rfl (y_indexA rfl rfl (by omega) (by omega)) ?_ | refine L7 ?_ | refine L8 ?_ | refine L9 ?_ | refine M0 ?_ | refine M1 ?_ | refine M2 ?_ | refine M3 ?_ | refine M4 ?_ | refine M5 ?_ | refine M6 ?_ | refine M7 ?_ | refine M8 ?_ | refine M9 ?_ | refine N0 ?_ | refine N1 ?_ | refine N2 ?_ | refine N3 ?_ | refine N4 ?_ | refine N5 ?_ | refine N6 ?_ | refine N7 ?_ | refine N8 ?_ | refine N9 ?_ | refine R0 ?_ | refine R1 ?_ | refine R2 ?_ | refine R3 ?_ | refine R4 ?_ | refine R5 ?_ | refine R6 ?_ | refine R7 ?_ | refine R8 ?_ | refine R9 ?_ | refine S0 ?_)
      refine s_callO hO (.cons (.hd _ _) (.nil _)) rfl rfl rfl (fun k' hx hr hO => End_spec k' _ t _ hO) ?_
      rintro _ _ w ⟨rfl, rfl⟩ hO
      have hO : Own k w [stm t ⟨E, [], c0, true, false⟩, _, _, _, _] := hO
      repeat (first | (with_reducible first | refine K0 ?_ | refine K1 ?_ | refine K2 ?_ | refine K3 ?_ | refine K4 ?_ | refine K5 ?_ | refine K6 ?_ | refine K7 ?_ | refine K8 ?_ | refine K9 ?_ | refine L0 ?_ | refine L1 ?_ | refine L2 ?_ | refine L3 ?_ | refine L4 ?_ | refine L5 ?_ | refine L6 ?_) | refine Y0 hO rfl ?_ | refine Y1 hO rfl rfl (fun w hO => ?_) | refine Y2 hO rfl ?_ | refine Y3 hO rfl rfl (fun w hO => ?_) | refine l_y rfl rfl (y_index rfl rfl (by omega) (by omega)) ?_ | refine l_y rfl rfl (y_indexA rfl rfl (by omega) (by omega)) ?_ | refine L7 ?_ | refine L8 ?_ | refine L9 ?_ | refine M0 ?_ | refine M1 ?_ | refine M2 ?_ | refine M3 ?_ | refine M4 ?_ | refine M5 ?_ | refine M6 ?_ | refine M7 ?_ | refine M8 ?_ | refine M9 ?_ | refine N0 ?_ | refine N1 ?_ | refine N2 ?_ | refine N3 ?_ | refine N4 ?_ | refine N5 ?_ | refine N6 ?_ | refine N7 ?_ | refine N8 ?_ | refine N9 ?_ | refine R0 ?_ | refine R1 ?_ | refine R2 ?_ | refine R3 ?_ | refine R4 ?_ | refine R5 ?_ | refine R6 ?_ | refine R7 ?_ | refine R8 ?_ | refine R9 ?_ | refine S0 ?_)
      refine s_callO hO (.cons (.tl _ (.hd _ _)) (.nil _)) rfl rfl rfl (fun k' hx hr hO => all_spec k' _ s _ oku hEne hO) ?_
      rintro u1 _ w rfl hO
      rw [(read_all _ _).1, List.take_length] at hO
      have hO : Own k w [_, _, _, _, _, _] := hO
      obtain ⟨p1, c1, hv⟩ := sl_shape (hO.pull (.tl _ (.hd _ _)))
      rw [iv_length] at hv
      subst hv
      repeat (first | (with_reducible first | refine K0 ?_ | refine K1 ?_ | refine K2 ?_ | refine K3 ?_ | refine K4 ?_ | refine K5 ?_ | refine K6 ?_ | refine K7 ?_ | refine K8 ?_ | refine K9 ?_ | refine L0 ?_ | refine L1 ?_ | refine L2 ?_ | refine L3 ?_ | refine L4 ?_ | refine L5 ?_ | refine L6 ?_) | refine Y0 hO rfl ?_ | refine Y1 hO rfl rfl (fun w hO => ?_) | refine Y2 hO rfl ?_ | refine Y3 hO rfl rfl (fun w hO => ?_) | refine l_y rfl rfl (y_index rfl rfl (by omega) (by omega)) ?_ | refine l_y rfl rfl (y_indexA rfl rfl (by omega) (by omega)) ?_ | refine L7 ?_ | refine L8 ?_ | refine L9 ?_ | refine M0 ?_ | refine M1 ?_ | refine M2 ?_ | refine M3 ?_ | refine M4 ?_ | refine M5 ?_ | refine M6 ?_ | refine M7 ?_ | refine M8 ?_ | refine M9 ?_ | refine N0 ?_ | refine N1 ?_ | refine N2 ?_ | refine N3 ?_ | refine N4 ?_ | refine N5 ?_ | refine N6 ?_ | refine N7 ?_ | refine N8 ?_ | refine N9 ?_ | refine R0 ?_ | refine R1 ?_ | refine R2 ?_ | refine R3 ?_ | refine R4 ?_ | refine R5 ?_ | refine R6 ?_ | refine R7 ?_ | refine R8 ?_ | refine R9 ?_ | refine S0 ?_)
      refine s_callO hO (.cons (.tl _ (.tl _ (.hd _ _))) (.nil _)) rfl rfl rfl (fun k' hx hr hO => all_spec k' _ t _ oku hEne hO) ?_
      rintro u2 _ w rfl hO
      rw [(read_all _ _).1, List.take_length] at hO
      have hO : Own k w [_, _, _, _, _, _, _] := hO
      obtain ⟨p2, c2, hv⟩ := sl_shape (hO.pull (.tl _ (.hd _ _)))
      rw [iv_length] at hv
      subst hv
      repeat (first | (with_reducible first | refine K0 ?_ | refine K1 ?_ | refine K2 ?_ | refine K3 ?_ | refine K4 ?_ | refine K5 ?_ | refine K6 ?_ | refine K7 ?_ | refine K8 ?_ | refine K9 ?_ | refine L0 ?_ | refine L1 ?_ | refine L2 ?_ | refine L3 ?_ | refine L4 ?_ | refine L5 ?_ | refine L6 ?_) | refine Y0 hO rfl ?_ | refine Y1 hO rfl rfl (fun w hO => ?_) | refine Y2 hO rfl ?_ | refine Y3 hO rfl rfl (fun w hO => ?_) | refine l_y rfl rfl (y_index rfl rfl (by omega) (by omega)) ?_ | refine l_y rfl rfl (y_indexA rfl rfl (by omega) (by omega)) ?_ | refine L7 ?_ | refine L8 ?_ | refine L9 ?_ | refine M0 ?_ | refine M1 ?_ | refine M2 ?_ | refine M3 ?_ | refine M4 ?_ | refine M5 ?_ | refine M6 ?_ | refine M7 ?_ | refine M8 ?_ | refine M9 ?_ | refine N0 ?_ | refine N1 ?_ | refine N2 ?_ | refine N3 ?_ | refine N4 ?_ | refine N5 ?_ | refine N6 ?_ | refine N7 ?_ | refine N8 ?_ | refine N9 ?_ | refine R0 ?_ | refine R1 ?_ | refine R2 ?_ | refine R3 ?_ | refine R4 ?_ | refine R5 ?_ | refine R6 ?_ | refine R7 ?_ | refine R8 ?_ | refine R9 ?_ | refine S0 ?_)
      refine s_callO hO (.nil _) rfl rfl rfl (fun k' hx hr hO' => runes_spec k' _ p1 p2 _ _ _ _ E E (sl_ro hr (by simp) hO (.tl _ (.tl _ (.tl _ (.hd _ _))))) (sl_ro hr (by simp) hO (.tl _ (.hd _ _))) (by omega) hO') ?_
      rintro _ _ w ⟨rfl, rfl⟩ hO
      rw [decide_eq_true rfl]
      repeat (first | (with_reducible first | refine K0 ?_ | refine K1 ?_ | refine K2 ?_ | refine K3 ?_ | refine K4 ?_ | refine K5 ?_ | refine K6 ?_ | refine K7 ?_ | refine K8 ?_ | refine K9 ?_ | refine L0 ?_ | refine L1 ?_ | refine L2 ?_ | refine L3 ?_ | refine L4 ?_ | refine L5 ?_ | refine L6 ?_) | refine Y0 hO rfl ?_ | refine Y1 hO rfl rfl (fun w hO => ?_) | refine Y2 hO rfl ?_ | refine Y3 hO rfl rfl (fun w hO => ?_) | refine l_y rfl rfl (y_index rfl rfl (by omega) (by omega)) ?_ | refine l_y rfl rfl (y_indexA rfl rfl (by omega) (by omega)) ?_ | refine L7 ?_ | refine L8 ?_ | refine L9 ?_ | refine M0 ?_ | refine M1 ?_ | refine M2 ?_ | refine M3 ?_ | refine M4 ?_ | refine M5 ?_ | refine M6 ?_ | refine M7 ?_ | refine M8 ?_ | refine M9 ?_ | refine N0 ?_ | refine N1 ?_ | refine N2 ?_ | refine N3 ?_ | refine N4 ?_ | refine N5 ?_ | refine N6 ?_ | refine N7 ?_ | refine N8 ?_ | refine N9 ?_ | refine R0 ?_ | refine R1 ?_ | refine R2 ?_ | refine R3 ?_ | refine R4 ?_ | refine R5 ?_ | refine R6 ?_ | refine R7 ?_ | refine R8 ?_ | refine R9 ?_ | refine S0 ?_)
      exact fin1 rfl rfl ⟨_, rfl, hO⟩
end Go.Proofs.Ytfpppopcdhihgaa
