/- The walks of the answer's Find, of runes and of awake. -/
import Derived.Test.YtklomlknakhedaaEnt2
set_option linter.unusedVariables false
set_option linter.unusedSimpArgs false
set_option maxRecDepth 100000
namespace Go.Proofs.Ytklomlknakhedaa
open Go Go.Hb Go.RowKit
theorem old_small : ∀ x ∈ oldL.map rowOf, x.Name.size ≤ 16 := by decide
theorem young_small : ∀ x ∈ youngL.map rowOf, x.Name.size ≤ 16 := by decide
theorem semi_sz : (⟨#[59]⟩ : ByteArray).size = 1 := rfl
section
variable {k : Ctx} {w : World} {s : ByteArray}
theorem two_spec (hO : Own k w []) : Tri Try.prog 25 #[.string s] k w fun v m => FindV (twoR s) v m := by
  refine enter (args := [.string s]) Try.func25 rfl rfl ?_
  refine K0 (K1 ?_)
  refine l_y rfl rfl (y_assign rfl) ?_
  refine l_y rfl rfl (y_assign rfl) ?_
  refine K2 (K3 (K0 (K0 (K1 ?_))))
  refine l_y rfl rfl (y_move rfl) ?_
  refine K2 (K3 (K4 (K0 (K1 ?_))))
  refine Z2 (fun h2_0 => ?_) (fun h2_0 => ?_)
  · refine l_y rfl rfl (y_assign rfl) ?_
    refine K2 (K3 (L8 (K0 (K1 ?_))))
    refine s_lit (parts := [(0, .const (.int .i32 60)), (1, .const (.int .i32 8402))]) (enc := (eI .i32)) [60, 8402] [.int .i32 60, .int .i32 8402] hO rfl (fun b7 w hO => ?_)
    refine l_y rfl rfl (y_assign rfl) ?_
    refine l_y rfl rfl (y_assign rfl) ?_
    refine K2 (K3 (K6 (L0 (K9 ?_))))
    rw [show twoR s = some [60, 8402] by first | (simp [twoR, *]; done) | (rw [twoR]; simp_all)]
    exact fin2 rfl rfl rfl ⟨_, ⟨_, _, _, rfl, rfl⟩, hO.only [.p (some ⟨b7, 0, none⟩)]⟩
  · refine l_y rfl rfl (y_assign rfl) ?_
    refine K2 (K3 (L9 (K0 (K1 ?_))))
    refine Z2 (fun h4_0 => ?_) (fun h4_0 => ?_)
    · refine l_y rfl rfl (y_assign rfl) ?_
      refine K2 (K3 (L8 (K0 (K1 ?_))))
      refine s_lit (parts := [(0, .const (.int .i32 61)), (1, .const (.int .i32 8421))]) (enc := (eI .i32)) [61, 8421] [.int .i32 61, .int .i32 8421] hO rfl (fun b10 w hO => ?_)
      refine l_y rfl rfl (y_assign rfl) ?_
      refine l_y rfl rfl (y_assign rfl) ?_
      refine K2 (K3 (K6 (L0 (K9 ?_))))
      rw [show twoR s = some [61, 8421] by first | (simp [twoR, *]; done) | (rw [twoR]; simp_all)]
      exact fin2 rfl rfl rfl ⟨_, ⟨_, _, _, rfl, rfl⟩, hO.only [.p (some ⟨b10, 0, none⟩)]⟩
    · refine l_y rfl rfl (y_assign rfl) ?_
      refine K2 (K3 (L9 (K0 (K1 ?_))))
      refine Z2 (fun h6_0 => ?_) (fun h6_0 => ?_)
      · refine l_y rfl rfl (y_assign rfl) ?_
        refine K2 (K3 (L8 (K0 (K1 ?_))))
        refine s_lit (parts := [(0, .const (.int .i32 102)), (1, .const (.int .i32 106))]) (enc := (eI .i32)) [102, 106] [.int .i32 102, .int .i32 106] hO rfl (fun b13 w hO => ?_)
        refine l_y rfl rfl (y_assign rfl) ?_
        refine l_y rfl rfl (y_assign rfl) ?_
        refine K2 (K3 (K6 (L0 (K9 ?_))))
        rw [show twoR s = some [102, 106] by first | (simp [twoR, *]; done) | (rw [twoR]; simp_all)]
        exact fin2 rfl rfl rfl ⟨_, ⟨_, _, _, rfl, rfl⟩, hO.only [.p (some ⟨b13, 0, none⟩)]⟩
      · refine l_y rfl rfl (y_assign rfl) ?_
        refine K2 (K3 (L9 (K0 (K1 ?_))))
        refine Z2 (fun h8_0 => ?_) (fun h8_0 => ?_)
        · refine l_y rfl rfl (y_assign rfl) ?_
          refine K2 (K3 (L8 (K0 (K1 ?_))))
          refine s_lit (parts := [(0, .const (.int .i32 8766)), (1, .const (.int .i32 819))]) (enc := (eI .i32)) [8766, 819] [.int .i32 8766, .int .i32 819] hO rfl (fun b16 w hO => ?_)
          refine l_y rfl rfl (y_assign rfl) ?_
          refine l_y rfl rfl (y_assign rfl) ?_
          refine K2 (K3 (K6 (L0 (K9 ?_))))
          rw [show twoR s = some [8766, 819] by first | (simp [twoR, *]; done) | (rw [twoR]; simp_all)]
          exact fin2 rfl rfl rfl ⟨_, ⟨_, _, _, rfl, rfl⟩, hO.only [.p (some ⟨b16, 0, none⟩)]⟩
        · refine l_y rfl rfl (y_assign rfl) ?_
          refine K2 (K3 (L9 (K5 (K8 (K3 (K0 (K1 ?_)))))))
          refine l_y rfl rfl (y_assign rfl) ?_
          refine l_y rfl rfl (y_assign rfl) ?_
          refine K2 (K3 (K6 ?_))
          rw [show twoR s = none by first | (simp [twoR, *]; done) | (rw [twoR]; simp_all)]
          exact fin2 rfl rfl rfl ⟨_, ⟨_, _, _, rfl, rfl⟩, (sl_nil 21 1 hO).one⟩
set_option maxHeartbeats 1000000 in
theorem FindR_spec (hO : Own k w []) : Tri Try.prog 10 #[.string s] k w fun v m => FindV (findR s) v m := by
  refine enter (args := [.string s]) Try.func10 rfl rfl ?_
  have z1 := semi_sz
  have zO : (oldL.map rowOf).length = 106 := by kernel_rfl
  have zY : (youngL.map rowOf).length = 141 := by kernel_rfl
  refine K0 (K1 ?_)
  refine l_y rfl rfl (y_assign rfl) ?_
  refine l_y rfl rfl (y_assign rfl) ?_
  refine K2 (K3 (K0 (K1 ?_)))
  refine CK [] hO rfl (fun k' hx hr hO' => Old_spec (hO := hO')) ?_
  rintro _ _ w ⟨q7, c7, rfl, rfl⟩ hO
  simp only [List.cons_append, List.nil_append] at hO
  refine l_y rfl rfl (y_assign rfl) ?_
  refine K2 (K3 (K0 (K0 ?_)))
  have hg := (sls_fct (p := q7) hO).2
  refine K1 ?_
  refine l_y rfl rfl (y_assign rfl) ?_
  refine K2 (K3 (K4 ?_))
  refine c_rounds (X := Nat) (fun i => [(0, .string s), (2, .slice none 0 0), (3, .bool false), (4, .slice q7 (oldL.map rowOf).length c7), (5, .int .i64 (i : Int))]) (fun i w => Own k w [sls q7 c7 49 2 Ref08_row.cells (oldL.map rowOf)] ∧ (i ≤ (oldL.map rowOf).length) ∧ (((oldL.map rowOf).take i).find? (isO s) = none)) (fun i => (oldL.map rowOf).length - i) (0) ⟨rfl, rfl, rfl, rfl, rfl, trivial⟩ ⟨hO.only [.p q7], Nat.zero_le _, rfl⟩ ?_
  rintro i w m hm ⟨hO, hi, hf⟩
  refine K0 (K0 (K1 ?_))
  refine l_y rfl rfl (y_move rfl) ?_
  refine l_y rfl rfl (y_move rfl) ?_
  refine l_y rfl rfl (y_lenL rfl) ?_
  refine Z0 (fun h3_3 => ?_) (fun h3_3 => ?_)
  · refine K2 (K3 (L8 (K5 (K3 (K0 (K4 (K0 ?_)))))))
    have hT : (at_ (oldL.map rowOf) ((i : Nat) : Int).toNat).Name.size ≤ 16 := old_small _ (at_mem (xs := oldL.map rowOf) (i := i) (by omega))
    refine K1 ?_
    refine l_y rfl rfl (y_move rfl) ?_
    refine l_y rfl rfl (y_move rfl) ?_
    refine l_y rfl rfl (y_move rfl) ?_
    refine l_y rfl rfl (y_idx rfl rfl) ?_
    refine l_y rfl rfl (y_fld (j' := 0) rfl) ?_
    refine l_y rfl rfl (y_e1 (x0 := 0) hO rfl) ?_
    refine Z2 (fun h5_6 => ?_) (fun h5_6 => ?_)
    · refine l_y rfl rfl (y_move rfl) ?_
      repeat refine M2 ?_
      refine l_y rfl rfl (y_pick_t rfl rfl) ?_
      refine K2 (K3 (L8 (K0 (K1 ?_))))
      refine l_y rfl rfl (y_move rfl) ?_
      refine l_y rfl rfl (y_move rfl) ?_
      refine l_y rfl rfl (y_idx rfl rfl) ?_
      refine l_y rfl rfl (y_fld (j' := 1) rfl) ?_
      refine l_y rfl rfl (y_e1 (x0 := 1) hO rfl) ?_
      refine s_lit (parts := [(0, .tmp 35)]) (enc := (eI .i32)) [(at_ (oldL.map rowOf) ((i : Int) : Int).toNat).Rune] [.int .i32 (at_ (oldL.map rowOf) ((i : Int) : Int).toNat).Rune] hO rfl (fun b36 w hO => ?_)
      refine l_y rfl rfl (y_assign rfl) ?_
      refine l_y rfl rfl (y_assign rfl) ?_
      refine K2 (K3 (K6 (L0 (K9 (K9 (L0 (K9 ?_)))))))
      have e : findR s = some [(at_ (oldL.map rowOf) i).Rune] := by rw [findR, find_take hf (by omega) (by simp_all [isO, semi])]
      rw [e]
      exact fin2 rfl rfl rfl ⟨_, ⟨_, _, _, rfl, rfl⟩, hO.only [.p (some ⟨b36, 0, none⟩)]⟩
    · refine l_y rfl rfl (y_move rfl) ?_
      refine l_y rfl rfl (y_move rfl) ?_
      refine l_y rfl rfl (y_move rfl) ?_
      refine l_y rfl rfl (y_move rfl) ?_
      refine l_y rfl rfl (y_idx rfl rfl) ?_
      refine l_y rfl rfl (y_fld (j' := 0) rfl) ?_
      refine l_y rfl rfl (y_e1 (x0 := 0) hO rfl) ?_
      refine l_y rfl rfl (y_catS rfl rfl (by omega)) ?_
      refine Z2 (fun h5_15 => ?_) (fun h5_15 => ?_)
      · refine l_y rfl rfl (y_pick_f rfl rfl) ?_
        refine K2 (K3 (L8 (K0 (K1 ?_))))
        refine l_y rfl rfl (y_move rfl) ?_
        refine l_y rfl rfl (y_move rfl) ?_
        refine l_y rfl rfl (y_idx rfl rfl) ?_
        refine l_y rfl rfl (y_fld (j' := 1) rfl) ?_
        refine l_y rfl rfl (y_e1 (x0 := 1) hO rfl) ?_
        refine s_lit (parts := [(0, .tmp 35)]) (enc := (eI .i32)) [(at_ (oldL.map rowOf) ((i : Int) : Int).toNat).Rune] [.int .i32 (at_ (oldL.map rowOf) ((i : Int) : Int).toNat).Rune] hO rfl (fun b36 w hO => ?_)
        refine l_y rfl rfl (y_assign rfl) ?_
        refine l_y rfl rfl (y_assign rfl) ?_
        refine K2 (K3 (K6 (L0 (K9 (K9 (L0 (K9 ?_)))))))
        have e : findR s = some [(at_ (oldL.map rowOf) i).Rune] := by rw [findR, find_take hf (by omega) (by simp_all [isO, semi])]
        rw [e]
        exact fin2 rfl rfl rfl ⟨_, ⟨_, _, _, rfl, rfl⟩, hO.only [.p (some ⟨b36, 0, none⟩)]⟩
      · refine l_y rfl rfl (y_pick_f rfl rfl) ?_
        refine K2 (K3 (L9 (K5 (K8 (K3 (K1 ?_))))))
        refine l_y rfl rfl (y_move rfl) ?_
        refine l_y rfl rfl (D4) ?_
        refine l_y rfl rfl (y_assign rfl) ?_
        refine K2 ?_
        exact q_next (i + 1) ⟨rfl, rfl, rfl, rfl, rfl, trivial⟩ ⟨hO.only [.p q7], by omega, find_next hf (by omega) (fun hh => by simp_all [isO, semi])⟩ (by omega)
  · refine K2 (K3 (L9 (K7 (L1 (L1 (L2 (K3 (K0 (K1 ?_)))))))))
    refine CK [] hO rfl (fun k' hx hr hO' => New_spec (hO := hO')) ?_
    rintro _ _ w ⟨q37, c37, rfl, rfl⟩ hO
    simp only [List.cons_append, List.nil_append] at hO
    refine l_y rfl rfl (y_assign rfl) ?_
    refine K2 (K3 (K0 (K0 ?_)))
    have hg2 := (sls_fct (p := q37) hO).2
    have e0 : (oldL.map rowOf).find? (isO s) = none := by rw [← hf, List.take_of_length_le (by omega)]
    refine K1 ?_
    refine l_y rfl rfl (y_assign rfl) ?_
    refine K2 (K3 (K4 ?_))
    refine c_rounds (X := Nat) (fun i => [(0, .string s), (2, .slice none 0 0), (3, .bool false), (4, .slice q37 (youngL.map rowOf).length c37), (6, .int .i64 (i : Int))]) (fun i w => Own k w [sls q37 c37 49 2 Ref08_row.cells (youngL.map rowOf)] ∧ (i ≤ (youngL.map rowOf).length) ∧ (((youngL.map rowOf).take i).find? (isY s) = none)) (fun i => (youngL.map rowOf).length - i) (0) ⟨rfl, rfl, rfl, rfl, rfl, trivial⟩ ⟨hO.only [.p q37], Nat.zero_le _, rfl⟩ ?_
    rintro i w m hm ⟨hO, hi, hf⟩
    refine K0 (K0 (K1 ?_))
    refine l_y rfl rfl (y_move rfl) ?_
    refine l_y rfl rfl (y_move rfl) ?_
    refine l_y rfl rfl (y_lenL rfl) ?_
    refine Z0 (fun h9_3 => ?_) (fun h9_3 => ?_)
    · refine K2 (K3 (L8 (K5 (K3 (K0 (K4 (K0 ?_)))))))
      have hT : (at_ (youngL.map rowOf) ((i : Nat) : Int).toNat).Name.size ≤ 16 := young_small _ (at_mem (xs := youngL.map rowOf) (i := i) (by omega))
      refine K1 ?_
      refine l_y rfl rfl (y_move rfl) ?_
      refine l_y rfl rfl (y_move rfl) ?_
      refine l_y rfl rfl (y_move rfl) ?_
      refine l_y rfl rfl (y_idx rfl rfl) ?_
      refine l_y rfl rfl (y_fld (j' := 0) rfl) ?_
      refine l_y rfl rfl (y_e1 (x0 := 0) hO rfl) ?_
      refine l_y rfl rfl (y_catS rfl rfl (by omega)) ?_
      refine Z2 (fun h11_7 => ?_) (fun h11_7 => ?_)
      · refine K2 (K3 (L8 (K0 (K1 ?_))))
        refine l_y rfl rfl (y_move rfl) ?_
        refine l_y rfl rfl (y_move rfl) ?_
        refine l_y rfl rfl (y_idx rfl rfl) ?_
        refine l_y rfl rfl (y_fld (j' := 1) rfl) ?_
        refine l_y rfl rfl (y_e1 (x0 := 1) hO rfl) ?_
        refine s_lit (parts := [(0, .tmp 56)]) (enc := (eI .i32)) [(at_ (youngL.map rowOf) ((i : Int) : Int).toNat).Rune] [.int .i32 (at_ (youngL.map rowOf) ((i : Int) : Int).toNat).Rune] hO rfl (fun b57 w hO => ?_)
        refine l_y rfl rfl (y_assign rfl) ?_
        refine l_y rfl rfl (y_assign rfl) ?_
        refine K2 (K3 (K6 (L0 (K9 (K9 (L0 (K9 ?_)))))))
        have e : findR s = some [(at_ (youngL.map rowOf) i).Rune] := by rw [findR, e0, find_take hf (by omega) (decide_eq_true h11_7)]
        rw [e]
        exact fin2 rfl rfl rfl ⟨_, ⟨_, _, _, rfl, rfl⟩, hO.only [.p (some ⟨b57, 0, none⟩)]⟩
      · refine K2 (K3 (L9 (K5 (K8 (K3 (K1 ?_))))))
        refine l_y rfl rfl (y_move rfl) ?_
        refine l_y rfl rfl (D4) ?_
        refine l_y rfl rfl (y_assign rfl) ?_
        refine K2 ?_
        exact q_next (i + 1) ⟨rfl, rfl, rfl, rfl, rfl, trivial⟩ ⟨hO.only [.p q37], by omega, find_next hf (by omega) (fun hh => h11_7 (of_decide_eq_true hh))⟩ (by omega)
    · refine K2 (K3 (L9 (K7 (L1 (L1 (L2 (K3 (K0 (K1 ?_)))))))))
      refine l_y rfl rfl (y_move rfl) ?_
      refine CK [] hO rfl (fun k' hx hr hO' => two_spec (s := s) (hO := hO')) ?_
      rintro _ _ w ⟨q, c, T, rfl, rfl⟩ hO
      refine l_y rfl rfl (y_extract rfl rfl) ?_
      refine l_y rfl rfl (y_extract rfl rfl) ?_
      refine l_y rfl rfl (y_assign rfl) ?_
      refine l_y rfl rfl (y_assign rfl) ?_
      refine K2 (K3 (K6 ?_))
      have e : findR s = twoR s := by rw [findR, e0, show (youngL.map rowOf).find? (isY s) = none by rw [← hf, List.take_of_length_le (by omega)]]
      rw [e]
      exact fin2 rfl rfl rfl ⟨_, ⟨_, _, _, rfl, rfl⟩, hO.only [.p q]⟩
/-! the same code points? -/
set_option maxHeartbeats 1000000 in
theorem runes_spec {q q' : Option Addr} {c c' : Nat} {a b : List Int} (ha : Sli (Ro k) (.slice q a.length c) (a.map (eI .i32))) (hb : Sli (Ro k) (.slice q' b.length c') (b.map (eI .i32))) (hl : a.length ≤ 1000000) (hO : Own k w []) : Tri Try.prog 11 #[.slice q a.length c, .slice q' b.length c'] k w fun v m => v = .bool (decide (a = b)) ∧ m = [] := by
  refine enter (args := [.slice q a.length c, .slice q' b.length c']) Try.func11 rfl rfl ?_
  have hga := sli_gs ha
  have hgb := sli_gs hb
  refine K0 (K1 ?_)
  refine l_y rfl rfl (y_assign rfl) ?_
  refine K2 (K3 (K0 (K0 (K1 ?_))))
  refine l_y rfl rfl (y_move rfl) ?_
  refine l_y rfl rfl (y_lenL rfl) ?_
  refine l_y rfl rfl (y_move rfl) ?_
  refine l_y rfl rfl (y_lenL rfl) ?_
  refine Z1 (fun h1_4 => ?_) (fun h1_4 => ?_)
  · refine K2 (K3 (L8 (K0 (K1 ?_))))
    refine l_y rfl rfl (y_assign rfl) ?_
    refine K2 (K3 (K6 (K9 ?_)))
    exact fin1 rfl rfl ⟨_, ⟨by rw [decide_eq_false (fun e => by rw [e] at h1_4; exact h1_4 rfl)], rfl⟩, hO.none⟩
  · refine K2 (K3 (L9 (K5 (K3 (K0 (K0 (K1 ?_)))))))
    refine l_y rfl rfl (y_assign rfl) ?_
    refine K2 (K3 (K4 ?_))
    refine c_rounds (X := Nat) (fun i => [(0, .slice q a.length c), (1, .slice q' b.length c'), (4, .bool false), (5, .int .i64 (i : Int))]) (fun i w => Own k w [] ∧ (i ≤ a.length) ∧ (a.take i = b.take i)) (fun i => a.length - i) (0) ⟨rfl, rfl, rfl, rfl, trivial⟩ ⟨hO.only [], Nat.zero_le _, rfl⟩ ?_
    rintro i w m hm ⟨hO, hi, hf⟩
    refine K0 (K0 (K1 ?_))
    refine l_y rfl rfl (y_move rfl) ?_
    refine l_y rfl rfl (y_move rfl) ?_
    refine l_y rfl rfl (y_lenL rfl) ?_
    refine Z0 (fun h4_3 => ?_) (fun h4_3 => ?_)
    · refine K2 (K3 (L8 (K5 (K3 (K0 (K4 (K0 ?_)))))))
      refine da_region (by intro c a d v w h; cases d <;> exact h) ?_
      have hO := hO.drew
      refine da_phase _ [] (SO.ks [] hO) ?_
      refine dx_u 0 (by kernel_rfl) rfl rfl rfl (fun w => y_move rfl) ?_
      refine dx_u 1 (by kernel_rfl) rfl rfl rfl (fun w => y_move rfl) ?_
      refine dx_u 2 (by kernel_rfl) rfl rfl rfl (fun w => y_idx rfl rfl) ?_
      refine dx_y 3 (by kernel_rfl) rfl rfl rfl (fun w ⟨m, hw⟩ => y_r1 (x0 := 0) (enc := (eI .i32)) (xs := a) hw rfl) ?_
      refine dx_u 4 (by kernel_rfl) rfl rfl rfl (fun w => y_move rfl) ?_
      refine dx_u 5 (by kernel_rfl) rfl rfl rfl (fun w => y_move rfl) ?_
      refine dx_u 6 (by kernel_rfl) rfl rfl rfl (fun w => y_idx rfl rfl) ?_
      refine dx_y 7 (by kernel_rfl) rfl rfl rfl (fun w ⟨m, hw⟩ => y_r1 (x0 := 0) (enc := (eI .i32)) (xs := b) hw rfl) ?_
      refine dx_u 8 (by kernel_rfl) rfl rfl rfl (fun w => y_cmpI rfl rfl rfl) ?_
      refine dx_end (by kernel_rfl) ?_
      refine K3 ?_
      refine c_split rfl (fun hc25 => ?_) (fun hc25 => ?_)
      · refine K0 (K1 ?_)
        refine l_y rfl rfl (y_assign rfl) ?_
        refine K2 (K3 (K6 (L0 (K9 (K9 (L0 (K9 ?_)))))))
        have hx : ¬ at_ a i = at_ b i := by simpa using hc25
        exact fin1 rfl rfl ⟨_, ⟨by rw [decide_eq_false (fun e => hx (by rw [e]))], rfl⟩, hO.none⟩
      · refine K5 (K8 (K3 (K1 ?_)))
        refine l_y rfl rfl (y_move rfl) ?_
        refine l_y rfl rfl (D4) ?_
        refine l_y rfl rfl (y_assign rfl) ?_
        refine K2 ?_
        exact q_next (i + 1) ⟨rfl, rfl, rfl, rfl, trivial⟩ ⟨hO.only [], by omega, by rw [take_succ_at (by omega), take_succ_at (by omega), hf, show at_ a i = at_ b i by simpa using hc25]⟩ (by omega)
    · refine K2 (K3 (L9 (K7 (L1 (L1 (L2 (K3 (K0 (K1 ?_)))))))))
      refine l_y rfl rfl (y_assign rfl) ?_
      refine K2 (K3 (K6 ?_))
      have e : a = b := by rwa [List.take_of_length_le (by omega), List.take_of_length_le (by omega)] at hf
      exact fin1 rfl rfl ⟨_, ⟨by rw [decide_eq_true e], rfl⟩, hO.none⟩
theorem findP_amp : findP ⟨#[97, 109, 112]⟩ = some [38] := by decide
theorem FindA_spec (hO : Own k w []) : Tri Try.prog 9 #[.string ⟨#[97, 109, 112]⟩] k w fun v m => ∃ q c T, v = .tuple #[.slice q 1 c, .bool true] ∧ m = [runesL q c T [38]] := by
  refine Ret.mono (Find_spec (by decide) hO) ?_
  rintro v w' ⟨m, ⟨q, c, T, rfl, rfl⟩, hO⟩
  rw [findP_amp] at *
  exact ⟨_, ⟨q, c, T, rfl, rfl⟩, hO⟩
theorem awake_spec (hO : Own k w []) : Tri Try.prog 12 #[] k w fun v m => v = .bool true ∧ m = [] := by
  refine enter (args := []) Try.func12 rfl rfl ?_
  refine K0 (K1 ?_)
  refine l_y rfl rfl (y_assign rfl) ?_
  refine K2 (K3 (K0 (K1 ?_)))
  refine CK [] hO rfl (fun k' hx hr hO' => FindA_spec (hO := hO')) ?_
  rintro _ _ w ⟨q4, c4, T, rfl, rfl⟩ hO
  simp only [List.cons_append, List.nil_append] at hO
  refine l_y rfl rfl (y_move rfl) ?_
  refine l_y rfl rfl (y_extract rfl rfl) ?_
  refine l_y rfl rfl (y_extract rfl rfl) ?_
  refine l_y rfl rfl (y_assign rfl) ?_
  refine l_y rfl rfl (y_assign rfl) ?_
  refine K2 (K3 (K0 ?_))
  have hg := (sls_fct (p := q4) hO).2
  have hlen : ([38] : List Int).length = 1 := rfl
  refine K1 ?_
  refine l_y rfl rfl (y_move rfl) ?_
  refine l_y rfl rfl (y_move rfl) ?_
  refine l_y rfl rfl (y_move rfl) ?_
  refine l_y rfl rfl (y_lenL rfl) ?_
  refine Z0 (fun h2_4 => ?_) (fun h2_4 => ?_)
  · refine l_y rfl rfl (y_pick_t rfl rfl) ?_
    refine l_y rfl rfl (y_move rfl) ?_
    refine l_y rfl rfl (y_move rfl) ?_
    refine l_y rfl rfl (y_idx rfl rfl) ?_
    refine l_y rfl rfl (y_e1 (x0 := 0) hO rfl) ?_
    refine Z0 (fun h2_10 => ?_) (fun h2_10 => ?_)
    · refine l_y rfl rfl (y_pick_t rfl rfl) ?_
      refine l_y rfl rfl (y_assign rfl) ?_
      refine K2 (K3 (K6 ?_))
      first | exact fin1 rfl rfl ⟨_, ⟨rfl, rfl⟩, hO.none⟩ | exact (h2_4 rfl).elim | exact (h2_10 rfl).elim
    · refine l_y rfl rfl (y_pick_t rfl rfl) ?_
      refine l_y rfl rfl (y_assign rfl) ?_
      refine K2 (K3 (K6 ?_))
      first | exact fin1 rfl rfl ⟨_, ⟨rfl, rfl⟩, hO.none⟩ | exact (h2_4 rfl).elim | exact (h2_10 rfl).elim
  · refine l_y rfl rfl (y_pick_t rfl rfl) ?_
    refine l_y rfl rfl (y_move rfl) ?_
    repeat refine M2 ?_
    refine l_y rfl rfl (y_pick_f rfl rfl) ?_
    refine l_y rfl rfl (y_assign rfl) ?_
    refine K2 (K3 (K6 ?_))
    first | exact fin1 rfl rfl ⟨_, ⟨rfl, rfl⟩, hO.none⟩ | exact (h2_4 rfl).elim | exact (h2_10 rfl).elim
end
end Go.Proofs.Ytklomlknakhedaa
