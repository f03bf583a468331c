/- The walks of the answer's list: Remove, Put, Swap, Last. -/
import Derived.Test.YtbhicbpfdbnpfaaAct10
set_option linter.unusedVariables false
set_option linter.unusedSimpArgs false
set_option maxRecDepth 100000
namespace Go.Proofs.Ytbhicbpfdbnpfaa
open Go Go.Hb Go.RowKit
section
variable {k : Ctx} {w : World} {z r c d : Nat} {p q : Option Addr} {L : List Api_entry} {A : List Node_one} {K : Int → List Int} {R : List Ref01_one} {id : Int}
theorem zRemove_spec (hD : DistN L) (hl : L.length ≤ 2000000) (hO : Own k w [ralL z r L]) :
    Tri Try.prog 116 #[.pointer (some ⟨z, 0, none⟩), .int .i64 id] k w fun v m => v = .int .i64 (removeE L id).1 ∧ m = [ralL z r (removeE L id).2] := by
  refine enter (args := [.pointer (some ⟨z, 0, none⟩), .int .i64 id]) Try.func116 rfl rfl ?_
  obtain ⟨q, d, hgq, hlq, hO⟩ := ralL_open hO
  refine K0 (K1 ?_)
  refine l_y rfl rfl (y_assign rfl) ?_
  refine K2 (K3 (K0 (K1 ?_)))
  refine l_y rfl rfl (y_move rfl) ?_
  refine l_y rfl rfl (y_move rfl) ?_
  refine CK [.b z, .p q] hO rfl (fun k' hx hr hO' => zFindB_spec hD hgq hl (hO := hO')) ?_
  rintro _ _ w ⟨rfl, rfl⟩ hO
  simp only [List.cons_append, List.nil_append] at hO
  refine l_y rfl rfl (y_assign rfl) ?_
  refine K2 (K3 (K0 (K0 (K1 ?_))))
  refine l_y rfl rfl (y_move rfl) ?_
  refine Z0 (fun h2_1 => ?_) (fun h2_1 => ?_)
  · refine K2 (K3 (L8 (K0 (K1 ?_))))
    refine l_y rfl rfl (y_assign rfl) ?_
    refine K2 (K3 (K6 (K9 ?_)))
    exact fin1 rfl rfl ⟨_, ⟨by rw [removeE, if_pos h2_1], rfl⟩, by rw [removeE, if_pos h2_1]; exact (ralL_shut (hO.ks [.b z, .p q])).one⟩
  · refine K2 (K3 (L9 (K5 (K3 (K0 ?_)))))
    obtain ⟨i, hi, hi2⟩ : ∃ i : Nat, findE L id = i ∧ i < L.length := by
      rcases findE_cases L id with h | ⟨i, h1, h2, _⟩
      · omega
      · exact ⟨i, h1, h2⟩
    have er : removeE L id = (0, cutE L i) := by rw [removeE, if_neg h2_1, hi]; rfl
    rw [er]
    refine K1 ?_
    refine l_y rfl rfl (y_move rfl) ?_
    refine l_y rfl rfl (y_move rfl) ?_
    refine CK [.b z, .p q] hO (by rw [hi]; rfl) (fun k' hx hr hO' => zremove_spec hi2 hgq hlq hl (hO := hO')) ?_
    rintro _ _ w ⟨rfl, rfl⟩ hO
    simp only [List.cons_append, List.nil_append] at hO
    refine K2 (K3 (K0 (K1 ?_)))
    refine l_y rfl rfl (y_assign rfl) ?_
    refine K2 (K3 (K6 ?_))
    exact fin1 rfl rfl ⟨_, ⟨rfl, rfl⟩, hO.one⟩
set_option maxHeartbeats 2000000 in
theorem zPut_spec {tk : Api_token} {i : Int} (t : Two A K R) (hD : DistN L) (hl : L.length ≤ 2000000) (hO : Own k w [rarL r R, ralL z r L]) :
    Tri Try.prog 118 #[.pointer (some ⟨z, 0, none⟩), .int .i64 i, .int .i64 id, .agg (Api_token.cells tk).toArray] k w fun v m => v = .int .i64 (putE A L i ⟨id, tk⟩).1 ∧ m = [rarL r R, ralL z r (putE A L i ⟨id, tk⟩).2] := by
  refine enter (args := [.pointer (some ⟨z, 0, none⟩), .int .i64 i, .int .i64 id, .agg (Api_token.cells tk).toArray]) Try.func118 rfl rfl ?_
  obtain ⟨p, c, F, hg, hF, hO⟩ := rarL_open hO
  obtain ⟨q, d, hgq, hlq, hO⟩ := ralL_open (hO.ks [.o z])
  have hfc := freshF_cases A L id
  refine K0 (K1 ?_)
  refine s_box (vs := [.int .i64 tk.Kind, .string tk.Name, .string tk.Data, .string tk.System, .int .i64 tk.Has, .bool tk.Quirks, .int .i32 tk.Char, .bool tk.Self, .slice tk.AttrsP tk.Attrs.length tk.AttrsC]) hO rfl rfl rfl (by rfl) fun b7 w hO => ?_
  refine l_y rfl rfl (y_assign rfl) ?_
  refine K2 (K3 (K0 (K0 (K1 ?_))))
  refine l_y rfl rfl (y_move rfl) ?_
  refine l_y rfl rfl (y_nilCheck rfl rfl) ?_
  refine l_y rfl rfl (y_fldb (o' := 0) rfl) ?_
  refine l_y rfl rfl (D5 hO rfl) ?_
  refine l_y rfl rfl (y_move rfl) ?_
  refine CK [.b r, .p p] hO rfl (fun k' hx hr hO' => zEl_spec t.sim hg (hO := hO')) ?_
  rintro _ _ w ⟨rfl, rfl⟩ hO
  simp only [List.cons_append, List.nil_append] at hO
  refine l_y rfl rfl (y_not rfl rfl) ?_
  refine K2 (K3 ?_)
  refine c_split rfl (fun hc16 => ?_) (fun hc16 => ?_)
  · simp only [Bool.not_eq_true', Bool.not_eq_false'] at hc16
    refine K0 (K1 ?_)
    refine l_y rfl rfl (y_assign rfl) ?_
    refine K2 (K3 (K6 (K9 ?_)))
    have hel : elB A id = false := by simpa using hc16
    have e : freshF A L id = 6 := by rw [freshF, if_pos hel]
    have er : putE A L i ⟨id, tk⟩ = (6, L) := by rw [putE, e]; exact if_pos (by decide)
    rw [er]
    exact fin1 rfl rfl ⟨_, ⟨rfl, rfl⟩, ((rarL_shut hF ((ralL_shut (hO.ks [.b z, .p q])).ks [.b r, .p p, .f])).ks [.o r, .o z]).two⟩
  · simp only [Bool.not_eq_true', Bool.not_eq_false'] at hc16
    refine K5 (K3 (K0 (K0 (K1 ?_))))
    refine l_y rfl rfl (y_move rfl) ?_
    refine l_y rfl rfl (y_move rfl) ?_
    refine CK [.b z, .p q] hO rfl (fun k' hx hr hO' => zFindB_spec hD hgq hl (hO := hO')) ?_
    rintro _ _ w ⟨rfl, rfl⟩ hO
    simp only [List.cons_append, List.nil_append] at hO
    refine Z0 (fun h3_3 => ?_) (fun h3_3 => ?_)
    · refine l_y rfl rfl (y_move rfl) ?_
      repeat refine M2 ?_
      refine l_y rfl rfl (y_pick_t rfl rfl) ?_
      refine l_y rfl rfl (y_move rfl) ?_
      repeat refine M2 ?_
      refine l_y rfl rfl (y_pick_t rfl rfl) ?_
      refine K2 (K3 (L8 (K0 (K1 ?_))))
      refine l_y rfl rfl (y_assign rfl) ?_
      refine K2 (K3 (K6 (K9 ?_)))
      have hel : elB A id = true := by simpa using hc16
      have er : putE A L i ⟨id, tk⟩ = (1, L) := by
        rcases hfc with ⟨_, h⟩ | ⟨h1, _, h2⟩ | ⟨h1, _, h2⟩
        · rw [hel] at h; cases h
        · rw [putE, if_pos (show freshF A L id ≠ 0 by omega)]; exact congrArg (·, L) h1
        · rw [putE, if_neg (show ¬ freshF A L id ≠ 0 by omega), if_pos (by omega)]
      rw [er]
      exact fin1 rfl rfl ⟨_, ⟨rfl, rfl⟩, ((rarL_shut hF ((ralL_shut (hO.ks [.b z, .p q])).ks [.b r, .p p, .f])).ks [.o r, .o z]).two⟩
    · refine l_y rfl rfl (y_move rfl) ?_
      refine l_y rfl rfl (y_move rfl) ?_
      refine Z0 (fun h3_6 => ?_) (fun h3_6 => ?_)
      · refine l_y rfl rfl (y_pick_f rfl rfl) ?_
        refine l_y rfl rfl (y_move rfl) ?_
        repeat refine M2 ?_
        refine l_y rfl rfl (y_pick_t rfl rfl) ?_
        refine K2 (K3 (L8 (K0 (K1 ?_))))
        refine l_y rfl rfl (y_assign rfl) ?_
        refine K2 (K3 (K6 (K9 ?_)))
        have hel : elB A id = true := by simpa using hc16
        have er : putE A L i ⟨id, tk⟩ = (1, L) := by
          rcases hfc with ⟨_, h⟩ | ⟨h1, _, h2⟩ | ⟨h1, _, h2⟩
          · rw [hel] at h; cases h
          · rw [putE, if_pos (show freshF A L id ≠ 0 by omega)]; exact congrArg (·, L) h1
          · rw [putE, if_neg (show ¬ freshF A L id ≠ 0 by omega), if_pos (by omega)]
        rw [er]
        exact fin1 rfl rfl ⟨_, ⟨rfl, rfl⟩, ((rarL_shut hF ((ralL_shut (hO.ks [.b z, .p q])).ks [.b r, .p p, .f])).ks [.o r, .o z]).two⟩
      · refine l_y rfl rfl (y_pick_f rfl rfl) ?_
        refine l_y rfl rfl (y_move rfl) ?_
        refine l_y rfl rfl (y_move rfl) ?_
        refine l_y rfl rfl (y_move rfl) ?_
        refine l_y rfl rfl (y_nilCheck rfl rfl) ?_
        refine l_y rfl rfl (y_fldb (o' := 1) rfl) ?_
        refine l_y rfl rfl (D5 hO rfl) ?_
        refine l_y rfl rfl (y_lenL rfl) ?_
        refine Z0 (fun h3_15 => ?_) (fun h3_15 => ?_)
        · refine l_y rfl rfl (y_pick_f rfl rfl) ?_
          refine K2 (K3 (L8 (K0 (K1 ?_))))
          refine l_y rfl rfl (y_assign rfl) ?_
          refine K2 (K3 (K6 (K9 ?_)))
          have hel : elB A id = true := by simpa using hc16
          have er : putE A L i ⟨id, tk⟩ = (1, L) := by
            rcases hfc with ⟨_, h⟩ | ⟨h1, _, h2⟩ | ⟨h1, _, h2⟩
            · rw [hel] at h; cases h
            · rw [putE, if_pos (show freshF A L id ≠ 0 by omega)]; exact congrArg (·, L) h1
            · rw [putE, if_neg (show ¬ freshF A L id ≠ 0 by omega), if_pos (by omega)]
          rw [er]
          exact fin1 rfl rfl ⟨_, ⟨rfl, rfl⟩, ((rarL_shut hF ((ralL_shut (hO.ks [.b z, .p q])).ks [.b r, .p p, .f])).ks [.o r, .o z]).two⟩
        · refine l_y rfl rfl (y_pick_f rfl rfl) ?_
          refine K2 (K3 (L9 (K5 (K3 (K0 ?_)))))
          have hel : elB A id = true := by simpa using hc16
          have hf0 : freshF A L id = 0 := by
            rcases hfc with ⟨_, h⟩ | ⟨h1, _, h2⟩ | ⟨h1, _, h2⟩
            · rw [hel] at h; cases h
            · omega
            · exact h1
          obtain ⟨j, rfl⟩ : ∃ j : Nat, i = j := ⟨i.toNat, by omega⟩
          have er : putE A L j ⟨id, tk⟩ = (0, L.take j ++ [⟨id, tk⟩] ++ L.drop j) := by rw [putE, if_neg (show ¬ freshF A L id ≠ 0 by omega), if_neg (by omega)]; rfl
          rw [er]
          refine K1 ?_
          refine s_lit0 Api_entry.cells hO (fun b34 w hO => ?_)
          refine l_y rfl rfl (y_move rfl) ?_
          refine l_y rfl rfl (y_nilCheck rfl rfl) ?_
          refine l_y rfl rfl (y_fldb (o' := 1) rfl) ?_
          refine l_y rfl rfl (D5 hO rfl) ?_
          refine l_y rfl rfl (y_move rfl) ?_
          have hv0 := sls_sli (p := q) hO
          refine l_y rfl rfl (y_hd j rfl rfl) ?_
          have hv := sli_hd (cuts_holds w) hv0 j d (by omega) (by omega)
          have hti : (L.take j).length = j := by simp; omega
          refine s_app0 (ys := L.take j) hO rfl rfl (src_sli hv) (fun p41 c41 w hO gs41 => ?_)
          refine l_y rfl rfl (y_assign rfl) ?_
          refine K2 (K3 (K0 (K1 ?_)))
          refine l_y rfl rfl (y_move rfl) ?_
          refine l_y rfl rfl (y_move rfl) ?_
          refine l_y rfl rfl (D8 (cs := [.int .i64 tk.Kind, .string tk.Name, .string tk.Data, .string tk.System, .int .i64 tk.Has, .bool tk.Quirks, .int .i32 tk.Char, .bool tk.Self, .slice tk.AttrsP tk.Attrs.length tk.AttrsC]) hO rfl) ?_
          refine s_build (parts := [(0, .tmp 43), (1, .tmp 44)]) (cs := [.int .i64 id, .int .i64 tk.Kind, .string tk.Name, .string tk.Data, .string tk.System, .int .i64 tk.Has, .bool tk.Quirks, .int .i32 tk.Char, .bool tk.Self, .slice tk.AttrsP tk.Attrs.length tk.AttrsC]) rfl rfl (fun a ha => partsOf_sound ha _ _ rfl) (by kernel_rfl) ?_
          refine s_lit (parts := [(0, .tmp 45)]) (enc := Api_entry.cells) [⟨id, ⟨tk.Kind, tk.Name, tk.Data, tk.System, tk.Has, tk.Quirks, tk.Char, tk.Self, tk.AttrsP, tk.Attrs, tk.AttrsC⟩⟩] [.agg [.int .i64 id, .int .i64 tk.Kind, .string tk.Name, .string tk.Data, .string tk.System, .int .i64 tk.Has, .bool tk.Quirks, .int .i32 tk.Char, .bool tk.Self, .slice tk.AttrsP tk.Attrs.length tk.AttrsC].toArray] hO rfl (fun b46 w hO => ?_)
          refine s_app (xs := L.take j) (ys := [(⟨id, tk⟩ : Api_entry)]) hO rfl rfl (src_own hO) (fun p47 c47 w hO gs47 => ?_) rfl (by simp; omega) (by simp; omega)
          refine l_y rfl rfl (y_assign rfl) ?_
          refine K2 (K3 (K0 (K1 ?_)))
          refine l_y rfl rfl (y_move rfl) ?_
          refine l_y rfl rfl (y_move rfl) ?_
          refine l_y rfl rfl (y_move rfl) ?_
          refine l_y rfl rfl (y_nilCheck rfl rfl) ?_
          refine l_y rfl rfl (y_fldb (o' := 1) rfl) ?_
          refine l_y rfl rfl (D5 hO rfl) ?_
          refine l_y rfl rfl (y_move rfl) ?_
          refine l_y rfl rfl (y_tl j rfl rfl) ?_
          have hv1 := sls_sli (p := q) hO
          have hv2 := sli_tl (cuts_holds w) hv1 j (by omega)
          have htd : (L.drop j).length = L.length - j := by simp
          refine s_app (xs := L.take j ++ [(⟨id, tk⟩ : Api_entry)]) (ys := L.drop j) hO rfl rfl (src_sli hv2) (fun p56 c56 w hO gs56 => ?_) rfl (by simp; omega) (by simp; omega)
          refine l_y rfl rfl (y_nilCheck rfl rfl) ?_
          refine l_y rfl rfl (y_fldb (o' := 1) rfl) ?_
          refine Y1 hO rfl rfl (fun w hO => ?_)
          simp only [List.set_cons_zero, List.set_cons_succ] at hO
          refine K2 (K3 (K0 (K1 ?_)))
          refine l_y rfl rfl (y_assign rfl) ?_
          refine K2 (K3 (K6 ?_))
          exact fin1 rfl rfl ⟨_, ⟨rfl, rfl⟩, ((rarL_shut hF ((ralL_shut (hO.ks [.b z, .p p56]) rfl).ks [.b r, .p p, .f])).ks [.o r, .o z]).two⟩
set_option maxHeartbeats 2000000 in
theorem zSwap_spec {old : Int} (t : Two A K R) (hD : DistN L) (hl : L.length ≤ 2000000) (hO : Own k w [rarL r R, ralL z r L]) :
    Tri Try.prog 120 #[.pointer (some ⟨z, 0, none⟩), .int .i64 old, .int .i64 id] k w fun v m => v = .int .i64 (swapE A L old id).1 ∧ m = [rarL r R, ralL z r (swapE A L old id).2] := by
  refine enter (args := [.pointer (some ⟨z, 0, none⟩), .int .i64 old, .int .i64 id]) Try.func120 rfl rfl ?_
  obtain ⟨p, c, F, hg, hF, hO⟩ := rarL_open hO
  obtain ⟨q, d, hgq, hlq, hO⟩ := ralL_open (hO.ks [.o z])
  have hfc := freshF_cases A L id
  refine K0 (K1 ?_)
  refine l_y rfl rfl (y_assign rfl) ?_
  refine K2 (K3 (K0 (K1 ?_)))
  refine l_y rfl rfl (y_move rfl) ?_
  refine l_y rfl rfl (y_move rfl) ?_
  refine CK [.b z, .p q] hO rfl (fun k' hx hr hO' => zFindB_spec hD hgq hl (hO := hO')) ?_
  rintro _ _ w ⟨rfl, rfl⟩ hO
  simp only [List.cons_append, List.nil_append] at hO
  refine l_y rfl rfl (y_assign rfl) ?_
  refine K2 (K3 (K0 (K0 (K1 ?_))))
  refine l_y rfl rfl (y_move rfl) ?_
  refine l_y rfl rfl (y_nilCheck rfl rfl) ?_
  refine l_y rfl rfl (y_fldb (o' := 0) rfl) ?_
  refine l_y rfl rfl (D5 hO rfl) ?_
  refine l_y rfl rfl (y_move rfl) ?_
  refine CK [.b r, .p p] hO rfl (fun k' hx hr hO' => zEl_spec t.sim hg (hO := hO')) ?_
  rintro _ _ w ⟨rfl, rfl⟩ hO
  simp only [List.cons_append, List.nil_append] at hO
  refine l_y rfl rfl (y_not rfl rfl) ?_
  refine l_y rfl rfl (y_move rfl) ?_
  refine l_split 18 rfl (fun hg18 => ?_) (fun hg18 => ?_)
  · simp only [Bool.not_eq_true', Bool.not_eq_false'] at hg18
    repeat refine M2 ?_
    refine l_y rfl rfl (y_pick_t rfl rfl) ?_
    refine K2 (K3 (L8 (K0 (K1 ?_))))
    refine l_y rfl rfl (y_assign rfl) ?_
    refine K2 (K3 (K6 (K9 ?_)))
    have er : swapE A L old id = (6, L) := by
      rw [swapE, if_pos]
      first | exact .inr h2_9 | (left; simpa using hg18) | (left; simp_all; done)
    rw [er]
    exact fin1 rfl rfl ⟨_, ⟨rfl, rfl⟩, ((rarL_shut hF ((ralL_shut (hO.ks [.b z, .p q])).ks [.b r, .p p, .f])).ks [.o r, .o z]).two⟩
  · simp only [Bool.not_eq_true', Bool.not_eq_false'] at hg18
    refine l_y rfl rfl (y_move rfl) ?_
    refine Z0 (fun h2_9 => ?_) (fun h2_9 => ?_)
    · refine l_y rfl rfl (y_pick_f rfl rfl) ?_
      refine K2 (K3 (L8 (K0 (K1 ?_))))
      refine l_y rfl rfl (y_assign rfl) ?_
      refine K2 (K3 (K6 (K9 ?_)))
      have er : swapE A L old id = (6, L) := by
        rw [swapE, if_pos]
        first | exact .inr h2_9 | (left; simpa using hg18) | (left; simp_all; done)
      rw [er]
      exact fin1 rfl rfl ⟨_, ⟨rfl, rfl⟩, ((rarL_shut hF ((ralL_shut (hO.ks [.b z, .p q])).ks [.b r, .p p, .f])).ks [.o r, .o z]).two⟩
    · refine l_y rfl rfl (y_pick_f rfl rfl) ?_
      refine K2 (K3 (L9 (K5 (K3 (K0 (K0 ?_))))))
      have hel : elB A id = true := by simpa using hg18
      refine K1 ?_
      refine l_y rfl rfl (y_move rfl) ?_
      refine l_y rfl rfl (y_move rfl) ?_
      refine CK [.b z, .p q] hO rfl (fun k' hx hr hO' => zFindB_spec hD hgq hl (hO := hO')) ?_
      rintro _ _ w ⟨rfl, rfl⟩ hO
      simp only [List.cons_append, List.nil_append] at hO
      refine Z0 (fun h4_3 => ?_) (fun h4_3 => ?_)
      · refine K2 (K3 (L8 (K0 (K1 ?_))))
        refine l_y rfl rfl (y_assign rfl) ?_
        refine K2 (K3 (K6 (K9 ?_)))
        have h1 : freshF A L id = 1 := by
          rcases hfc with ⟨_, h⟩ | ⟨h1, _, h2⟩ | ⟨h1, _, h2⟩
          · rw [hel] at h; cases h
          · exact h1
          · omega
        have er : swapE A L old id = (1, L) := by rw [swapE, if_neg (by simp [hel]; omega), if_neg (by omega)]
        rw [er]
        exact fin1 rfl rfl ⟨_, ⟨rfl, rfl⟩, ((rarL_shut hF ((ralL_shut (hO.ks [.b z, .p q])).ks [.b r, .p p, .f])).ks [.o r, .o z]).two⟩
      · refine K2 (K3 (L9 (K5 (K3 (K0 ?_)))))
        have h0 : freshF A L id = 0 := by
          rcases hfc with ⟨_, h⟩ | ⟨h1, _, h2⟩ | ⟨h1, _, h2⟩
          · rw [hel] at h; cases h
          · omega
          · exact h1
        obtain ⟨i, hi, hfl⟩ : ∃ i : Nat, findE L old = i ∧ i < L.length := by
          rcases findE_cases L old with h | ⟨i, h1, h2, _⟩
          · omega
          · exact ⟨i, h1, h2⟩
        have er : swapE A L old id = (0, L.set i { at_ L i with Node := id }) := by rw [swapE, if_neg (by simp [hel]; omega), if_pos h0, hi]; rfl
        rw [er]
        refine K1 ?_
        refine l_y rfl rfl (y_move rfl) ?_
        refine s_lit0 Api_entry.cells hO (fun b27 w hO => ?_)
        refine l_y rfl rfl (y_move rfl) ?_
        refine l_y rfl rfl (y_nilCheck rfl rfl) ?_
        refine l_y rfl rfl (y_fldb (o' := 1) rfl) ?_
        refine l_y rfl rfl (D5 hO rfl) ?_
        refine s_app0 (ys := L) hO rfl rfl (src_own hO) (fun p32 c32 w hO gs32 => ?_)
        refine l_y rfl rfl (y_nilCheck rfl rfl) ?_
        refine l_y rfl rfl (y_fldb (o' := 1) rfl) ?_
        refine Y1 hO rfl rfl (fun w hO => ?_)
        simp only [List.set_cons_zero, List.set_cons_succ] at hO
        refine K2 (K3 (K0 (K1 ?_)))
        refine l_y rfl rfl (y_move rfl) ?_
        refine l_y rfl rfl (y_nilCheck rfl rfl) ?_
        refine l_y rfl rfl (y_fldb (o' := 1) rfl) ?_
        refine l_y rfl rfl (D5 hO rfl) ?_
        refine l_y (v := .int .i64 (i : Int)) rfl rfl (by rw [← hi]; exact y_move rfl) ?_
        refine l_y rfl rfl (y_move rfl) ?_
        refine l_y rfl rfl (y_idx rfl rfl) ?_
        refine l_y rfl rfl (y_fld (j' := 0) rfl) ?_
        refine s_e1 (x0 := 0) hO rfl rfl (fun w hO => ?_)
        refine K2 (K3 (K0 (K1 ?_)))
        refine l_y rfl rfl (y_assign rfl) ?_
        refine K2 (K3 (K6 ?_))
        have hls : L.length = (L.set i { at_ L i with Node := id }).length := by simp
        rw [hls] at hO
        exact fin1 rfl rfl ⟨_, ⟨rfl, rfl⟩, ((rarL_shut hF ((ralL_shut (hO.ks [.b z, .p p32]) rfl).ks [.b r, .p p, .f])).ks [.o r, .o z]).two⟩
set_option maxHeartbeats 2000000 in
theorem zLast_spec {nm : ByteArray} (t : Two A K R) (hl : L.length ≤ 2000000) (hb : ∀ e ∈ L, e.Node ≠ -1 → hasB A e.Node = true) (hO : Own k w [rarL r R, ralL z r L]) :
    Tri Try.prog 114 #[.pointer (some ⟨z, 0, none⟩), .string nm] k w fun v m => v = .int .i64 (lastE A L nm (bk L L.length)) ∧ m = [rarL r R, ralL z r L] := by
  refine enter (args := [.pointer (some ⟨z, 0, none⟩), .string nm]) Try.func114 rfl rfl ?_
  obtain ⟨p, c, F, hg, hF, hO⟩ := rarL_open hO
  obtain ⟨q, d, hgq, hlq, hO⟩ := ralL_open (hO.ks [.o z])
  have hlen := t.sim.len
  refine K0 (K1 ?_)
  refine l_y rfl rfl (y_assign rfl) ?_
  refine K2 (K3 (K0 (K0 (K1 ?_))))
  refine l_y rfl rfl (y_move rfl) ?_
  refine l_y rfl rfl (y_nilCheck rfl rfl) ?_
  refine l_y rfl rfl (y_fldb (o' := 1) rfl) ?_
  refine l_y rfl rfl (D5 hO rfl) ?_
  refine l_y rfl rfl (y_lenL rfl) ?_
  refine l_y rfl rfl (D4) ?_
  refine l_y rfl rfl (y_assign rfl) ?_
  refine K2 (K3 (K4 ?_))
  refine c_rounds (X := Nat × List Nat) (fun x => [(0, .pointer (some ⟨z, 0, none⟩)), (1, .string nm), (4, .int .i64 0), (5, .int .i64 ((x.1 : Int) - 1))]) (fun x w => Own k w [rB r p R.length c, rS p c R, zB z r q L.length d, aI q d L, pool F] ∧ (bk L L.length = x.2 ++ bk L x.1) ∧ (x.1 ≤ L.length) ∧ (∀ i ∈ x.2, ¬ ((nodeA A (at_ L i).Node).Space = 0 ∧ (nodeA A (at_ L i).Node).Name = nm))) (fun x => x.1) ((L.length, [])) ⟨rfl, rfl, rfl, rfl, trivial⟩ ⟨hO.only [.b r, .p p, .b z, .p q, .f], rfl, Nat.le_refl _, (fun i hi => by cases hi)⟩ ?_
  rintro x w m hm ⟨hO, hx, hle, hsk⟩
  refine K0 (K0 (K1 ?_))
  refine l_y rfl rfl (y_move rfl) ?_
  refine Z0 (fun h2_1 => ?_) (fun h2_1 => ?_)
  · obtain ⟨y, hy⟩ : ∃ y, x.1 = y + 1 := ⟨x.1 - 1, by omega⟩
    have ey : (x.1 : Int) - 1 = (y : Int) := by omega
    rw [ey]
    refine l_y rfl rfl (y_move rfl) ?_
    refine l_y rfl rfl (y_move rfl) ?_
    refine l_y rfl rfl (y_nilCheck rfl rfl) ?_
    refine l_y rfl rfl (y_fldb (o' := 1) rfl) ?_
    refine l_y rfl rfl (D5 hO rfl) ?_
    refine l_y rfl rfl (y_move rfl) ?_
    refine l_y rfl rfl (y_idx rfl rfl) ?_
    refine l_y rfl rfl (y_fld (j' := 0) rfl) ?_
    refine l_y rfl rfl (y_e1 (x0 := 0) hO rfl) ?_
    refine Z1 (fun h2_11 => ?_) (fun h2_11 => ?_)
    · refine l_y rfl rfl (y_pick_t rfl rfl) ?_
      refine K2 (K3 (L8 (K5 (K3 (K0 (K4 (K0 ?_)))))))
      have hs : bk L x.1 = y :: bk L y := by rw [hy, bk, if_neg (show ¬ (at_ L y).Node = -1 from h2_11)]
      have hby : hasB A (at_ L ((y : Nat) : Int).toNat).Node = true := hb _ (at_mem (xs := L) (i := y) (by omega)) h2_11
      have hx0 := hasB_true hby
      have sx := t.sim.atB hby
      have n1 : (nodeA A (at_ L y).Node).Space = (at_ R (at_ L ((y : Nat) : Int).toNat).Node.toNat).Space := by first | exact sx.space | exact sx.space.symm
      have n2 : (nodeA A (at_ L y).Node).Name = (at_ R (at_ L ((y : Nat) : Int).toNat).Node.toNat).Name := by first | exact sx.name | exact sx.name.symm
      refine da_region (by intro c a d v w h; cases d <;> exact h) ?_
      have hO := hO.drew
      refine da_phase _ [18] (SO.ks [.b z, .b r, .p q, .p p] hO) ?_
      refine dx_u 0 (by kernel_rfl) rfl rfl rfl (fun w => y_move rfl) ?_
      refine dx_u 1 (by kernel_rfl) rfl rfl rfl (fun w => y_nilCheck rfl rfl) ?_
      refine dx_u 2 (by kernel_rfl) rfl rfl rfl (fun w => y_fldb (o' := 0) rfl) ?_
      refine dx_y 3 (by kernel_rfl) rfl rfl rfl (fun w ⟨m, hw⟩ => D5 hw rfl) ?_
      refine dx_u 4 (by kernel_rfl) rfl rfl rfl (fun w => y_nilCheck rfl rfl) ?_
      refine dx_u 5 (by kernel_rfl) rfl rfl rfl (fun w => y_fldb (o' := 0) rfl) ?_
      refine dx_y 6 (by kernel_rfl) rfl rfl rfl (fun w ⟨m, hw⟩ => D5 hw rfl) ?_
      refine dx_u 7 (by kernel_rfl) rfl rfl rfl (fun w => y_move rfl) ?_
      refine dx_u 8 (by kernel_rfl) rfl rfl rfl (fun w => y_nilCheck rfl rfl) ?_
      refine dx_u 9 (by kernel_rfl) rfl rfl rfl (fun w => y_fldb (o' := 1) rfl) ?_
      refine dx_y 10 (by kernel_rfl) rfl rfl rfl (fun w ⟨m, hw⟩ => D5 hw rfl) ?_
      refine dx_u 11 (by kernel_rfl) rfl rfl rfl (fun w => y_move rfl) ?_
      refine dx_u 12 (by kernel_rfl) rfl rfl rfl (fun w => y_idx rfl rfl) ?_
      refine dx_u 13 (by kernel_rfl) rfl rfl rfl (fun w => y_fld (j' := 0) rfl) ?_
      refine dx_y 14 (by kernel_rfl) rfl rfl rfl (fun w ⟨m, hw⟩ => y_e1 (x0 := 0) hw rfl) ?_
      refine dx_u 15 (by kernel_rfl) rfl rfl rfl (fun w => y_idx rfl rfl) ?_
      refine dx_y 16 (by kernel_rfl) rfl rfl rfl (fun w ⟨m, hw⟩ => y_eA (x0 := 0) (cs := [.int .i64 (at_ R ((at_ L ((y : Int) : Int).toNat).Node : Int).toNat).Kind, .int .i64 (at_ R ((at_ L ((y : Int) : Int).toNat).Node : Int).toNat).Space, .string (at_ R ((at_ L ((y : Int) : Int).toNat).Node : Int).toNat).Name, .slice (at_ R ((at_ L ((y : Int) : Int).toNat).Node : Int).toNat).AttrsP (at_ R ((at_ L ((y : Int) : Int).toNat).Node : Int).toNat).Attrs.length (at_ R ((at_ L ((y : Int) : Int).toNat).Node : Int).toNat).AttrsC, .string (at_ R ((at_ L ((y : Int) : Int).toNat).Node : Int).toNat).Data, .string (at_ R ((at_ L ((y : Int) : Int).toNat).Node : Int).toNat).System, .int .i64 (at_ R ((at_ L ((y : Int) : Int).toNat).Node : Int).toNat).Inner, .int .i64 (at_ R ((at_ L ((y : Int) : Int).toNat).Node : Int).toNat).Host, .int .i64 (at_ R ((at_ L ((y : Int) : Int).toNat).Node : Int).toNat).Up, .slice (at_ R ((at_ L ((y : Int) : Int).toNat).Node : Int).toNat).KidsP (at_ R ((at_ L ((y : Int) : Int).toNat).Node : Int).toNat).Kids.length (at_ R ((at_ L ((y : Int) : Int).toNat).Node : Int).toNat).KidsC]) hw rfl) ?_
      refine dx_only 17 (by kernel_rfl) rfl rfl ?_
      refine s_alloc (vs := [.int .i64 0, .int .i64 0, .string ⟨#[]⟩, .slice none 0 0, .string ⟨#[]⟩, .string ⟨#[]⟩, .int .i64 0, .int .i64 0, .int .i64 0, .slice none 0 0]) hO rfl rfl rfl fun b6 w hO => ?_
      refine o_done ?_
      refine ⟨SO.ks [.b z, .b r, .p q, .p p] hO, ?_⟩
      refine dx_close 18 (by kernel_rfl) rfl rfl ?_
      refine Y3 hO rfl rfl (fun w hO => ?_)
      refine o_done ?_
      refine da_end (by kernel_rfl) ?_
      refine K3 (K0 (K1 ?_))
      refine l_y rfl rfl (y_fldb (o' := 1) rfl) ?_
      refine l_y rfl rfl (D5 hO rfl) ?_
      refine Z0 (fun h5_2 => ?_) (fun h5_2 => ?_)
      · refine l_y rfl rfl (y_move rfl) ?_
        refine l_y rfl rfl (y_fldb (o' := 2) rfl) ?_
        refine l_y rfl rfl (D5 hO rfl) ?_
        refine l_y rfl rfl (y_move rfl) ?_
        refine Z2 (fun h5_7 => ?_) (fun h5_7 => ?_)
        · refine l_y rfl rfl (y_pick_t rfl rfl) ?_
          refine K2 (K3 (L8 (K0 (K1 ?_))))
          refine l_y rfl rfl (y_move rfl) ?_
          refine l_y rfl rfl (y_nilCheck rfl rfl) ?_
          refine l_y rfl rfl (y_fldb (o' := 1) rfl) ?_
          refine l_y rfl rfl (D5 hO rfl) ?_
          refine l_y rfl rfl (y_move rfl) ?_
          refine l_y rfl rfl (y_idx rfl rfl) ?_
          refine l_y rfl rfl (y_fld (j' := 0) rfl) ?_
          refine l_y rfl rfl (y_e1 (x0 := 0) hO rfl) ?_
          refine l_y rfl rfl (y_assign rfl) ?_
          refine K2 (K3 (K6 (L0 (K9 (K9 (L0 (K9 ?_)))))))
          have hla : lastE A L nm (bk L L.length) = (at_ L y).Node := by
            rw [hx, lastE_skip hsk, hs, lastE, if_pos ⟨by rw [n1]; exact h5_2, by rw [n2]; exact h5_7⟩]
          rw [hla]
          exact fin1 rfl rfl ⟨_, ⟨rfl, rfl⟩, ((rarL_shut hF ((ralL_shut (hO.ks [.b z, .p q])).ks [.b r, .p p, .f])).ks [.o r, .o z]).two⟩
        · refine l_y rfl rfl (y_pick_t rfl rfl) ?_
          refine K2 (K3 (L9 (K5 (K8 (K3 (K1 ?_))))))
          refine l_y rfl rfl (y_move rfl) ?_
          refine l_y rfl rfl (D4) ?_
          refine l_y rfl rfl (y_assign rfl) ?_
          refine K2 ?_
          have hno : ¬ ((nodeA A (at_ L y).Node).Space = 0 ∧ (nodeA A (at_ L y).Node).Name = nm) := by
            rw [n1, n2]
            first | (intro h; exact h5_7 h.2) | (intro h; exact h5_2 h.1)
          exact q_next ((y, x.2 ++ [y])) ⟨rfl, rfl, rfl, rfl, trivial⟩ ⟨hO.only [.b r, .p p, .b z, .p q, .f], (by dsimp only; rw [hx, hs]; simp), (by dsimp only; omega), (fun i hi => (List.mem_append.1 hi).elim (hsk i) (fun h => by rw [List.mem_singleton.1 h]; exact hno))⟩ (by dsimp only; omega)
      · refine l_y rfl rfl (y_move rfl) ?_
        repeat refine M2 ?_
        refine l_y rfl rfl (y_pick_f rfl rfl) ?_
        refine K2 (K3 (L9 (K5 (K8 (K3 (K1 ?_))))))
        refine l_y rfl rfl (y_move rfl) ?_
        refine l_y rfl rfl (D4) ?_
        refine l_y rfl rfl (y_assign rfl) ?_
        refine K2 ?_
        have hno : ¬ ((nodeA A (at_ L y).Node).Space = 0 ∧ (nodeA A (at_ L y).Node).Name = nm) := by
          rw [n1, n2]
          first | (intro h; exact h5_7 h.2) | (intro h; exact h5_2 h.1)
        exact q_next ((y, x.2 ++ [y])) ⟨rfl, rfl, rfl, rfl, trivial⟩ ⟨hO.only [.b r, .p p, .b z, .p q, .f], (by dsimp only; rw [hx, hs]; simp), (by dsimp only; omega), (fun i hi => (List.mem_append.1 hi).elim (hsk i) (fun h => by rw [List.mem_singleton.1 h]; exact hno))⟩ (by dsimp only; omega)
    · refine l_y rfl rfl (y_pick_t rfl rfl) ?_
      refine K2 (K3 (L9 (K7 (L1 (L1 (L2 (K3 (K0 (K1 ?_)))))))))
      refine l_y rfl rfl (y_assign rfl) ?_
      refine K2 (K3 (K6 ?_))
      have he : bk L x.1 = [] := by
        first
          | rw [hy, bk, if_pos (show (at_ L y).Node = -1 from h2_11)]
          | rw [show x.1 = 0 by omega, bk]
      have hla : lastE A L nm (bk L L.length) = -1 := by rw [hx, he, lastE_skip hsk, lastE]
      rw [hla]
      exact fin1 rfl rfl ⟨_, ⟨rfl, rfl⟩, ((rarL_shut hF ((ralL_shut (hO.ks [.b z, .p q])).ks [.b r, .p p, .f])).ks [.o r, .o z]).two⟩
  · refine l_y rfl rfl (y_move rfl) ?_
    repeat refine M2 ?_
    refine l_y rfl rfl (y_pick_f rfl rfl) ?_
    refine K2 (K3 (L9 (K7 (L1 (L1 (L2 (K3 (K0 (K1 ?_)))))))))
    refine l_y rfl rfl (y_assign rfl) ?_
    refine K2 (K3 (K6 ?_))
    have he : bk L x.1 = [] := by
      first
        | rw [hy, bk, if_pos (show (at_ L y).Node = -1 from h2_11)]
        | rw [show x.1 = 0 by omega, bk]
    have hla : lastE A L nm (bk L L.length) = -1 := by rw [hx, he, lastE_skip hsk, lastE]
    rw [hla]
    exact fin1 rfl rfl ⟨_, ⟨rfl, rfl⟩, ((rarL_shut hF ((ralL_shut (hO.ks [.b z, .p q])).ks [.b r, .p p, .f])).ks [.o r, .o z]).two⟩
end
end Go.Proofs.Ytbhicbpfdbnpfaa
