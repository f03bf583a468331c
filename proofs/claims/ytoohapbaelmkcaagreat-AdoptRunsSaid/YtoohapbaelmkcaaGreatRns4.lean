/- What the row of this folder leans on, part 4: the walks of the functions and the laws of what they compute; no condition. -/
import Derived.Test.YtoohapbaelmkcaaGreatRns3
set_option linter.unusedVariables false
set_option linter.unusedSimpArgs false
section
set_option maxRecDepth 100000
namespace Go.Proofs.YtoohapbaelmkcaaGreat
open Go Go.Hb Go.RowKit
section
variable {k : Ctx} {w : World} {z r c d : Nat} {p q : Option Addr} {L : List Api_entry} {A : List Node_one} {K : Int → List Int} {R : List Ref01_one} {id : Int}
theorem zRemove_spec (hD : DistN L) (hl : L.length ≤ 2000000) (hO : Own k w [ralL z r L]) :
  Tri Tryz.prog 80 #[.pointer (some ⟨z, 0, none⟩), .int .i64 id] k w fun v m => v = .int .i64 (removeE L id).1 ∧ m = [ralL z r (removeE L id).2] := by
 refine enter (args := [.pointer (some ⟨z, 0, none⟩), .int .i64 id]) Tryz.func80 rfl rfl ?_
 obtain ⟨q, d, hgq, hlq, hO⟩ := ralL_open hO
 refine K0 (K1 (V2 rfl rfl rfl (K2 (K3 (K0 (K1 (V1 rfl rfl rfl (V1 rfl rfl rfl (CK [.b z, .p q] hO rfl (fun k' hx hr hO' => zFindB_spec hD hgq hl (hO := hO')) ?_)))))))))
 rintro _ _ w ⟨rfl, rfl⟩ hO
 simp only [List.cons_append, List.nil_append] at hO
 refine V2 rfl rfl rfl (K2 (K3 (K0 (K0 (K1 (V1 rfl rfl rfl ?_))))))
 refine Z0 (fun h2_1 => ?_) (fun h2_1 => ?_)
 ·refine K2 (K3 (L8 (K0 (K1 (V2 rfl rfl rfl (K2 (K3 (K6 (K9 ?_)))))))))
  exact fin1 rfl rfl ⟨_, ⟨by rw [removeE, if_pos h2_1], rfl⟩, by rw [removeE, if_pos h2_1]; exact (ralL_shut (hO.ks [.b z, .p q])).one⟩
 ·refine K2 (K3 (L9 (K5 (K3 (K0 ?_)))))
  obtain ⟨i, hi, hi2⟩ : ∃ i : Nat, findE L id = i ∧ i < L.length := by
   rcases findE_cases L id with h | ⟨i, h1, h2, _⟩
   ·omega
   ·exact ⟨i, h1, h2⟩
  have er : removeE L id = (0, cutE L i) := by rw [removeE, if_neg h2_1, hi]; rfl
  rw [er]
  refine K1 (V1 rfl rfl rfl (V1 rfl rfl rfl (CK [.b z, .p q] hO (by rw [hi]; rfl) (fun k' hx hr hO' => zremove_spec hi2 hgq hlq hl (hO := hO')) ?_)))
  rintro _ _ w ⟨rfl, rfl⟩ hO
  simp only [List.cons_append, List.nil_append] at hO
  refine K2 (K3 (K0 (K1 (V2 rfl rfl rfl (K2 (K3 (K6 ?_)))))))
  exact fin1 rfl rfl ⟨_, ⟨rfl, rfl⟩, hO.one⟩
set_option maxHeartbeats 2000000 in
theorem zPut_spec {tk : Api_token} {i : Int} (t : Two A K R) (hD : DistN L) (hl : L.length ≤ 2000000) (hO : Own k w [rarL r R, ralL z r L]) :
  Tri Tryz.prog 88 #[.pointer (some ⟨z, 0, none⟩), .int .i64 i, .int .i64 id, .agg (Api_token.cells tk).toArray] k w fun v m => v = .int .i64 (putE A L i ⟨id, tk⟩).1 ∧ m = [rarL r R, ralL z r (putE A L i ⟨id, tk⟩).2] := by
 refine enter (args := [.pointer (some ⟨z, 0, none⟩), .int .i64 i, .int .i64 id, .agg (Api_token.cells tk).toArray]) Tryz.func88 rfl rfl ?_
 obtain ⟨p, c, F, hg, hF, hO⟩ := rarL_open hO
 obtain ⟨q, d, hgq, hlq, hO⟩ := ralL_open (hO.ks [.o z])
 have hfc := freshF_cases A L id
 refine K0 (K1 (s_box (vs := [.int .i64 tk.Kind, .string tk.Name, .string tk.Data, .string tk.System, .int .i64 tk.Has, .bool tk.Quirks, .int .i32 tk.Char, .bool tk.Self, .slice tk.AttrsP tk.Attrs.length tk.AttrsC]) hO rfl rfl rfl (by rfl) fun b7 w hO => ?_))
 refine V2 rfl rfl rfl (K2 (K3 (K0 (K0 (K1 (V1 rfl rfl rfl (V3 rfl rfl rfl rfl (l_y rfl rfl (y_fldb (o' := 0) rfl) (l_y rfl rfl (D5 hO rfl) ?_)))))))))
 refine V1 rfl rfl rfl (CK [.b r, .p p] hO rfl (fun k' hx hr hO' => zEl_spec t.sim hg (hO := hO')) ?_)
 rintro _ _ w ⟨rfl, rfl⟩ hO
 simp only [List.cons_append, List.nil_append] at hO
 refine l_y rfl rfl (y_not rfl rfl) (K2 (K3 ?_))
 refine c_split rfl (fun hc16 => ?_) (fun hc16 => ?_)
 ·simp only [Bool.not_eq_true', Bool.not_eq_false'] at hc16
  refine K0 (K1 (V2 rfl rfl rfl (K2 (K3 (K6 (K9 ?_))))))
  have hel : elB A id = false := by simpa using hc16
  have e : freshF A L id = 6 := by rw [freshF, if_pos hel]
  have er : putE A L i ⟨id, tk⟩ = (6, L) := by rw [putE, e]; exact if_pos (by decide)
  rw [er]
  exact fin1 rfl rfl ⟨_, ⟨rfl, rfl⟩, ((rarL_shut hF ((ralL_shut (hO.ks [.b z, .p q])).ks [.b r, .p p, .f])).ks [.o r, .o z]).two⟩
 ·simp only [Bool.not_eq_true', Bool.not_eq_false'] at hc16
  refine K5 (K3 (K0 (K0 (K1 (V1 rfl rfl rfl (V1 rfl rfl rfl (CK [.b z, .p q] hO rfl (fun k' hx hr hO' => zFindB_spec hD hgq hl (hO := hO')) ?_)))))))
  rintro _ _ w ⟨rfl, rfl⟩ hO
  simp only [List.cons_append, List.nil_append] at hO
  refine Z0 (fun h3_3 => ?_) (fun h3_3 => ?_)
  ·refine V1 rfl rfl rfl ?_
   repeat refine M2 ?_
   refine l_y rfl rfl (y_pick_t rfl rfl) (V1 rfl rfl rfl ?_)
   repeat refine M2 ?_
   refine l_y rfl rfl (y_pick_t rfl rfl) (K2 (K3 (L8 (K0 (K1 (V2 rfl rfl rfl (K2 (K3 (K6 (K9 ?_))))))))))
   have hel : elB A id = true := by simpa using hc16
   have er : putE A L i ⟨id, tk⟩ = (1, L) := by
    rcases hfc with ⟨_, h⟩ | ⟨h1, _, h2⟩ | ⟨h1, _, h2⟩
    ·rw [hel] at h; cases h
    ·rw [putE, if_pos (show freshF A L id ≠ 0 by omega)]; exact congrArg (·, L) h1
    ·rw [putE, if_neg (show ¬ freshF A L id ≠ 0 by omega), if_pos (by omega)]
   rw [er]
   exact fin1 rfl rfl ⟨_, ⟨rfl, rfl⟩, ((rarL_shut hF ((ralL_shut (hO.ks [.b z, .p q])).ks [.b r, .p p, .f])).ks [.o r, .o z]).two⟩
  ·refine V1 rfl rfl rfl (V1 rfl rfl rfl ?_)
   refine Z0 (fun h3_6 => ?_) (fun h3_6 => ?_)
   ·refine l_y rfl rfl (y_pick_f rfl rfl) (V1 rfl rfl rfl ?_)
    repeat refine M2 ?_
    refine l_y rfl rfl (y_pick_t rfl rfl) (K2 (K3 (L8 (K0 (K1 (V2 rfl rfl rfl (K2 (K3 (K6 (K9 ?_))))))))))
    have hel : elB A id = true := by simpa using hc16
    have er : putE A L i ⟨id, tk⟩ = (1, L) := by
     rcases hfc with ⟨_, h⟩ | ⟨h1, _, h2⟩ | ⟨h1, _, h2⟩
     ·rw [hel] at h; cases h
     ·rw [putE, if_pos (show freshF A L id ≠ 0 by omega)]; exact congrArg (·, L) h1
     ·rw [putE, if_neg (show ¬ freshF A L id ≠ 0 by omega), if_pos (by omega)]
    rw [er]
    exact fin1 rfl rfl ⟨_, ⟨rfl, rfl⟩, ((rarL_shut hF ((ralL_shut (hO.ks [.b z, .p q])).ks [.b r, .p p, .f])).ks [.o r, .o z]).two⟩
   ·refine l_y rfl rfl (y_pick_f rfl rfl) (V1 rfl rfl rfl (V1 rfl rfl rfl (V1 rfl rfl rfl (V3 rfl rfl rfl rfl (l_y rfl rfl (y_fldb (o' := 1) rfl) (l_y rfl rfl (D5 hO rfl) ?_))))))
    refine l_y rfl rfl (y_lenL rfl) ?_
    refine Z0 (fun h3_15 => ?_) (fun h3_15 => ?_)
    ·refine l_y rfl rfl (y_pick_f rfl rfl) (K2 (K3 (L8 (K0 (K1 (V2 rfl rfl rfl (K2 (K3 (K6 (K9 ?_))))))))))
     have hel : elB A id = true := by simpa using hc16
     have er : putE A L i ⟨id, tk⟩ = (1, L) := by
      rcases hfc with ⟨_, h⟩ | ⟨h1, _, h2⟩ | ⟨h1, _, h2⟩
      ·rw [hel] at h; cases h
      ·rw [putE, if_pos (show freshF A L id ≠ 0 by omega)]; exact congrArg (·, L) h1
      ·rw [putE, if_neg (show ¬ freshF A L id ≠ 0 by omega), if_pos (by omega)]
     rw [er]
     exact fin1 rfl rfl ⟨_, ⟨rfl, rfl⟩, ((rarL_shut hF ((ralL_shut (hO.ks [.b z, .p q])).ks [.b r, .p p, .f])).ks [.o r, .o z]).two⟩
    ·refine l_y rfl rfl (y_pick_f rfl rfl) (K2 (K3 (L9 (K5 (K3 (K0 ?_))))))
     have hel : elB A id = true := by simpa using hc16
     have hf0 : freshF A L id = 0 := by
      rcases hfc with ⟨_, h⟩ | ⟨h1, _, h2⟩ | ⟨h1, _, h2⟩
      ·rw [hel] at h; cases h
      ·omega
      ·exact h1
     obtain ⟨j, rfl⟩ : ∃ j : Nat, i = j := ⟨i.toNat, by omega⟩
     have er : putE A L j ⟨id, tk⟩ = (0, L.take j ++ [⟨id, tk⟩] ++ L.drop j) := by rw [putE, if_neg (show ¬ freshF A L id ≠ 0 by omega), if_neg (by omega)]; rfl
     rw [er]
     refine K1 (s_lit0 Api_entry.cells hO (fun b34 w hO => ?_))
     refine V1 rfl rfl rfl (V3 rfl rfl rfl rfl (l_y rfl rfl (y_fldb (o' := 1) rfl) (l_y rfl rfl (D5 hO rfl) ?_)))
     refine V1 rfl rfl rfl ?_
     have hv0 := sls_sli (p := q) hO
     refine l_y rfl rfl (y_hd j rfl rfl) ?_
     have hv := sli_hd (cuts_holds w) hv0 j d (by omega) (by omega)
     have hti : (L.take j).length = j := by simp; omega
     refine s_app0 (ys := L.take j) hO rfl rfl (src_sli hv) (fun p41 c41 w hO gs41 => ?_)
     refine V2 rfl rfl rfl (K2 (K3 (K0 (K1 (V1 rfl rfl rfl (V1 rfl rfl rfl (l_y rfl rfl (D8 (cs := [.int .i64 tk.Kind, .string tk.Name, .string tk.Data, .string tk.System, .int .i64 tk.Has, .bool tk.Quirks, .int .i32 tk.Char, .bool tk.Self, .slice tk.AttrsP tk.Attrs.length tk.AttrsC]) hO rfl) ?_)))))))
     refine s_build (parts := [(0, .tmp 43), (1, .tmp 44)]) (cs := [.int .i64 id, .int .i64 tk.Kind, .string tk.Name, .string tk.Data, .string tk.System, .int .i64 tk.Has, .bool tk.Quirks, .int .i32 tk.Char, .bool tk.Self, .slice tk.AttrsP tk.Attrs.length tk.AttrsC]) rfl rfl (fun a ha => partsOf_sound ha _ _ rfl) (by kernel_rfl) (s_lit (parts := [(0, .tmp 45)]) (enc := Api_entry.cells) [⟨id, ⟨tk.Kind, tk.Name, tk.Data, tk.System, tk.Has, tk.Quirks, tk.Char, tk.Self, tk.AttrsP, tk.Attrs, tk.AttrsC⟩⟩] [.agg [.int .i64 id, .int .i64 tk.Kind, .string tk.Name, .string tk.Data, .string tk.System, .int .i64 tk.Has, .bool tk.Quirks, .int .i32 tk.Char, .bool tk.Self, .slice tk.AttrsP tk.Attrs.length tk.AttrsC].toArray] hO rfl (fun b46 w hO => ?_))
     refine s_app (xs := L.take j) (ys := [(⟨id, tk⟩ : Api_entry)]) hO rfl rfl (src_own hO) (fun p47 c47 w hO gs47 => ?_) rfl (by simp; omega) (by simp; omega)
     refine V2 rfl rfl rfl (K2 (K3 (K0 (K1 (V1 rfl rfl rfl (V1 rfl rfl rfl (V1 rfl rfl rfl (V3 rfl rfl rfl rfl (l_y rfl rfl (y_fldb (o' := 1) rfl) (l_y rfl rfl (D5 hO rfl) ?_))))))))))
     refine V1 rfl rfl rfl (l_y rfl rfl (y_tl j rfl rfl) ?_)
     have hv1 := sls_sli (p := q) hO
     have hv2 := sli_tl (cuts_holds w) hv1 j (by omega)
     have htd : (L.drop j).length = L.length - j := by simp
     refine s_app (xs := L.take j ++ [(⟨id, tk⟩ : Api_entry)]) (ys := L.drop j) hO rfl rfl (src_sli hv2) (fun p56 c56 w hO gs56 => ?_) rfl (by simp; omega) (by simp; omega)
     refine V3 rfl rfl rfl rfl (l_y rfl rfl (y_fldb (o' := 1) rfl) (Y1 hO rfl rfl (fun w hO => ?_)))
     simp only [List.set_cons_zero, List.set_cons_succ] at hO
     refine K2 (K3 (K0 (K1 (V2 rfl rfl rfl (K2 (K3 (K6 ?_)))))))
     exact fin1 rfl rfl ⟨_, ⟨rfl, rfl⟩, ((rarL_shut hF ((ralL_shut (hO.ks [.b z, .p p56]) rfl).ks [.b r, .p p, .f])).ks [.o r, .o z]).two⟩
set_option maxHeartbeats 2000000 in
theorem zSwap_spec {old : Int} (t : Two A K R) (hD : DistN L) (hl : L.length ≤ 2000000) (hO : Own k w [rarL r R, ralL z r L]) :
  Tri Tryz.prog 112 #[.pointer (some ⟨z, 0, none⟩), .int .i64 old, .int .i64 id] k w fun v m => v = .int .i64 (swapE A L old id).1 ∧ m = [rarL r R, ralL z r (swapE A L old id).2] := by
 refine enter (args := [.pointer (some ⟨z, 0, none⟩), .int .i64 old, .int .i64 id]) Tryz.func112 rfl rfl ?_
 obtain ⟨p, c, F, hg, hF, hO⟩ := rarL_open hO
 obtain ⟨q, d, hgq, hlq, hO⟩ := ralL_open (hO.ks [.o z])
 have hfc := freshF_cases A L id
 refine K0 (K1 (V2 rfl rfl rfl (K2 (K3 (K0 (K1 (V1 rfl rfl rfl (V1 rfl rfl rfl (CK [.b z, .p q] hO rfl (fun k' hx hr hO' => zFindB_spec hD hgq hl (hO := hO')) ?_)))))))))
 rintro _ _ w ⟨rfl, rfl⟩ hO
 simp only [List.cons_append, List.nil_append] at hO
 refine V2 rfl rfl rfl (K2 (K3 (K0 (K0 (K1 (V1 rfl rfl rfl (V3 rfl rfl rfl rfl (l_y rfl rfl (y_fldb (o' := 0) rfl) (l_y rfl rfl (D5 hO rfl) ?_)))))))))
 refine V1 rfl rfl rfl (CK [.b r, .p p] hO rfl (fun k' hx hr hO' => zEl_spec t.sim hg (hO := hO')) ?_)
 rintro _ _ w ⟨rfl, rfl⟩ hO
 simp only [List.cons_append, List.nil_append] at hO
 refine l_y rfl rfl (y_not rfl rfl) (V1 rfl rfl rfl ?_)
 refine l_split 18 rfl (fun hg18 => ?_) (fun hg18 => ?_)
 ·simp only [Bool.not_eq_true', Bool.not_eq_false'] at hg18
  repeat refine M2 ?_
  refine l_y rfl rfl (y_pick_t rfl rfl) (K2 (K3 (L8 (K0 (K1 (V2 rfl rfl rfl (K2 (K3 (K6 (K9 ?_))))))))))
  have er : swapE A L old id = (6, L) := by
   rw [swapE, if_pos]
   first | exact .inr h2_9 | (left; simpa using hg18) | (left; simp_all; done)
  rw [er]
  exact fin1 rfl rfl ⟨_, ⟨rfl, rfl⟩, ((rarL_shut hF ((ralL_shut (hO.ks [.b z, .p q])).ks [.b r, .p p, .f])).ks [.o r, .o z]).two⟩
 ·simp only [Bool.not_eq_true', Bool.not_eq_false'] at hg18
  refine V1 rfl rfl rfl ?_
  refine Z0 (fun h2_9 => ?_) (fun h2_9 => ?_)
  ·refine l_y rfl rfl (y_pick_f rfl rfl) (K2 (K3 (L8 (K0 (K1 (V2 rfl rfl rfl (K2 (K3 (K6 (K9 ?_))))))))))
   have er : swapE A L old id = (6, L) := by
    rw [swapE, if_pos]
    first | exact .inr h2_9 | (left; simpa using hg18) | (left; simp_all; done)
   rw [er]
   exact fin1 rfl rfl ⟨_, ⟨rfl, rfl⟩, ((rarL_shut hF ((ralL_shut (hO.ks [.b z, .p q])).ks [.b r, .p p, .f])).ks [.o r, .o z]).two⟩
  ·refine l_y rfl rfl (y_pick_f rfl rfl) (K2 (K3 (L9 (K5 (K3 (K0 (K0 ?_)))))))
   have hel : elB A id = true := by simpa using hg18
   refine K1 (V1 rfl rfl rfl (V1 rfl rfl rfl (CK [.b z, .p q] hO rfl (fun k' hx hr hO' => zFindB_spec hD hgq hl (hO := hO')) ?_)))
   rintro _ _ w ⟨rfl, rfl⟩ hO
   simp only [List.cons_append, List.nil_append] at hO
   refine Z0 (fun h4_3 => ?_) (fun h4_3 => ?_)
   ·refine K2 (K3 (L8 (K0 (K1 (V2 rfl rfl rfl (K2 (K3 (K6 (K9 ?_)))))))))
    have h1 : freshF A L id = 1 := by
     rcases hfc with ⟨_, h⟩ | ⟨h1, _, h2⟩ | ⟨h1, _, h2⟩
     ·rw [hel] at h; cases h
     ·exact h1
     ·omega
    have er : swapE A L old id = (1, L) := by rw [swapE, if_neg (by simp [hel]; omega), if_neg (by omega)]
    rw [er]
    exact fin1 rfl rfl ⟨_, ⟨rfl, rfl⟩, ((rarL_shut hF ((ralL_shut (hO.ks [.b z, .p q])).ks [.b r, .p p, .f])).ks [.o r, .o z]).two⟩
   ·refine K2 (K3 (L9 (K5 (K3 (K0 ?_)))))
    have h0 : freshF A L id = 0 := by
     rcases hfc with ⟨_, h⟩ | ⟨h1, _, h2⟩ | ⟨h1, _, h2⟩
     ·rw [hel] at h; cases h
     ·omega
     ·exact h1
    obtain ⟨i, hi, hfl⟩ : ∃ i : Nat, findE L old = i ∧ i < L.length := by
     rcases findE_cases L old with h | ⟨i, h1, h2, _⟩
     ·omega
     ·exact ⟨i, h1, h2⟩
    have er : swapE A L old id = (0, L.set i { at_ L i with Node := id }) := by rw [swapE, if_neg (by simp [hel]; omega), if_pos h0, hi]; rfl
    rw [er]
    refine K1 (V1 rfl rfl rfl (s_lit0 Api_entry.cells hO (fun b27 w hO => ?_)))
    refine V1 rfl rfl rfl (V3 rfl rfl rfl rfl (l_y rfl rfl (y_fldb (o' := 1) rfl) (l_y rfl rfl (D5 hO rfl) ?_)))
    refine s_app0 (ys := L) hO rfl rfl (src_own hO) (fun p32 c32 w hO gs32 => ?_)
    refine V3 rfl rfl rfl rfl (l_y rfl rfl (y_fldb (o' := 1) rfl) (Y1 hO rfl rfl (fun w hO => ?_)))
    simp only [List.set_cons_zero, List.set_cons_succ] at hO
    refine K2 (K3 (K0 (K1 (V1 rfl rfl rfl (V3 rfl rfl rfl rfl (l_y rfl rfl (y_fldb (o' := 1) rfl) (l_y rfl rfl (D5 hO rfl) ?_)))))))
    refine l_y (v := .int .i64 (i : Int)) rfl rfl (by rw [← hi]; exact y_move rfl) (V1 rfl rfl rfl (l_y rfl rfl (y_idx rfl rfl) ?_))
    refine l_y rfl rfl (y_fld (j' := 0) rfl) ?_
    refine s_e1 (x0 := 0) hO rfl rfl (fun w hO => ?_)
    refine K2 (K3 (K0 (K1 (V2 rfl rfl rfl (K2 (K3 (K6 ?_)))))))
    have hls : L.length = (L.set i { at_ L i with Node := id }).length := by simp
    rw [hls] at hO
    exact fin1 rfl rfl ⟨_, ⟨rfl, rfl⟩, ((rarL_shut hF ((ralL_shut (hO.ks [.b z, .p p32]) rfl).ks [.b r, .p p, .f])).ks [.o r, .o z]).two⟩
set_option maxHeartbeats 2000000 in
theorem zLast_spec {nm : ByteArray} (t : Two A K R) (hl : L.length ≤ 2000000) (hb : ∀ e ∈ L, e.Node ≠ -1 → hasB A e.Node = true) (hO : Own k w [rarL r R, ralL z r L]) :
    Tri Tryz.prog 79 #[.pointer (some ⟨z, 0, none⟩), .string nm] k w fun v m => v = .int .i64 (lastE A L nm (bk L L.length)) ∧ m = [rarL r R, ralL z r L] := by
  refine enter (args := [.pointer (some ⟨z, 0, none⟩), .string nm]) Tryz.func79 rfl rfl ?_
  obtain ⟨p, c, F, hg, hF, hO⟩ := rarL_open hO
  obtain ⟨q, d, hgq, hlq, hO⟩ := ralL_open (hO.ks [.o z])
  have hlen := t.sim.len
  refine K0 (K1 (V2 rfl rfl rfl (K2 (K3 (K0 (K0 (K1 (V1 rfl rfl rfl (V3 rfl rfl rfl rfl (l_y rfl rfl (y_fldb (o' := 1) rfl) (l_y rfl rfl (D5 hO rfl) ?_)))))))))))
  refine l_y rfl rfl (y_lenL rfl) (l_y rfl rfl (D4) ?_)
  refine V2 rfl rfl rfl (K2 (K3 (K4 (c_rounds (X := Nat × List Nat) (fun x => [(0, .pointer (some ⟨z, 0, none⟩)), (1, .string nm), (4, .int .i64 0), (5, .int .i64 ((x.1 : Int) - 1))]) (fun x w => Own k w [rB r p R.length c, rS p c R, zB z r q L.length d, aI q d L, pool F] ∧ (bk L L.length = x.2 ++ bk L x.1) ∧ (x.1 ≤ L.length) ∧ (∀ i ∈ x.2, ¬ ((nodeA A (at_ L i).Node).Space = 0 ∧ (nodeA A (at_ L i).Node).Name = nm))) (fun x => x.1) ((L.length, [])) ⟨rfl, rfl, rfl, rfl, trivial⟩ ⟨hO.only [.b r, .p p, .b z, .p q, .f], rfl, Nat.le_refl _, (fun i hi => by cases hi)⟩ ?_))))
  rintro x w m hm ⟨hO, hx, hle, hsk⟩
  refine K0 (K0 (K1 (V1 rfl rfl rfl ?_)))
  refine Z0 (fun h2_1 => ?_) (fun h2_1 => ?_)
  · obtain ⟨y, hy⟩ : ∃ y, x.1 = y + 1 := ⟨x.1 - 1, by omega⟩
    have ey : (x.1 : Int) - 1 = (y : Int) := by omega
    rw [ey]
    refine V1 rfl rfl rfl (V1 rfl rfl rfl (V3 rfl rfl rfl rfl (l_y rfl rfl (y_fldb (o' := 1) rfl) (l_y rfl rfl (D5 hO rfl) ?_))))
    refine V1 rfl rfl rfl (l_y rfl rfl (y_idx rfl rfl) ?_)
    refine l_y rfl rfl (y_fld (j' := 0) rfl) ?_
    refine l_y rfl rfl (y_e1 (x0 := 0) hO rfl) ?_
    refine Z1 (fun h2_11 => ?_) (fun h2_11 => ?_)
    · refine l_y rfl rfl (y_pick_t rfl rfl) (K2 (K3 (L8 (K5 (K3 (K0 (K4 (K0 ?_))))))))
      have hs : bk L x.1 = y :: bk L y := by rw [hy, bk, if_neg (show ¬ (at_ L y).Node = -1 from h2_11)]
      have hby : hasB A (at_ L ((y : Nat) : Int).toNat).Node = true := hb _ (at_mem (xs := L) (i := y) (by omega)) h2_11
      have hx0 := hasB_true hby
      have sx := t.sim.atB hby
      have n1 : (nodeA A (at_ L y).Node).Space = (at_ R (at_ L ((y : Nat) : Int).toNat).Node.toNat).Space := by first | exact sx.space | exact sx.space.symm
      have n2 : (nodeA A (at_ L y).Node).Name = (at_ R (at_ L ((y : Nat) : Int).toNat).Node.toNat).Name := by first | exact sx.name | exact sx.name.symm
      refine da_region (by intro c a d v w h; cases d <;> exact h) ?_
      have hO := hO.drew
      refine da_phase _ [18] (SO.ks [.b z, .b r, .p q, .p p] hO) ?_
      refine dx_u 0 (by kernel_rfl) rfl rfl rfl (fun w => y_move rfl) ?_
      refine dx_u 1 (by kernel_rfl) rfl rfl rfl (fun w => y_nilCheck rfl rfl) ?_
      refine dx_u 2 (by kernel_rfl) rfl rfl rfl (fun w => y_fldb (o' := 0) rfl) ?_
      refine dx_y 3 (by kernel_rfl) rfl rfl rfl (fun w ⟨m, hw⟩ => D5 hw rfl) ?_
      refine dx_u 4 (by kernel_rfl) rfl rfl rfl (fun w => y_nilCheck rfl rfl) ?_
      refine dx_u 5 (by kernel_rfl) rfl rfl rfl (fun w => y_fldb (o' := 0) rfl) ?_
      refine dx_y 6 (by kernel_rfl) rfl rfl rfl (fun w ⟨m, hw⟩ => D5 hw rfl) ?_
      refine dx_u 7 (by kernel_rfl) rfl rfl rfl (fun w => y_move rfl) ?_
      refine dx_u 8 (by kernel_rfl) rfl rfl rfl (fun w => y_nilCheck rfl rfl) ?_
      refine dx_u 9 (by kernel_rfl) rfl rfl rfl (fun w => y_fldb (o' := 1) rfl) ?_
      refine dx_y 10 (by kernel_rfl) rfl rfl rfl (fun w ⟨m, hw⟩ => D5 hw rfl) ?_
      refine dx_u 11 (by kernel_rfl) rfl rfl rfl (fun w => y_move rfl) ?_
      refine dx_u 12 (by kernel_rfl) rfl rfl rfl (fun w => y_idx rfl rfl) ?_
      refine dx_u 13 (by kernel_rfl) rfl rfl rfl (fun w => y_fld (j' := 0) rfl) ?_
      refine dx_y 14 (by kernel_rfl) rfl rfl rfl (fun w ⟨m, hw⟩ => y_e1 (x0 := 0) hw rfl) ?_
      refine dx_u 15 (by kernel_rfl) rfl rfl rfl (fun w => y_idx rfl rfl) ?_
      refine dx_y 16 (by kernel_rfl) rfl rfl rfl (fun w ⟨m, hw⟩ => y_eA (x0 := 0) (cs := [.int .i64 (at_ R ((at_ L ((y : Int) : Int).toNat).Node : Int).toNat).Kind, .int .i64 (at_ R ((at_ L ((y : Int) : Int).toNat).Node : Int).toNat).Space, .string (at_ R ((at_ L ((y : Int) : Int).toNat).Node : Int).toNat).Name, .slice (at_ R ((at_ L ((y : Int) : Int).toNat).Node : Int).toNat).AttrsP (at_ R ((at_ L ((y : Int) : Int).toNat).Node : Int).toNat).Attrs.length (at_ R ((at_ L ((y : Int) : Int).toNat).Node : Int).toNat).AttrsC, .string (at_ R ((at_ L ((y : Int) : Int).toNat).Node : Int).toNat).Data, .string (at_ R ((at_ L ((y : Int) : Int).toNat).Node : Int).toNat).System, .int .i64 (at_ R ((at_ L ((y : Int) : Int).toNat).Node : Int).toNat).Inner, .int .i64 (at_ R ((at_ L ((y : Int) : Int).toNat).Node : Int).toNat).Host, .int .i64 (at_ R ((at_ L ((y : Int) : Int).toNat).Node : Int).toNat).Up, .slice (at_ R ((at_ L ((y : Int) : Int).toNat).Node : Int).toNat).KidsP (at_ R ((at_ L ((y : Int) : Int).toNat).Node : Int).toNat).Kids.length (at_ R ((at_ L ((y : Int) : Int).toNat).Node : Int).toNat).KidsC]) hw rfl) ?_
      refine dx_only 17 (by kernel_rfl) rfl rfl ?_
      refine s_alloc (vs := [.int .i64 0, .int .i64 0, .string ⟨#[]⟩, .slice none 0 0, .string ⟨#[]⟩, .string ⟨#[]⟩, .int .i64 0, .int .i64 0, .int .i64 0, .slice none 0 0]) hO rfl rfl rfl fun b6 w hO => ?_
      refine o_done (⟨SO.ks [.b z, .b r, .p q, .p p] hO, ?_⟩)
      refine dx_close 18 (by kernel_rfl) rfl rfl ?_
      refine Y3 hO rfl rfl (fun w hO => ?_)
      refine o_done (da_end (by kernel_rfl) ?_)
      refine K3 (K0 (K1 (l_y rfl rfl (y_fldb (o' := 1) rfl) (l_y rfl rfl (D5 hO rfl) ?_))))
      refine Z0 (fun h5_2 => ?_) (fun h5_2 => ?_)
      · refine V1 rfl rfl rfl (l_y rfl rfl (y_fldb (o' := 2) rfl) (l_y rfl rfl (D5 hO rfl) ?_))
        refine V1 rfl rfl rfl ?_
        refine Z2 (fun h5_7 => ?_) (fun h5_7 => ?_)
        · refine l_y rfl rfl (y_pick_t rfl rfl) (K2 (K3 (L8 (K0 (K1 (V1 rfl rfl rfl (V3 rfl rfl rfl rfl (l_y rfl rfl (y_fldb (o' := 1) rfl) (l_y rfl rfl (D5 hO rfl) ?_)))))))))
          refine V1 rfl rfl rfl (l_y rfl rfl (y_idx rfl rfl) ?_)
          refine l_y rfl rfl (y_fld (j' := 0) rfl) ?_
          refine l_y rfl rfl (y_e1 (x0 := 0) hO rfl) ?_
          refine V2 rfl rfl rfl (K2 (K3 (K6 (L0 (K9 (K9 (L0 (K9 ?_))))))))
          have hla : lastE A L nm (bk L L.length) = (at_ L y).Node := by
            rw [hx, lastE_skip hsk, hs, lastE, if_pos ⟨by rw [n1]; exact h5_2, by rw [n2]; exact h5_7⟩]
          rw [hla]
          exact fin1 rfl rfl ⟨_, ⟨rfl, rfl⟩, ((rarL_shut hF ((ralL_shut (hO.ks [.b z, .p q])).ks [.b r, .p p, .f])).ks [.o r, .o z]).two⟩
        · refine l_y rfl rfl (y_pick_t rfl rfl) (K2 (K3 (L9 (K5 (K8 (K3 (K1 (V1 rfl rfl rfl (l_y rfl rfl (D4) ?_)))))))))
          refine V2 rfl rfl rfl (K2 ?_)
          have hno : ¬ ((nodeA A (at_ L y).Node).Space = 0 ∧ (nodeA A (at_ L y).Node).Name = nm) := by
            rw [n1, n2]
            first | (intro h; exact h5_7 h.2) | (intro h; exact h5_2 h.1)
          exact q_next ((y, x.2 ++ [y])) ⟨rfl, rfl, rfl, rfl, trivial⟩ ⟨hO.only [.b r, .p p, .b z, .p q, .f], (by dsimp only; rw [hx, hs]; simp), (by dsimp only; omega), (fun i hi => (List.mem_append.1 hi).elim (hsk i) (fun h => by rw [List.mem_singleton.1 h]; exact hno))⟩ (by dsimp only; omega)
      · refine V1 rfl rfl rfl ?_
        repeat refine M2 ?_
        refine l_y rfl rfl (y_pick_f rfl rfl) (K2 (K3 (L9 (K5 (K8 (K3 (K1 (V1 rfl rfl rfl (l_y rfl rfl (D4) ?_)))))))))
        refine V2 rfl rfl rfl (K2 ?_)
        have hno : ¬ ((nodeA A (at_ L y).Node).Space = 0 ∧ (nodeA A (at_ L y).Node).Name = nm) := by
          rw [n1, n2]
          first | (intro h; exact h5_7 h.2) | (intro h; exact h5_2 h.1)
        exact q_next ((y, x.2 ++ [y])) ⟨rfl, rfl, rfl, rfl, trivial⟩ ⟨hO.only [.b r, .p p, .b z, .p q, .f], (by dsimp only; rw [hx, hs]; simp), (by dsimp only; omega), (fun i hi => (List.mem_append.1 hi).elim (hsk i) (fun h => by rw [List.mem_singleton.1 h]; exact hno))⟩ (by dsimp only; omega)
    · refine l_y rfl rfl (y_pick_t rfl rfl) (K2 (K3 (L9 (K7 (L1 (L1 (L2 (K3 (K0 (K1 (V2 rfl rfl rfl (K2 (K3 (K6 ?_))))))))))))))
      have he : bk L x.1 = [] := by
        first
          | rw [hy, bk, if_pos (show (at_ L y).Node = -1 from h2_11)]
          | rw [show x.1 = 0 by omega, bk]
      have hla : lastE A L nm (bk L L.length) = -1 := by rw [hx, he, lastE_skip hsk, lastE]
      rw [hla]
      exact fin1 rfl rfl ⟨_, ⟨rfl, rfl⟩, ((rarL_shut hF ((ralL_shut (hO.ks [.b z, .p q])).ks [.b r, .p p, .f])).ks [.o r, .o z]).two⟩
  · refine V1 rfl rfl rfl ?_
    repeat refine M2 ?_
    refine l_y rfl rfl (y_pick_f rfl rfl) (K2 (K3 (L9 (K7 (L1 (L1 (L2 (K3 (K0 (K1 (V2 rfl rfl rfl (K2 (K3 (K6 ?_))))))))))))))
    have he : bk L x.1 = [] := by
      first
        | rw [hy, bk, if_pos (show (at_ L y).Node = -1 from h2_11)]
        | rw [show x.1 = 0 by omega, bk]
    have hla : lastE A L nm (bk L L.length) = -1 := by rw [hx, he, lastE_skip hsk, lastE]
    rw [hla]
    exact fin1 rfl rfl ⟨_, ⟨rfl, rfl⟩, ((rarL_shut hF ((ralL_shut (hO.ks [.b z, .p q])).ks [.b r, .p p, .f])).ks [.o r, .o z]).two⟩
end
end Go.Proofs.YtoohapbaelmkcaaGreat
end
section
set_option maxRecDepth 100000
namespace Go.Proofs.YtoohapbaelmkcaaGreat
open Go Go.Hb Go.RowKit
structure PlI (k : Ctx) (A : List Node_one) (L : List Api_entry) : Prop where
 pw : L.Pairwise fun x y => x.Node = y.Node → y.Node = -1
 ent : ∀ e ∈ L, e.Node = -1 ∨ elB A e.Node = true
 eok : ∀ e ∈ L, EOk k e
section
variable {k : Ctx} {w : World} {A : List Node_one} {L M : List Api_entry} {e : Api_entry} {id : Int}
theorem PlI.dist (h : PlI k A L) : DistN L := fun i j hij hj he => by
 have h1 := List.pairwise_iff_getElem.1 h.pw i j (by omega) hj hij
 have e1 : at_ L i = L[i]'(by omega) := at_eq (List.getElem?_eq_getElem (by omega))
 have e2 : at_ L j = L[j] := at_eq (List.getElem?_eq_getElem hj)
 rw [e1, e2] at he
 rw [e2]
 exact h1 he
theorem PlI.sub (h : PlI k A L) (hs : M.Sublist L) : PlI k A M := ⟨h.pw.sublist hs, fun e he => h.ent e (hs.subset he), fun e he => h.eok e (hs.subset he)⟩
/-- one of a new node is put among them -/
theorem PlI.put {u v : List Api_entry} (h : PlI k A (u ++ v)) (he : elB A e.Node = true) (hf : ∀ y ∈ u ++ v, y.Node ≠ e.Node) (ho : EOk k e) : PlI k A (u ++ [e] ++ v) := by
  obtain ⟨h1, h2, h3⟩ := List.pairwise_append.1 h.pw
  have hm : ∀ y ∈ u ++ [e] ++ v, y ∈ u ++ v ∨ y = e := fun y hy => by
    simp only [List.mem_append, List.mem_singleton] at hy ⊢
    rcases hy with (hy | hy) | hy
    · exact .inl (.inl hy)
    · exact .inr hy
    · exact .inl (.inr hy)
  refine ⟨List.pairwise_append.2 ⟨List.pairwise_append.2 ⟨h1, List.pairwise_singleton _ _, fun x hx y hy hxy => ?_⟩, h2, fun x hx y hy hxy => ?_⟩, fun y hy => ?_, fun y hy => ?_⟩
  · rw [List.mem_singleton.1 hy] at hxy
    exact absurd hxy (hf x (List.mem_append_left _ hx))
  · rcases List.mem_append.1 hx with hx | hx
    · exact h3 x hx y hy hxy
    · rw [List.mem_singleton.1 hx] at hxy
      exact absurd hxy.symm (hf y (List.mem_append_right _ hy))
  · rcases hm y hy with hy | rfl
    · exact h.ent y hy
    · exact .inr he
  · rcases hm y hy with hy | rfl
    · exact h.eok y hy
    · exact ho
theorem cutE_sub {i : Nat} : (cutE L i).Sublist L := by
 have h := List.Sublist.append (List.Sublist.refl (L.take i)) (List.drop_sublist_drop_left L (Nat.le_succ i))
 rwa [List.take_append_drop] at h
theorem fresh_ne (h0 : freshF A L id = 0) : elB A id = true ∧ ∀ y ∈ L, y.Node ≠ id := by
 rcases freshF_cases A L id with ⟨h, _⟩ | ⟨h, _⟩ | ⟨_, h1, h2⟩
 ·omega
 ·omega
 ·refine ⟨h1, fun y hy e => ?_⟩
  have hid := hasB_true (elB_has h1)
  rw [findE, if_neg (by omega)] at h2
  rcases idx_cases (fun y : Api_entry => decide (y.Node = id)) L with ⟨_, h3⟩ | ⟨i, h3, _⟩
  ·obtain ⟨j, hj, rfl⟩ := mem_at hy
   exact absurd (h3 j hj) (by simp [e])
  ·omega
theorem PlI.push (h : PlI k A L) (h0 : freshF A L e.Node = 0) (ho : EOk k e) : PlI k A (pushE A L e) ∧ (pushE A L e).length ≤ L.length + 1 := by
 obtain ⟨he, hf⟩ := fresh_ne h0
 obtain ⟨M, hM⟩ : ∃ M, M = if 3 ≤ (pk A L e (bk L L.length)).1 then cutE L (pk A L e (bk L L.length)).2 else L := ⟨_, rfl⟩
 have hP : pushE A L e = M ++ [e] := by rw [pushE, ← hM]
 have hs : M.Sublist L := by rw [hM]; split; exact cutE_sub; exact List.Sublist.refl _
 rw [hP]
 have h1 := (h.sub hs)
 have h2 : PlI k A (M ++ ([] : List Api_entry)) := by rw [List.append_nil]; exact h1
 have h3 := h2.put he (fun y hy => hf y (hs.subset (by simpa using hy))) ho
 rw [List.append_nil] at h3
 exact ⟨h3, by have := hs.length_le; simp; omega⟩
theorem PlI.putE {i : Int} (h : PlI k A L) (ho : EOk k e) : PlI k A (putE A L i e).2 ∧ (putE A L i e).2.length ≤ L.length + 1 := by
 unfold Proofs.YtoohapbaelmkcaaGreat.putE
 split
 ·exact ⟨h, by simp⟩
 ·next h0 =>
  split
  ·exact ⟨h, by simp⟩
  ·next hi =>
   obtain ⟨he, hf⟩ := fresh_ne (A := A) (L := L) (id := e.Node) (by simpa using h0)
   refine ⟨PlI.put (by rw [List.take_append_drop]; exact h) he (fun y hy => hf y (by rw [List.take_append_drop] at hy; exact hy)) ho, ?_⟩
   simp only [List.length_append, List.length_take, List.length_drop, List.length_singleton]; omega
theorem PlI.swapE {old : Int} (h : PlI k A L) : PlI k A (swapE A L old id).2 ∧ (swapE A L old id).2.length ≤ L.length + 1 := by
  unfold Proofs.YtoohapbaelmkcaaGreat.swapE
  split
  · exact ⟨h, by simp⟩
  · next h9 =>
    split
    · next h0 =>
      refine ⟨?_, by simp⟩
      obtain ⟨he, hf⟩ := fresh_ne h0
      obtain ⟨i, hi, hfl⟩ : ∃ i : Nat, findE L old = i ∧ i < L.length := by
        rcases findE_cases L old with h | ⟨i, h1, h2, _⟩
        · omega
        · exact ⟨i, h1, h2⟩
      have e1 : L.set i { at_ L i with Node := id } = L.take i ++ [{ at_ L i with Node := id }] ++ L.drop (i + 1) := by
        rw [List.set_eq_take_append_cons_drop, if_pos hfl]; simp
      show PlI k A (L.set (findE L old).toNat _)
      rw [hi]
      show PlI k A (L.set i { at_ L i with Node := id })
      rw [e1]
      exact PlI.put (h.sub cutE_sub) he (fun y hy => hf y (cutE_sub.subset hy)) ((h.eok (at_ L i) (at_mem hfl)))
    · exact ⟨h, by simp⟩
end
end Go.Proofs.YtoohapbaelmkcaaGreat
end
section
set_option maxRecDepth 100000
namespace Go.Proofs.YtoohapbaelmkcaaGreat
open Go Go.Hb Go.RowKit
abbrev agB (g a s l : Nat) (nm : ByteArray) (fo : Bool) (errs mark : Int) : HP := blk g 82 [.pointer (some ⟨a, 0, none⟩), .pointer (some ⟨s, 0, none⟩), .pointer (some ⟨l, 0, none⟩), .string nm, .bool fo, .int .i64 errs, .int .i64 mark]
def forgetF (L : List Api_entry) (mark id : Int) : List Api_entry × Int :=
 if findE L id < 0 then (L, mark) else if (removeE L id).1 = 0 ∧ findE L id < mark then ((removeE L id).2, mark - 1) else ((removeE L id).2, mark)
def furthF (A : List Node_one) (st : List Int) (f : Int) : Int := ((st.drop (findI st f + 1).toNat).find? (specA A)).getD (-1)
section
variable {k : Ctx} {w : World} {g a s l : Nat} {nm : ByteArray} {fo : Bool} {errs mark : Int} {A : List Node_one} {st : List Int} {L : List Api_entry}
set_option maxHeartbeats 1000000 in
theorem forget_spec {id : Int} (hm : -1000000000 ≤ mark ∧ mark ≤ 1000000000) (hl : L.length ≤ 2000000) (hO : Own k w [agB g a s l nm fo errs mark, actL l a L]) :
    Tri Tryz.prog 77 #[.pointer (some ⟨g, 0, none⟩), .int .i64 id] k w fun v m => m = [agB g a s l nm fo errs (forgetF L mark id).2, actL l a (forgetF L mark id).1] := by
  refine enter (args := [.pointer (some ⟨g, 0, none⟩), .int .i64 id]) Tryz.func77 rfl rfl (K0 (K1 (V1 rfl rfl rfl (V3 rfl rfl rfl rfl (l_y rfl rfl (y_fldb (o' := 2) rfl) (l_y rfl rfl (D5 hO rfl) ?_))))))
  refine V1 rfl rfl rfl (CK [.o l] hO rfl (fun k' hx hr hO' => aFind_spec hl (hO := hO')) ?_)
  rintro _ _ w ⟨rfl, rfl⟩ hO
  simp only [List.cons_append, List.nil_append] at hO
  refine V2 rfl rfl rfl (K2 (K3 (K0 (K1 (V1 rfl rfl rfl ?_)))))
  refine Z0 (fun h1_1 => ?_) (fun h1_1 => ?_)
  · refine V1 rfl rfl rfl (V1 rfl rfl rfl (V3 rfl rfl rfl rfl (l_y rfl rfl (y_fldb (o' := 2) rfl) (l_y rfl rfl (D5 hO rfl) ?_))))
    refine V1 rfl rfl rfl (CK [.o l] hO rfl (fun k' hx hr hO' => aRemove_spec (id := id) hl (hO := hO')) ?_)
    rintro _ _ w ⟨rfl, rfl⟩ hO
    simp only [List.cons_append, List.nil_append] at hO
    refine Z0 (fun h1_9 => ?_) (fun h1_9 => ?_)
    · refine l_y rfl rfl (y_pick_t rfl rfl) (V1 rfl rfl rfl (V1 rfl rfl rfl (V1 rfl rfl rfl (V3 rfl rfl rfl rfl (l_y rfl rfl (y_fldb (o' := 6) rfl) (l_y rfl rfl (D5 hO rfl) ?_))))))
      refine Z0 (fun h1_17 => ?_) (fun h1_17 => ?_)
      · refine l_y rfl rfl (y_pick_t rfl rfl) (K2 (K3 (L8 (K1 (V1 rfl rfl rfl (V3 rfl rfl rfl rfl (l_y rfl rfl (y_fldb (o' := 6) rfl) (l_y rfl rfl (D5 hO rfl) ?_))))))))
        refine l_y rfl rfl (D4) ?_
        refine V3 rfl rfl rfl rfl (l_y rfl rfl (y_fldb (o' := 6) rfl) (Y1 hO rfl rfl (fun w hO => ?_)))
        simp only [List.set_cons_zero, List.set_cons_succ] at hO
        refine K2 ?_
        first
          | (have e : forgetF L mark id = ((removeE L id).2, mark - 1) := by rw [forgetF, if_neg (by omega), if_pos ⟨by omega, by omega⟩]
             rw [e]; exact fin0 rfl ⟨_, rfl, (hO.ks [.b g, .o l])⟩)
          | (have e : forgetF L mark id = (L, mark) := by rw [forgetF, if_pos (by omega)]
             rw [e]; exact fin0 rfl ⟨_, rfl, (hO.ks [.b g, .o l])⟩)
          | (have e : forgetF L mark id = ((removeE L id).2, mark) := by rw [forgetF, if_neg (by omega), if_neg (by omega)]
             rw [e]; exact fin0 rfl ⟨_, rfl, (hO.ks [.b g, .o l])⟩)
      · refine l_y rfl rfl (y_pick_t rfl rfl) (K2 (K3 (L9 (K5 ?_))))
        first
          | (have e : forgetF L mark id = ((removeE L id).2, mark - 1) := by rw [forgetF, if_neg (by omega), if_pos ⟨by omega, by omega⟩]
             rw [e]; exact fin0 rfl ⟨_, rfl, (hO.ks [.b g, .o l])⟩)
          | (have e : forgetF L mark id = (L, mark) := by rw [forgetF, if_pos (by omega)]
             rw [e]; exact fin0 rfl ⟨_, rfl, (hO.ks [.b g, .o l])⟩)
          | (have e : forgetF L mark id = ((removeE L id).2, mark) := by rw [forgetF, if_neg (by omega), if_neg (by omega)]
             rw [e]; exact fin0 rfl ⟨_, rfl, (hO.ks [.b g, .o l])⟩)
    · refine l_y rfl rfl (y_pick_t rfl rfl) (V1 rfl rfl rfl ?_)
      repeat refine M2 ?_
      refine l_y rfl rfl (y_pick_f rfl rfl) (K2 (K3 (L9 (K5 ?_))))
      first
        | (have e : forgetF L mark id = ((removeE L id).2, mark - 1) := by rw [forgetF, if_neg (by omega), if_pos ⟨by omega, by omega⟩]
           rw [e]; exact fin0 rfl ⟨_, rfl, (hO.ks [.b g, .o l])⟩)
        | (have e : forgetF L mark id = (L, mark) := by rw [forgetF, if_pos (by omega)]
           rw [e]; exact fin0 rfl ⟨_, rfl, (hO.ks [.b g, .o l])⟩)
        | (have e : forgetF L mark id = ((removeE L id).2, mark) := by rw [forgetF, if_neg (by omega), if_neg (by omega)]
           rw [e]; exact fin0 rfl ⟨_, rfl, (hO.ks [.b g, .o l])⟩)
  · refine V1 rfl rfl rfl ?_
    repeat refine M2 ?_
    refine l_y rfl rfl (y_pick_f rfl rfl) (V1 rfl rfl rfl ?_)
    repeat refine M2 ?_
    refine l_y rfl rfl (y_pick_f rfl rfl) (K2 (K3 (L9 (K5 ?_))))
    first
      | (have e : forgetF L mark id = ((removeE L id).2, mark - 1) := by rw [forgetF, if_neg (by omega), if_pos ⟨by omega, by omega⟩]
         rw [e]; exact fin0 rfl ⟨_, rfl, (hO.ks [.b g, .o l])⟩)
      | (have e : forgetF L mark id = (L, mark) := by rw [forgetF, if_pos (by omega)]
         rw [e]; exact fin0 rfl ⟨_, rfl, (hO.ks [.b g, .o l])⟩)
      | (have e : forgetF L mark id = ((removeE L id).2, mark) := by rw [forgetF, if_neg (by omega), if_neg (by omega)]
         rw [e]; exact fin0 rfl ⟨_, rfl, (hO.ks [.b g, .o l])⟩)
set_option maxHeartbeats 1000000 in
theorem furthest_spec {f : Int} (hn : 0 < A.length) (ha : AttrsOk A) (hl : st.length ≤ 1000000) (hO : Own k w [agB g a s l nm fo errs mark, arenaL a A, stkL s a st]) :
  Tri Tryz.prog 76 #[.pointer (some ⟨g, 0, none⟩), .int .i64 f] k w fun v m => v = .int .i64 (furthF A st f) ∧ m = [agB g a s l nm fo errs mark, arenaL a A, stkL s a st] := by
 refine enter (args := [.pointer (some ⟨g, 0, none⟩), .int .i64 f]) Tryz.func76 rfl rfl ?_
 have hfb := @findI_lt st f
 have hfg := @findI_ge st f
 refine K0 (K1 (V2 rfl rfl rfl (K2 (K3 (K0 (K0 (K1 (V1 rfl rfl rfl (V3 rfl rfl rfl rfl (l_y rfl rfl (y_fldb (o' := 1) rfl) (l_y rfl rfl (D5 hO rfl) ?_)))))))))))
 refine V1 rfl rfl rfl (CK [.o s] hO rfl (fun k' hx hr hO' => sFindC_spec hl (hO := hO')) ?_)
 rintro _ _ w ⟨rfl, rfl⟩ hO
 simp only [List.cons_append, List.nil_append] at hO
 refine l_y rfl rfl (D4) ?_
 refine V2 rfl rfl rfl (K2 (K3 (K4 (c_rounds (X := Int) (fun i => [(0, .pointer (some ⟨g, 0, none⟩)), (4, .int .i64 0), (5, .int .i64 i)]) (fun i w => Own k w [agB g a s l nm fo errs mark, arenaL a A, stkL s a st] ∧ (0 ≤ i ∧ i ≤ st.length) ∧ (furthF A st f = ((st.drop i.toNat).find? (specA A)).getD (-1))) (fun i => st.length - i.toNat) (findI st f + 1) ⟨rfl, rfl, rfl, trivial⟩ ⟨hO.only [.b g, .o a, .o s], by omega, rfl⟩ ?_))))
 rintro i w m hm ⟨hO, hi, hf⟩
 refine K0 (K0 (K1 (V1 rfl rfl rfl (V1 rfl rfl rfl (V3 rfl rfl rfl rfl (l_y rfl rfl (y_fldb (o' := 1) rfl) (l_y rfl rfl (D5 hO rfl) ?_)))))))
 refine CK [.o s] hO rfl (fun k' hx hr hO' => sLenC_spec (hO := hO')) ?_
 rintro _ _ w ⟨rfl, rfl⟩ hO
 simp only [List.cons_append, List.nil_append] at hO
 refine Z0 (fun h2_6 => ?_) (fun h2_6 => ?_)
 ·refine K2 (K3 (L8 (K5 (K3 (K0 (K4 (K0 ?_)))))))
  have hdr : st.drop i.toNat = at_ st i.toNat :: st.drop (i.toNat + 1) := Go.Hb.drop_at (by omega)
  have hat : atI st i = at_ st i.toNat := by rw [atI, if_neg (by omega)]
  refine da_region (by intro c a d v w h; cases d <;> exact h) ?_
  have hO := hO.drew
  refine da_phase _ [10] (SO.ks [.b g] hO) ?_
  refine dx_u 0 (by kernel_rfl) rfl rfl rfl (fun w => y_move rfl) ?_
  refine dx_u 1 (by kernel_rfl) rfl rfl rfl (fun w => y_nilCheck rfl rfl) ?_
  refine dx_u 2 (by kernel_rfl) rfl rfl rfl (fun w => y_fldb (o' := 1) rfl) ?_
  refine dx_y 3 (by kernel_rfl) rfl rfl rfl (fun w ⟨m, hw⟩ => D5 hw rfl) ?_
  refine dx_u 4 (by kernel_rfl) rfl rfl rfl (fun w => y_move rfl) ?_
  refine dx_u 5 (by kernel_rfl) rfl rfl rfl (fun w => y_nilCheck rfl rfl) ?_
  refine dx_u 6 (by kernel_rfl) rfl rfl rfl (fun w => y_fldb (o' := 1) rfl) ?_
  refine dx_y 7 (by kernel_rfl) rfl rfl rfl (fun w ⟨m, hw⟩ => D5 hw rfl) ?_
  refine dx_u 8 (by kernel_rfl) rfl rfl rfl (fun w => y_move rfl) ?_
  refine dx_only 9 (by kernel_rfl) rfl rfl ?_
  refine CK [.o s] hO rfl (fun k' hx hr hO' => sAtC_spec hl (hO := hO')) ?_
  rintro _ _ w ⟨rfl, rfl⟩ hO
  simp only [List.cons_append, List.nil_append] at hO
  refine o_done (⟨SO.ks [.b g] hO, ?_⟩)
  refine dx_close 10 (by kernel_rfl) rfl rfl ?_
  refine CK [.o a, .o s] hO rfl (fun k' hx hr hO' => sSpecial_spec hn ha (hO := hO')) ?_
  rintro _ _ w ⟨rfl, rfl⟩ hO
  simp only [List.cons_append, List.nil_append] at hO
  rw [hat]
  refine o_done (da_end (by kernel_rfl) ?_)
  refine K3 ?_
  refine c_split rfl (fun hc32 => ?_) (fun hc32 => ?_)
  ·refine K0 (K1 (V1 rfl rfl rfl (V3 rfl rfl rfl rfl (l_y rfl rfl (y_fldb (o' := 1) rfl) (l_y rfl rfl (D5 hO rfl) ?_)))))
   refine V1 rfl rfl rfl (CK [.o s] hO rfl (fun k' hx hr hO' => sAtC_spec hl (hO := hO')) ?_)
   rintro _ _ w ⟨rfl, rfl⟩ hO
   simp only [List.cons_append, List.nil_append] at hO
   rw [hat]
   refine V2 rfl rfl rfl (K2 (K3 (K6 (L0 (K9 (K9 (L0 (K9 ?_))))))))
   exact fin1 rfl rfl ⟨_, ⟨by rw [hf, hdr, List.find?_cons, hc32]; rfl, rfl⟩, hO.ks [.b g, .o a, .o s]⟩
  ·refine K5 (K8 (K3 (K1 (V1 rfl rfl rfl (l_y rfl rfl (D4) ?_)))))
   refine V2 rfl rfl rfl (K2 ?_)
   exact q_next (i + 1) ⟨rfl, rfl, rfl, trivial⟩ ⟨hO.only [.b g, .o a, .o s], by omega, by rw [hf, hdr, List.find?_cons, hc32]; rw [show (i + 1).toNat = i.toNat + 1 by omega]⟩ (by omega)
 ·refine K2 (K3 (L9 (K7 (L1 (L1 (L2 (K3 (K0 (K1 (V2 rfl rfl rfl (K2 (K3 (K6 ?_)))))))))))))
  exact fin1 rfl rfl ⟨_, ⟨by rw [hf, List.drop_eq_nil_of_le (by omega)]; rfl, rfl⟩, hO.ks [.b g, .o a, .o s]⟩
end
end Go.Proofs.YtoohapbaelmkcaaGreat
end
section
set_option maxRecDepth 100000
namespace Go.Proofs.YtoohapbaelmkcaaGreat
open Go Go.Hb Go.RowKit
noncomputable def befF (A : List Node_one) (want before : Int) : Int := if before ≠ -1 ∧ (nodeA A before).Parent ≠ want then -1 else before
noncomputable def putF (A : List Node_one) (s : Api_spot) (id : Int) : List Node_one := (linkL (unlinkL A id).2 s.Parent id (befF (unlinkL A id).2 s.Parent s.Before)).2
section
variable {A B : List Node_one} {K : Int → List Int} {s : Api_spot} {id : Int} {nm : ByteArray} {q : Option Addr} {d : Nat}
theorem putF_len : (putF A s id).length = A.length := by rw [putF, linkL_len, unlinkL_len]
theorem putF_core (t : Tree A K) {y : Int} (hy : 0 ≤ y) : coreN (at_ (putF A s id) y.toNat) = coreN (at_ A y.toNat) :=
 (linkL_core (t.unlinkS id) hy).trans (unlink_core t id y hy)
theorem putF_tree (t : Tree A K) : ∃ K', Tree (putF A s id) K' := ⟨_, (t.unlinkS id).linkS _ _ _⟩
theorem Tree.el (t : Tree A K) (nm : ByteArray) (q : Option Addr) (d : Nat) : ∃ K', Tree (elementL A 0 nm [] q d).2.2 K' := by
  rcases el_form A 0 nm q d with ⟨e, _, h⟩ | ⟨_, _, _, _, ⟨ht, h⟩ | ⟨ht, h⟩⟩ <;> rw [h]
  · exact ⟨K, t⟩
  · have t1 := t.add (elementN q d 0 nm []) (Nat.zero_le _)
    have t2 := t1.add fragmentN (Nat.zero_le _)
    have i1 : InA (A ++ [blankN (elementN q d 0 nm [])]) (A.length : Int) := inA_new.2 (.inr rfl)
    have id2 : InA (A ++ [blankN (elementN q d 0 nm [])] ++ [blankN fragmentN]) (A.length : Int) := inA_new.2 (.inl i1)
    have if2 : InA (A ++ [blankN (elementN q d 0 nm [])] ++ [blankN fragmentN]) ((A ++ [blankN (elementN q d 0 nm [])]).length : Int) := inA_new.2 (.inr rfl)
    have e1 : at_ (A ++ [blankN (elementN q d 0 nm [])] ++ [blankN fragmentN]) ((A.length : Int)).toNat = blankN (elementN q d 0 nm []) := by rw [at_old i1, at_new]
    have e2 : at_ (A ++ [blankN (elementN q d 0 nm [])] ++ [blankN fragmentN]) (((A ++ [blankN (elementN q d 0 nm [])]).length : Int)).toNat = blankN fragmentN := at_new
    have hl1 : (A ++ [blankN (elementN q d 0 nm [])]).length = A.length + 1 := by simp
    exact ⟨_, t2.hosted id2 if2 (by rw [nodeA, e2]; rfl) (by rw [e2]; rfl) (fun hA => by
      have hA := (anc_ne (by omega) (by omega)).1 hA
      have : nextUp (A ++ [blankN (elementN q d 0 nm [])] ++ [blankN fragmentN]) (A.length : Int) = -1 := by rw [nextUp, e1]; rfl
      rw [this] at hA
      have := anc_none hA
      omega)⟩
  · exact ⟨_, t.add _ (Nat.zero_le _)⟩
structure AI (A : List Node_one) : Prop where
 tree : ∃ K, Tree A K
 pos : 0 < A.length
 wi : WI A
theorem AI.attrs (h : AI A) : AttrsOk A := by obtain ⟨K, t⟩ := h.tree; exact t.attrs
theorem AI.new : AI [docD] := ⟨⟨_, Tree.new⟩, by decide, WI.new⟩
theorem AI.put (h : AI A) (s : Api_spot) (id : Int) : AI (putF A s id) := by
 obtain ⟨K, t⟩ := h.tree
 exact ⟨putF_tree t, by rw [putF_len]; exact h.pos, h.wi.core putF_len fun y hy => putF_core t hy⟩
/-- B holds what A held -/
structure Keeps (A B : List Node_one) : Prop where
 len : A.length ≤ B.length
 el : ∀ x : Int, elB A x = true → elB B x = true ∧ (nodeA B x).Name = (nodeA A x).Name
theorem Keeps.refl : Keeps A A := ⟨Nat.le_refl _, fun x h => ⟨h, rfl⟩⟩
theorem Keeps.trans {C : List Node_one} (h : Keeps A B) (g : Keeps B C) : Keeps A C := ⟨Nat.le_trans h.len g.len, fun x hx => by
  have h1 := h.el x hx
  have h2 := g.el x h1.1
  exact ⟨h2.1, h2.2.trans h1.2⟩⟩
theorem AI.keeps (h : AI A) (s : Api_spot) (id : Int) : Keeps A (putF A s id) := by
 obtain ⟨K, t⟩ := h.tree
 refine ⟨by rw [putF_len]; exact Nat.le_refl _, fun x hx => ?_⟩
 have hb := hasB_true (elB_has hx)
 exact ⟨by rw [elB_core putF_len (fun y hy => putF_core t hy)]; exact hx, core_name (putF_core t (by omega))⟩
theorem InA.keeps {x : Int} (h : InA A x) (g : Keeps A B) : InA B x := ⟨h.1, by have := h.2; have := g.len; omega⟩
structure ElOk (A : List Node_one) (nm : ByteArray) (q : Option Addr) (d : Nat) : Prop where
 id : (elementL A 0 nm [] q d).1 = A.length
 ok : (elementL A 0 nm [] q d).2.1 = 0
 ai : AI (elementL A 0 nm [] q d).2.2
 el : elB (elementL A 0 nm [] q d).2.2 (A.length : Int) = true
 name : (nodeA (elementL A 0 nm [] q d).2.2 (A.length : Int)).Name = nm
 lt : A.length < (elementL A 0 nm [] q d).2.2.length
 le : (elementL A 0 nm [] q d).2.2.length ≤ A.length + 2
 keeps : Keeps A (elementL A 0 nm [] q d).2.2
theorem AI.el (h : AI A) (hl : A.length ≤ 32766) (hs : nm.size ≤ 1048576) (q : Option Addr) (d : Nat) : ElOk A nm q d := by
  have h0 : (elementL A 0 nm [] q d).2.1 = 0 := by
    have h2 : longB (nm :: attrTexts []) = false := by simp [longB, attrTexts]; omega
    unfold elementL
    rw [if_neg (by omega), if_neg (by simp), if_neg (fun h1 => by have := h1.2; omega), if_neg (by rw [h2]; simp), if_neg (by omega)]
    split <;> rfl
  rcases el_form A 0 nm q d with ⟨e, he, h1⟩ | ⟨_, _, hid, _, hf⟩
  · rw [h1] at h0; exact absurd h0 he
  have hlt : A.length < (elementL A 0 nm [] q d).2.2.length := by
    rcases hf with ⟨_, h1⟩ | ⟨_, h1⟩ <;> rw [h1]
    · simp only [setHost, setInner, List.length_set, List.length_append, List.length_cons, List.length_nil]; omega
    · simp
  have hel : (at_ (elementL A 0 nm [] q d).2.2 A.length).Node.Kind = 1 ∧ (at_ (elementL A 0 nm [] q d).2.2 A.length).Node.Name = nm := by
    rcases hf with ⟨_, h1⟩ | ⟨_, h1⟩ <;> rw [h1]
    · have e1 : (((A.length : Nat) : Int)).toNat = A.length := by omega
      have e2 : (((A ++ [blankN (elementN q d 0 nm [])]).length : Nat) : Int).toNat = A.length + 1 := by simp
      rw [setHost, e2, at_set_ne (by omega), setInner, e1, at_set_eq (by simp), at_app_l (by simp), at_app_new]
      exact ⟨rfl, rfl⟩
    · rw [at_app_new]; exact ⟨rfl, rfl⟩
  obtain ⟨K, t⟩ := h.tree
  refine ⟨hid, h0, ⟨t.el nm q d, by omega, h.wi.el⟩, ?_, ?_, hlt, el_len, ⟨el_lenge, fun x hx => ⟨elB_el hx, ?_⟩⟩⟩
  · rw [elB, hasB, decide_eq_true (by omega), Int.toNat_natCast, hel.1]; rfl
  · rw [nodeA, Int.toNat_natCast]; exact hel.2
  · have hb := hasB_true (elB_has hx)
    rw [nodeA, el_old (by omega)]
end
section
variable {l : List Int} {x f id : Int} {a0 i : Nat} {A B : List Node_one}
theorem findI_of (hn : l.Nodup) (hi : i < l.length) (e : at_ l i = x) : findI l x = i :=
 idx_at hi (decide_eq_true e) fun j hj => decide_eq_false fun e2 => by
  have h1 : l[j]? = some x := by rw [at_get (by omega), e2]
  have h2 : l[i]? = some x := by rw [at_get hi, e]
  have := (List.getElem?_inj (i := j) (by omega) hn).1 (h1.trans h2.symm)
  omega
theorem findI_cases (l : List Int) (x : Int) : (findI l x = -1 ∧ x ∉ l) ∨ ∃ i : Nat, findI l x = i ∧ i < l.length ∧ at_ l i = x := by
  rcases idx_cases (fun y => decide (y = x)) l with ⟨h1, h2⟩ | ⟨i, h1, h2, h3, _⟩
  · exact .inl ⟨h1, fun hx => by
      obtain ⟨j, hj, e⟩ := mem_at hx
      exact absurd (h2 j hj) (by simp [e])⟩
  · exact .inr ⟨i, h1, h2, of_decide_eq_true h3⟩
theorem findI_at (h : findI l x = (i : Int)) : i < l.length ∧ at_ l i = x := by
  rcases findI_cases l x with ⟨h1, _⟩ | ⟨j, h1, h2, h3⟩
  · omega
  · obtain rfl : i = j := by omega
    exact ⟨h2, h3⟩
theorem StkI.keeps (h : StkI A l) (g : Keeps A B) : StkI B l := ⟨fun x hx => (g.el x (h.el x hx)).1, h.nodup⟩
theorem at_cut {j : Nat} (h : j < i) (hi : i ≤ l.length) (m : List Int) : at_ (l.take i ++ m) j = at_ l j := by
 rw [at_app_l (by simp; omega)]
 exact at_eq (by rw [List.getElem?_take_of_lt h, at_get (by omega)])
/-- what stands below a place stays where it is -/
theorem find_remove (hn : l.Nodup) (hf : findI l f = (a0 : Int)) (hi : findI l id = (i : Int)) (h : a0 < i) : findI (removeL l id).2 f = a0 ∧ i ≤ (removeL l id).2.length := by
 obtain ⟨h1, e1⟩ := findI_at hf
 obtain ⟨h2, e2⟩ := findI_at hi
 have e : (removeL l id).2 = l.take i ++ l.drop (i + 1) := by rw [removeL, hi, if_neg (by omega)]; simp
 rw [e]
 refine ⟨findI_of ?_ (by simp; omega) (by rw [at_cut h (by omega)]; exact e1), by simp; omega⟩
 rw [← List.eraseIdx_eq_take_drop_succ]
 exact hn.sublist (List.eraseIdx_sublist ..)
theorem find_swap {tw : Int} (hs : StkI A l) (hf : findI l f = (a0 : Int)) (hi : findI l id = (i : Int)) (h : a0 < i) : findI (swapL A l id tw).2 f = a0 ∧ (swapL A l id tw).2.length = l.length := by
 obtain ⟨h1, e1⟩ := findI_at hf
 obtain ⟨h2, e2⟩ := findI_at hi
 have hs2 := hs.swap (old := id) (id := tw)
 unfold swapL at hs2 ⊢
 split at hs2
 ·next c => rw [if_pos c]; exact ⟨hf, rfl⟩
 ·next c =>
  rw [if_neg c]
  split at hs2
  ·next c2 =>
   rw [if_pos c2]
   dsimp only at hs2 ⊢
   rw [hi] at hs2 ⊢
   have e3 : ((i : Int)).toNat = i := by omega
   rw [e3] at hs2 ⊢
   refine ⟨findI_of hs2.nodup (by simp; omega) ?_, by simp; omega⟩
   rw [List.append_assoc, at_cut h (by omega)]; exact e1
  ·next c2 => rw [if_neg c2]; exact ⟨hf, rfl⟩
end
structure LI (A : List Node_one) (L : List Api_entry) : Prop where
 pw : L.Pairwise fun x y => x.Node = y.Node → y.Node = -1
 ent : ∀ e ∈ L, e.Node = -1 ∨ elB A e.Node = true ∧ (nodeA A e.Node).Name = e.Token.Name ∧ e.Token.Name.size ≤ 1048576
 tok : ∀ e ∈ L, e.Token.Attrs = [] ∧ e.Token.AttrsP = none ∧ e.Token.AttrsC = 0
section
variable {A B : List Node_one} {L M : List Api_entry} {id f mark : Int} {i : Nat} {e : Api_entry}
theorem eok_of (k : Ctx) (h : e.Token.Attrs = [] ∧ e.Token.AttrsP = none ∧ e.Token.AttrsC = 0) : EOk k e := by
 obtain ⟨h1, h2, h3⟩ := h
 refine ⟨?_, by rw [h1]; decide⟩
 rw [h1, h2, h3]
 exact Sli.nil rfl
theorem LI.pl (h : LI A L) (k : Ctx) : PlI k A L := ⟨h.pw, fun e he => (h.ent e he).imp (fun h => h) fun h => h.1, fun e he => eok_of k (h.tok e he)⟩
theorem LI.nil : LI A [] := ⟨List.Pairwise.nil, (fun e he => absurd he (by simp)), (fun e he => absurd he (by simp))⟩
theorem LI.sub (h : LI A L) (hs : M.Sublist L) : LI A M := ⟨h.pw.sublist hs, fun e he => h.ent e (hs.subset he), fun e he => h.tok e (hs.subset he)⟩
theorem LI.keeps (h : LI A L) (g : Keeps A B) : LI B L := ⟨h.pw, fun e he => (h.ent e he).imp (fun h => h) fun h => by
  have := g.el _ h.1
  exact ⟨this.1, this.2.trans h.2.1, h.2.2⟩, h.tok⟩
theorem LI.has (h : LI A L) : ∀ e ∈ L, e.Node ≠ -1 → hasB A e.Node = true := fun e he hn => elB_has (((h.ent e he).resolve_left hn).1)
theorem removeE_sub : (removeE L id).2.Sublist L := by
 unfold removeE
 split
 ·exact List.Sublist.refl _
 ·exact cutE_sub
theorem forget_fst : (forgetF L mark id).1 = (removeE L id).2 := by
 unfold forgetF
 split
 ·next h => rw [removeE, if_pos h]
 ·split <;> rfl
theorem LI.forget (h : LI A L) : LI A (forgetF L mark id).1 := by rw [forget_fst]; exact h.sub removeE_sub
theorem findE_mem : 0 ≤ findE L f ↔ f ≠ -1 ∧ ∃ e ∈ L, e.Node = f := by
 constructor
 ·intro h
  rcases findE_cases L f with h1 | ⟨i, h1, h2, h3, h4⟩
  ·omega
  ·exact ⟨h4, _, at_mem h2, h3⟩
 ·rintro ⟨h1, e, he, h2⟩
  rw [findE, if_neg h1]
  rcases idx_cases (fun y : Api_entry => decide (y.Node = f)) L with ⟨_, h3⟩ | ⟨i, h3, _⟩
  ·obtain ⟨j, hj, e2⟩ := mem_at he
   exact absurd (h3 j hj) (by simp [e2, h2])
  ·omega
theorem findE_at (h : 0 ≤ findE L f) : (findE L f).toNat < L.length ∧ (at_ L (findE L f).toNat).Node = f ∧ f ≠ -1 := by
  rcases findE_cases L f with h1 | ⟨i, h1, h2, h3, h4⟩
  · omega
  · have : (findE L f).toNat = i := by omega
    rw [this]; exact ⟨h2, h3, h4⟩
theorem mem_cut_ne (hi : i < L.length) (he : e ∈ L) (hne : e.Node ≠ (at_ L i).Node) : e ∈ cutE L i := by
  rw [cutE]
  have h1 : L = L.take i ++ at_ L i :: L.drop (i + 1) := by rw [← Go.Hb.drop_at hi, List.take_append_drop]
  rw [h1] at he
  rcases List.mem_append.1 he with h2 | h2
  · exact List.mem_append_left _ h2
  · rcases List.mem_cons.1 h2 with h3 | h3
    · exact absurd (by rw [h3]) hne
    · exact List.mem_append_right _ h3
/-- another's entry stays -/
theorem find_forget (hf : 0 ≤ findE L f) (hne : f ≠ id) : 0 ≤ findE (forgetF L mark id).1 f := by
 rw [forget_fst]
 obtain ⟨h1, e, he, h2⟩ := findE_mem.1 hf
 refine findE_mem.2 ⟨h1, e, ?_, h2⟩
 unfold removeE
 split
 ·exact he
 ·next h => exact mem_cut_ne (findE_at (by omega)).1 he (by rw [(findE_at (by omega)).2.1, h2]; exact hne)
/-- what is forgotten is gone -/
theorem find_gone (h : LI A L) : findE (forgetF L mark id).1 id = -1 := by
  rw [forget_fst]
  rcases findE_cases (removeE L id).2 id with h1 | ⟨j, h1, h2, h3, h4⟩
  · exact h1
  exfalso
  unfold removeE at h1 h2 h3
  split at h1
  · next c => dsimp only at h1; omega
  next c =>
  rw [if_neg c] at h2 h3
  dsimp only at h1 h2 h3
  have hi := findE_at (show 0 ≤ findE L id by omega)
  obtain ⟨i, hie⟩ : ∃ i, i = (findE L id).toNat := ⟨_, rfl⟩
  rw [← hie] at hi h2 h3
  have h5 : L = L.take i ++ at_ L i :: L.drop (i + 1) := by rw [← Go.Hb.drop_at hi.1, List.take_append_drop]
  have hp := h.pw
  rw [h5] at hp
  have hm := at_mem (xs := cutE L i) h2
  generalize at_ (cutE L i) j = z at h3 hm
  rw [cutE] at hm
  rcases List.mem_append.1 hm with hm | hm
  · have := (List.pairwise_append.1 hp).2.2 _ hm (at_ L i) (by simp) (by rw [h3, hi.2.1])
    rw [hi.2.1] at this; exact h4 this
  · have := (List.pairwise_cons.1 (List.pairwise_append.1 hp).2.1).1 _ hm (by rw [h3, hi.2.1])
    rw [h3] at this; exact h4 this
theorem forget_mark (hm : 0 ≤ mark ∧ mark ≤ L.length) : 0 ≤ (forgetF L mark id).2 ∧ (forgetF L mark id).2 ≤ (forgetF L mark id).1.length ∧ (forgetF L mark id).1.length ≤ L.length := by
  have hl : (removeE L id).2.length = if findE L id < 0 then L.length else L.length - 1 := by
    unfold removeE
    split
    · rfl
    · next h =>
      have := (findE_at (show 0 ≤ findE L id by omega)).1
      simp [cutE]; omega
  have h1 : ¬ findE L id < 0 → (removeE L id).1 = 0 := fun h => by rw [removeE, if_neg h]
  rcases findE_cases L id with h3 | ⟨i, h3, h4, _⟩ <;> rw [forget_fst, hl] <;> unfold forgetF
  · rw [if_pos (by omega), if_pos (by omega)]; exact ⟨hm.1, hm.2, Nat.le_refl _⟩
  · have hneg : ¬ findE L id < 0 := by omega
    simp only [if_neg hneg]
    split
    · next h5 => dsimp only; omega
    · next h5 => have := h1 (by omega); dsimp only; omega
theorem LI.swap (h : LI A L) (k : Ctx) {old : Int} (hn : 0 ≤ findE L old → elB A id = true → (nodeA A id).Name = (at_ L (findE L old).toNat).Token.Name) : LI A (swapE A L old id).2 := by
  have hp := (h.pl k).swapE (old := old) (id := id)
  refine ⟨hp.1.pw, ?_, ?_⟩ <;> unfold swapE <;> split
  · exact h.ent
  · next c =>
    split
    · next c2 =>
      have c3 := fresh_ne c2
      have hi := findE_at (show 0 ≤ findE L old by omega)
      intro e he
      rcases List.mem_or_eq_of_mem_set he with he | rfl
      · exact h.ent e he
      · have hg := (h.ent _ (at_mem hi.1)).resolve_left (by rw [hi.2.1]; exact hi.2.2)
        exact .inr ⟨c3.1, hn (by omega) c3.1, hg.2.2⟩
    · exact h.ent
  · exact h.tok
  · next c =>
    split
    · next c2 =>
      have hi := findE_at (show 0 ≤ findE L old by omega)
      intro e he
      rcases List.mem_or_eq_of_mem_set he with he | rfl
      · exact h.tok e he
      · have h9 := h.tok (at_ L (findE L old).toNat) (at_mem hi.1)
        exact h9
    · exact h.tok
theorem swapE_len {old : Int} : (swapE A L old id).2.length = L.length := by unfold swapE; repeat' split <;> simp
theorem find_swapE {old : Int} (hf : 0 ≤ findE L f) (hne : f ≠ old) : 0 ≤ findE (swapE A L old id).2 f := by
  unfold swapE
  split
  · exact hf
  · next c =>
    split
    · have hi := findE_at (show 0 ≤ findE L old by omega)
      obtain ⟨h1, e, he, h2⟩ := findE_mem.1 hf
      refine findE_mem.2 ⟨h1, e, ?_, h2⟩
      obtain ⟨j, hj, e2⟩ := mem_at he
      have hji : j ≠ (findE L old).toNat := fun e3 => by rw [e3] at e2; rw [← e2, hi.2.1] at h2; exact hne h2.symm
      have : at_ (L.set (findE L old).toNat { at_ L (findE L old).toNat with Node := id }) j = e := by rw [at_set_ne (by omega)]; exact e2
      rw [← this]
      exact at_mem (by simpa using hj)
    · exact hf
theorem LI.put (h : LI A L) (k : Ctx) {i : Int} (ht : e.Token.Attrs = [] ∧ e.Token.AttrsP = none ∧ e.Token.AttrsC = 0) (hn : elB A e.Node = true → (nodeA A e.Node).Name = e.Token.Name ∧ e.Token.Name.size ≤ 1048576) : LI A (putE A L i e).2 := by
  have hp := (h.pl k).putE (i := i) (eok_of k ht)
  refine ⟨hp.1.pw, ?_, ?_⟩ <;> unfold putE <;> split
  · exact h.ent
  · next c =>
    split
    · exact h.ent
    · have c3 := fresh_ne (A := A) (L := L) (id := e.Node) (by omega)
      intro y hy
      simp only [List.mem_append, List.mem_singleton] at hy
      rcases hy with (hy | rfl) | hy
      · exact h.ent y (List.mem_of_mem_take hy)
      · exact .inr ⟨c3.1, hn c3.1⟩
      · exact h.ent y (List.mem_of_mem_drop hy)
  · exact h.tok
  · next c =>
    split
    · exact h.tok
    · intro y hy
      simp only [List.mem_append, List.mem_singleton] at hy
      rcases hy with (hy | rfl) | hy
      · exact h.tok y (List.mem_of_mem_take hy)
      · exact ht
      · exact h.tok y (List.mem_of_mem_drop hy)
theorem putE_len {i : Int} : (putE A L i e).2.length ≤ L.length + 1 := by
 unfold putE; repeat' split <;> first | exact Nat.le_succ _ | skip
 dsimp only
 simp only [List.length_append, List.length_take, List.length_drop, List.length_cons, List.length_nil]; omega
end
structure Ag where
 A : List Node_one
 st : List Int
 L : List Api_entry
 mark : Int
 last : Int
 at' : Int
 count : Nat
noncomputable def lmF (x : Ag) (id : Int) : List Api_entry × Int := if 3 < x.count + 1 then forgetF x.L x.mark id else (x.L, x.mark)
def tkF (L : List Api_entry) (id : Int) : Api_token := (at_ L (findE L id).toNat).Token
noncomputable def innS (block : Int) (q : Option Addr) (d : Nat) (x : Ag) : Ag :=
  if findE (lmF x (atI x.st (x.at' - 1))).1 (atI x.st (x.at' - 1)) < 0 then ⟨x.A, (removeL x.st (atI x.st (x.at' - 1))).2, (lmF x (atI x.st (x.at' - 1))).1, (lmF x (atI x.st (x.at' - 1))).2, x.last, x.at' - 1, x.count + 1⟩
  else ⟨putF (elementL x.A 0 (tkF (lmF x (atI x.st (x.at' - 1))).1 (atI x.st (x.at' - 1))).Name [] q d).2.2 ⟨(elementL x.A 0 (tkF (lmF x (atI x.st (x.at' - 1))).1 (atI x.st (x.at' - 1))).Name [] q d).1, -1⟩ x.last,
    (swapL (elementL x.A 0 (tkF (lmF x (atI x.st (x.at' - 1))).1 (atI x.st (x.at' - 1))).Name [] q d).2.2 x.st (atI x.st (x.at' - 1)) (elementL x.A 0 (tkF (lmF x (atI x.st (x.at' - 1))).1 (atI x.st (x.at' - 1))).Name [] q d).1).2,
    (swapE (elementL x.A 0 (tkF (lmF x (atI x.st (x.at' - 1))).1 (atI x.st (x.at' - 1))).Name [] q d).2.2 (lmF x (atI x.st (x.at' - 1))).1 (atI x.st (x.at' - 1)) (elementL x.A 0 (tkF (lmF x (atI x.st (x.at' - 1))).1 (atI x.st (x.at' - 1))).Name [] q d).1).2,
    if x.last = block then findE (lmF x (atI x.st (x.at' - 1))).1 (atI x.st (x.at' - 1)) + 1 else (lmF x (atI x.st (x.at' - 1))).2,
    (elementL x.A 0 (tkF (lmF x (atI x.st (x.at' - 1))).1 (atI x.st (x.at' - 1))).Name [] q d).1, x.at' - 1, x.count + 1⟩
structure AgI (f : Int) (a0 n0 ln : Nat) (x : Ag) : Prop where
 ai : AI x.A
 len : x.A.length ≤ n0 + 2 * min x.count 3
 si : StkI x.A x.st
 li : LI x.A x.L
 pos : findI x.st f = (a0 : Int)
 lt : (a0 : Int) < x.at' ∧ x.at' ≤ x.st.length
 fl : 0 ≤ findE x.L f
 mkk : 0 ≤ x.mark ∧ x.mark ≤ x.L.length
 ll : x.L.length ≤ ln
 lst : InA x.A x.last
section
variable {f block : Int} {a0 n0 ln : Nat} {x : Ag}
theorem AgI.idx (h : AgI f a0 n0 ln x) (hne : atI x.st (x.at' - 1) ≠ f) : ∃ i : Nat, x.at' - 1 = (i : Int) ∧ a0 < i ∧ i < x.st.length ∧ findI x.st (atI x.st (x.at' - 1)) = (i : Int) := by
  have hl := h.lt
  obtain ⟨i, hi⟩ : ∃ i : Nat, x.at' - 1 = (i : Int) := ⟨(x.at' - 1).toNat, by omega⟩
  have hil : i < x.st.length := by omega
  have e : atI x.st (x.at' - 1) = at_ x.st i := by rw [atI, if_neg (by omega), hi, Int.toNat_natCast]
  refine ⟨i, hi, ?_, hil, by rw [e]; exact findI_of h.si.nodup hil rfl⟩
  have hp := findI_at h.pos
  rcases Nat.lt_or_ge a0 i with h1 | h1
  · exact h1
  · have : i = a0 := by omega
    rw [e, this] at hne
    exact absurd hp.2 hne
theorem AgI.lm (h : AgI f a0 n0 ln x) {id : Int} (hne : id ≠ f) : LI x.A (lmF x id).1 ∧ 0 ≤ findE (lmF x id).1 f ∧ (0 ≤ (lmF x id).2 ∧ (lmF x id).2 ≤ (lmF x id).1.length) ∧ (lmF x id).1.length ≤ ln ∧ (3 < x.count + 1 → findE (lmF x id).1 id = -1) := by
 unfold lmF
 split
 ·next c =>
  have hm := forget_mark (id := id) h.mkk
  exact ⟨h.li.forget, find_forget h.fl (fun e => hne e.symm), ⟨hm.1, hm.2.1⟩, Nat.le_trans hm.2.2 h.ll, fun _ => find_gone h.li⟩
 ·next c => exact ⟨h.li, h.fl, h.mkk, h.ll, fun c2 => absurd c2 c⟩
theorem AgI.elm (h : AgI f a0 n0 ln x) (hn0 : n0 + 6 ≤ 32768) (hne : atI x.st (x.at' - 1) ≠ f) (hi : 0 ≤ findE (lmF x (atI x.st (x.at' - 1))).1 (atI x.st (x.at' - 1))) (q : Option Addr) (d : Nat) :
  ElOk x.A (tkF (lmF x (atI x.st (x.at' - 1))).1 (atI x.st (x.at' - 1))).Name q d ∧ x.count < 3 := by
 have hl := h.lm hne
 have hc : x.count < 3 := by
  rcases Nat.lt_or_ge x.count 3 with h1 | h1
  ·exact h1
  ·have := hl.2.2.2.2 (by omega); omega
 have hle := h.len
 have hg := findE_at hi
 have := (hl.1.ent _ (at_mem hg.1)).resolve_left (by rw [hg.2.1]; exact hg.2.2)
 exact ⟨h.ai.el (by omega) this.2.2 q d, hc⟩
theorem AgI.step (h : AgI f a0 n0 ln x) (k : Ctx) (hn0 : n0 + 6 ≤ 32768) (hne : atI x.st (x.at' - 1) ≠ f) (q : Option Addr) (d : Nat) : AgI f a0 n0 ln (innS block q d x) := by
  obtain ⟨i, hi, ha, hil, hfi⟩ := h.idx hne
  have hl := h.lm hne
  unfold innS
  split
  · next c =>
    have hr := find_remove h.si.nodup h.pos hfi ha
    have hle := h.len
    exact ⟨h.ai, by dsimp only; omega, h.si.remove, hl.1, hr.1, by dsimp only; omega, hl.2.1, hl.2.2.1, hl.2.2.2.1, h.lst⟩
  · next c =>
    obtain ⟨g, hc⟩ := h.elm hn0 hne (by omega) q d
    have hgk := g.ai.keeps ⟨(elementL x.A 0 (tkF (lmF x (atI x.st (x.at' - 1))).1 (atI x.st (x.at' - 1))).Name [] q d).1, -1⟩ x.last
    have hs1 := h.si.keeps g.keeps
    have hr := find_swap (tw := (elementL x.A 0 (tkF (lmF x (atI x.st (x.at' - 1))).1 (atI x.st (x.at' - 1))).Name [] q d).1) hs1 h.pos hfi ha
    have hle := h.len
    have hle2 := g.le
    have hli := (hl.1.keeps g.keeps).swap k (old := atI x.st (x.at' - 1)) (id := (elementL x.A 0 (tkF (lmF x (atI x.st (x.at' - 1))).1 (atI x.st (x.at' - 1))).Name [] q d).1) (fun _ _ => by rw [g.id]; exact g.name)
    refine ⟨g.ai.put _ _, ?_, hs1.swap.keeps hgk, hli.keeps hgk, hr.1, ?_, find_swapE hl.2.1 (fun e => hne e.symm), ?_, ?_, ?_⟩
    · dsimp only; rw [putF_len]; omega
    · dsimp only; rw [hr.2]; omega
    · dsimp only
      rw [swapE_len]
      split
      · have := (findE_at (show 0 ≤ findE (lmF x (atI x.st (x.at' - 1))).1 (atI x.st (x.at' - 1)) by omega)).1
        omega
      · exact hl.2.2.1
    · dsimp only; rw [swapE_len]; exact hl.2.2.2.1
    · dsimp only
      rw [g.id]
      have hin : InA (elementL x.A 0 (tkF (lmF x (atI x.st (x.at' - 1))).1 (atI x.st (x.at' - 1))).Name [] q d).2.2 (x.A.length : Int) := ⟨by omega, by have := g.lt; omega⟩
      rw [g.id] at hgk
      exact InA.keeps hin hgk
end
theorem AgI.grow {f block : Int} {a0 n0 ln : Nat} {x : Ag} (h : AgI f a0 n0 ln x) (hn0 : n0 + 6 ≤ 32768) (hne : atI x.st (x.at' - 1) ≠ f) (q : Option Addr) (d : Nat) : Keeps x.A (innS block q d x).A := by
 unfold innS
 split
 ·exact Keeps.refl
 ·next c =>
  obtain ⟨g, hc⟩ := h.elm hn0 hne (by omega) q d
  exact g.keeps.trans (g.ai.keeps _ _)
inductive InnD (f block : Int) : Ag → Ag → Prop
 | stop (x : Ag) (h : atI x.st (x.at' - 1) = f) : InnD f block x x
 | step (x : Ag) (q : Option Addr) (d : Nat) (y : Ag) (h : atI x.st (x.at' - 1) ≠ f) (g : InnD f block (innS block q d x) y) : InnD f block x y
theorem InnD.keep {f block : Int} {a0 n0 ln : Nat} {x y : Ag} (g : InnD f block x y) (k : Ctx) (hn0 : n0 + 6 ≤ 32768) (h : AgI f a0 n0 ln x) : AgI f a0 n0 ln y := by
 induction g with
 | stop x _ => exact h
 | step x q d y hne _ ih => exact ih (h.step k hn0 hne q d)
theorem InnD.keepK {f block : Int} {a0 n0 ln : Nat} {x y : Ag} (g : InnD f block x y) (k : Ctx) (hn0 : n0 + 6 ≤ 32768) (h : AgI f a0 n0 ln x) : Keeps x.A y.A := by
 induction g with
 | stop x _ => exact Keeps.refl
 | step x q d y hne _ ih => exact (h.grow hn0 hne q d).trans (ih (h.step k hn0 hne q d))
end Go.Proofs.YtoohapbaelmkcaaGreat
end
section
set_option maxRecDepth 100000
namespace Go.Proofs.YtoohapbaelmkcaaGreat
open Go Go.Hb Go.RowKit
def allB (A : List Node_one) (ids : List Int) : Bool := ids.all fun x => decide (x = -1) || hasB A x
section
variable {k : Ctx} {w : World} {a s r z c : Nat} {p : Option Addr} {A : List Node_one} {l : List Int}
theorem all_spec {ids : List Int} {tp : Option Addr} {tc : Nat} (hn : 0 < A.length) (hs : Sli (Ro k) (.slice tp ids.length tc) (ids.map (eI .i64))) (hl : ids.length ≤ 1000000) (hO : Own k w [arenaL a A]) :
  Tri Tryz.prog 129 #[.pointer (some ⟨a, 0, none⟩), .slice tp ids.length tc] k w fun v m => v = .bool (allB A ids) ∧ m = [arenaL a A] := by
 refine enter (args := [.pointer (some ⟨a, 0, none⟩), .slice tp ids.length tc]) Tryz.func129 rfl rfl ?_
 have hgs := sli_gs hs
 refine K0 (K1 (V2 rfl rfl rfl (K2 (K3 (K0 (K0 (K1 (V1 rfl rfl rfl (l_y rfl rfl (y_lenL rfl) (V1 rfl rfl rfl (K2 (K3 (K4 (c_rounds (X := Nat) (fun i => [(0, .pointer (some ⟨a, 0, none⟩)), (4, .bool false), (7, .slice tp ids.length tc), (8, .int .i64 ((ids.length : Nat) : Int)), (9, .int .i64 (i : Int))]) (fun i w => Own k w [arenaL a A] ∧ (i ≤ ids.length ∧ allB A (ids.take i) = true)) (fun i => ids.length - i) (0) ⟨rfl, rfl, rfl, rfl, rfl, trivial⟩ ⟨hO.only [.o a], ⟨Nat.zero_le _, rfl⟩⟩ ?_))))))))))))))
 rintro i w m hm ⟨hO, hi⟩
 refine K0 (K1 ?_)
 refine Z0 (fun h2_0 => ?_) (fun h2_0 => ?_)
 ·refine K2 (K3 (K0 (L8 (K5 (K3 (K0 (K4 (K0 (K1 (l_y rfl rfl (y_idx rfl rfl) ?_))))))))))
  refine l_y rfl rfl (y_r1 (x0 := 0) (enc := (eI .i64)) (xs := ids) hO rfl) ?_
  refine V2 rfl rfl rfl (K2 (K3 (K0 (K1 (V1 rfl rfl rfl ?_)))))
  refine Z1 (fun h4_1 => ?_) (fun h4_1 => ?_)
  ·refine V1 rfl rfl rfl (V1 rfl rfl rfl ?_)
   refine Z0 (fun h4_4 => ?_) (fun h4_4 => ?_)
   ·refine V1 rfl rfl rfl ?_
    repeat refine M2 ?_
    refine l_y rfl rfl (y_pick_t rfl rfl) (l_y rfl rfl (y_pick_t rfl rfl) (K2 (K3 (L8 (K0 (K1 (V2 rfl rfl rfl (K2 (K3 (K6 (L0 (K9 (K9 (L0 (K9 ?_)))))))))))))))
    have hlf : allB A ids = false := by
     refine List.all_eq_false.2 ⟨at_ ids i, at_mem (by omega), ?_⟩
     simp only [Int.toNat_natCast] at *
     rw [decide_eq_false h4_1, hasB, decide_eq_false (by omega)]; simp
    exact fin1 rfl rfl ⟨_, ⟨by rw [hlf], rfl⟩, hO.only [.o a]⟩
   ·refine V1 rfl rfl rfl (V1 rfl rfl rfl (V1 rfl rfl rfl (CK [.o a] hO rfl (fun k' hx hr hO' => LenC_spec hn (hO := hO')) ?_)))
    rintro _ _ w ⟨rfl, rfl⟩ hO
    simp only [List.cons_append, List.nil_append] at hO
    refine Z0 (fun h4_9 => ?_) (fun h4_9 => ?_)
    ·refine l_y rfl rfl (y_pick_f rfl rfl) (l_y rfl rfl (y_pick_t rfl rfl) (K2 (K3 (L8 (K0 (K1 (V2 rfl rfl rfl (K2 (K3 (K6 (L0 (K9 (K9 (L0 (K9 ?_)))))))))))))))
     have hlf : allB A ids = false := by
      refine List.all_eq_false.2 ⟨at_ ids i, at_mem (by omega), ?_⟩
      simp only [Int.toNat_natCast] at *
      rw [decide_eq_false h4_1, hasB, decide_eq_false (by omega)]; simp
     exact fin1 rfl rfl ⟨_, ⟨by rw [hlf], rfl⟩, hO.only [.o a]⟩
    ·refine l_y rfl rfl (y_pick_f rfl rfl) (l_y rfl rfl (y_pick_t rfl rfl) (K2 (K3 (L9 (K5 (K8 (K3 (K1 (l_y rfl rfl (D4) ?_)))))))))
     refine V1 rfl rfl rfl (K2 ?_)
     have h9 : allB A (ids.take (i + 1)) = true := by
      have h9 := hi.2
      rw [take_succ_at (by omega)]
      simp only [allB, List.all_append, List.all_cons, List.all_nil, Bool.and_true, Bool.and_eq_true] at h9 ⊢
      refine ⟨h9, ?_⟩
      simp only [Int.toNat_natCast] at *
      by_cases h5 : at_ ids i = -1
      ·rw [decide_eq_true h5]; rfl
      ·rw [hasB, decide_eq_true (show 0 ≤ at_ ids i ∧ at_ ids i < A.length by omega), Bool.or_true]
     exact q_next (i + 1) ⟨rfl, rfl, rfl, rfl, rfl, trivial⟩ ⟨hO.only [.o a], ⟨by omega, h9⟩⟩ (by omega)
  ·refine V1 rfl rfl rfl ?_
   repeat refine M2 ?_
   refine l_y rfl rfl (y_pick_f rfl rfl) (K2 (K3 (L9 (K5 (K8 (K3 (K1 (l_y rfl rfl (D4) ?_))))))))
   refine V1 rfl rfl rfl (K2 ?_)
   have h9 : allB A (ids.take (i + 1)) = true := by
    have h9 := hi.2
    rw [take_succ_at (by omega)]
    simp only [allB, List.all_append, List.all_cons, List.all_nil, Bool.and_true, Bool.and_eq_true] at h9 ⊢
    refine ⟨h9, ?_⟩
    simp only [Int.toNat_natCast] at *
    by_cases h5 : at_ ids i = -1
    ·rw [decide_eq_true h5]; rfl
    ·rw [hasB, decide_eq_true (show 0 ≤ at_ ids i ∧ at_ ids i < A.length by omega), Bool.or_true]
   exact q_next (i + 1) ⟨rfl, rfl, rfl, rfl, rfl, trivial⟩ ⟨hO.only [.o a], ⟨by omega, h9⟩⟩ (by omega)
 ·refine K2 (K3 (K0 (L9 (K7 (L1 (L1 (L2 (K3 (K0 (K1 (V2 rfl rfl rfl (K2 (K3 (K6 ?_))))))))))))))
  have hlt : allB A ids = true := by rw [show ids = ids.take i by rw [List.take_of_length_le (by omega)]]; exact hi.2
  exact fin1 rfl rfl ⟨_, ⟨by rw [hlt], rfl⟩, hO.only [.o a]⟩
end
end Go.Proofs.YtoohapbaelmkcaaGreat
end
section
set_option maxRecDepth 100000
namespace Go.Proofs.YtoohapbaelmkcaaGreat
open Go Go.Hb Go.RowKit
section
variable {k : Ctx} {w : World} {g a s l : Nat} {nm : ByteArray} {fo : Bool} {errs mark : Int} {A : List Node_one} {K : Int → List Int} {st : List Int} {L : List Api_entry}
set_option maxHeartbeats 2000000 in
theorem PutG_spec {want before id : Int} (h : AI A) (hid : InA A id) (hw : InA A want) (hbe : before = -1 ∨ InA A before) (hO : Own k w [arenaL a A]) :
  Tri Tryz.prog 102 #[.pointer (some ⟨a, 0, none⟩), .agg (Api_spot.cells ⟨want, before⟩).toArray, .int .i64 id] k w fun v m => (∃ e, v = .int .i64 e) ∧ m = [arenaL a (putF A ⟨want, before⟩ id)] := by
 refine enter (args := [.pointer (some ⟨a, 0, none⟩), .agg (Api_spot.cells ⟨want, before⟩).toArray, .int .i64 id]) Tryz.func102 rfl rfl ?_
 obtain ⟨K, t⟩ := h.tree
 have hn := h.pos
 have hw0 := hw.1
 have hi0 := hid.1
 have hbb : (decide (before = -1) || hasB A before) = true := by
  rcases hbe with h | h
  ·rw [decide_eq_true h]; rfl
  ·rw [h.b, Bool.or_true]
 have hun := unlinkL_len (A := A) (id := id)
 have t1 := t.unlinkS id
 have hn1 : 0 < (unlinkL A id).2.length := by rw [hun]; exact hn
 obtain ⟨A1, hA1⟩ : ∃ A1, A1 = (unlinkL A id).2 := ⟨_, rfl⟩
 refine K0 (K1 (s_box (vs := [.int .i64 (Api_spot.mk want before).Parent, .int .i64 (Api_spot.mk want before).Before]) hO rfl rfl rfl (by rfl) fun b4 w hO => ?_))
 refine V2 rfl rfl rfl (K2 (K3 (K0 (K4 (K0 (K1 (V1 rfl rfl rfl (CK [.o a] hO rfl (fun k' hx hr hO' => LenC_spec hn (hO := hO')) ?_))))))))
 rintro _ _ w ⟨rfl, rfl⟩ hO
 simp only [List.cons_append, List.nil_append] at hO
 refine N3 (V2 rfl rfl rfl (K2 (K3 (L9 (K0 (K1 (V1 rfl rfl rfl (N3 (V1 rfl rfl rfl (l_y rfl rfl (y_fldb (o' := 0) rfl) (l_y rfl rfl (D5 hO rfl) ?_)))))))))))
 refine N3 (l_y rfl rfl (y_pick_f rfl rfl) (V1 rfl rfl rfl (V1 rfl rfl rfl (V1 rfl rfl rfl (l_y rfl rfl (y_fldb (o' := 0) rfl) (l_y rfl rfl (D5 hO rfl) ?_))))))
 refine l_y rfl rfl (y_fldb (o' := 1) rfl) (l_y rfl rfl (D5 hO rfl) ?_)
 refine s_lit (parts := [(0, .tmp 23), (1, .tmp 25), (2, .tmp 27)]) (enc := (eI .i64)) [id, (Api_spot.mk want before).Parent, (Api_spot.mk want before).Before] [.int .i64 id, .int .i64 (Api_spot.mk want before).Parent, .int .i64 (Api_spot.mk want before).Before] hO rfl (fun b28 w hO => ?_)
 refine CK [.o a] hO rfl (fun k' hx hr hO' => all_spec (ids := [id, want, before]) hn (sls_roK (p := (some ⟨b28, 0, none⟩)) hr (sls_fct (p := (some ⟨b28, 0, none⟩)) hO)) (by simp) (hO := hO')) ?_
 rintro _ _ w ⟨rfl, rfl⟩ hO
 simp only [List.cons_append, List.nil_append] at hO
 rw [show allB A [id, want, before] = true by simp only [allB, List.all_cons, List.all_nil, hid.b, hw.b, hbb, Bool.or_true, Bool.and_self]]
 refine l_y rfl rfl (y_not rfl rfl) (l_y rfl rfl (y_pick_f rfl rfl) (V2 rfl rfl rfl (K2 (K3 (L9 (K5 (K8 (K3 (K0 (K1 (V1 rfl rfl rfl (V1 rfl rfl rfl (CK [.o a] hO rfl (fun k' hx hr hO' => UnlinkC_spec hn t.links (hO := hO')) ?_)))))))))))))
 rintro _ _ w ⟨rfl, rfl⟩ hO
 simp only [List.cons_append, List.nil_append] at hO
 rw [← hA1] at hO t1 hn1
 refine K2 (K3 (K0 (K0 (K1 (V1 rfl rfl rfl (l_y rfl rfl (y_fldb (o' := 1) rfl) (l_y rfl rfl (D5 hO rfl) ?_)))))))
 refine CK [.o a] hO rfl (fun k' hx hr hO' => NodeD_spec (id := before) hn1 t1.attrs (hO := hO')) ?_
 rintro _ _ w ⟨n, hnv, rfl, rfl⟩ hO
 simp only [List.cons_append, List.nil_append] at hO
 have hnp : before ≠ -1 → n.Parent = (nodeA A1 before).Parent := fun hne => hnv.parent (by have := hbe.resolve_left hne; exact (this.len (show A1.length = A.length by rw [hA1, hun])).b)
 refine V1 rfl rfl rfl (l_y rfl rfl (y_extract rfl rfl) (l_y rfl rfl (y_extract rfl rfl) (s_alloc (vs := [.int .i64 0, .int .i64 0, .string ⟨#[]⟩, .slice none 0 0, .string ⟨#[]⟩, .string ⟨#[]⟩, .int .i64 0, .int .i64 0, .int .i64 0, .int .i64 0, .int .i64 0, .int .i64 0]) hO rfl rfl rfl fun b7 w hO => ?_)))
 refine Y3 hO rfl rfl (fun w hO => ?_)
 refine V2 rfl rfl rfl (K2 (K3 (K0 (K1 (l_y rfl rfl (y_fldb (o' := 1) rfl) (l_y rfl rfl (D5 hO rfl) ?_))))))
 refine Z1 (fun h7_2 => ?_) (fun h7_2 => ?_)
 ·refine V1 rfl rfl rfl (l_y rfl rfl (y_fldb (o' := 6) rfl) (l_y rfl rfl (D5 hO rfl) ?_))
  refine l_y rfl rfl (y_fldb (o' := 0) rfl) (l_y rfl rfl (D5 hO rfl) ?_)
  refine Z1 (fun h7_8 => ?_) (fun h7_8 => ?_)
  ·refine l_y rfl rfl (y_pick_t rfl rfl) (K2 (K3 (L8 (K1 (l_y rfl rfl (y_fldb (o' := 1) rfl) (Y1 hO rfl rfl (fun w hO => ?_)))))))
   simp only [List.set_cons_zero, List.set_cons_succ] at hO
   refine K2 (K3 (K0 (K0 (K1 (V1 rfl rfl rfl (l_y rfl rfl (y_fldb (o' := 0) rfl) (l_y rfl rfl (D5 hO rfl) ?_)))))))
   refine V1 rfl rfl rfl (l_y rfl rfl (y_fldb (o' := 1) rfl) (l_y rfl rfl (D5 hO rfl) ?_))
   have hbf : befF A1 want before = (-1) := by
    unfold befF
    first
    | (rw [if_pos ⟨h7_2, by rw [← hnp h7_2]; exact h7_8⟩]; done)
    | (rw [if_neg (fun h => absurd (by rw [hnp h.1]; exact h.2) (by rw [h7_8]; simp))]; done)
    | (rw [if_neg (fun h => h.1 h7_2)]; done)
    | (rw [if_neg (fun h => h7_2 h.1)]; done)
    | (split <;> simp_all; done)
   refine CK [.o a] hO rfl (fun k' hx hr hO' => LinkC_spec (up := want) (id := id) (before := (-1)) hn1 t1.rank t1.links (hO := hO')) ?_
   rintro _ _ w ⟨rfl, rfl⟩ hO
   simp only [List.cons_append, List.nil_append] at hO
   refine Z1 (fun h9_7 => ?_) (fun h9_7 => ?_)
   ·refine K2 (K3 (L8 (K0 (K1 (V2 rfl rfl rfl (K2 (K3 (K6 (K9 ?_)))))))))
    exact fin1 rfl rfl ⟨_, ⟨⟨_, rfl⟩, by dsimp only [putF]; rw [← hA1, hbf]⟩, hO.only [.o a]⟩
   ·refine K2 (K3 (L9 (K5 (K3 (K0 (K1 (V2 rfl rfl rfl (K2 (K3 (K6 ?_))))))))))
    exact fin1 rfl rfl ⟨_, ⟨⟨_, rfl⟩, by dsimp only [putF]; rw [← hA1, hbf]⟩, hO.only [.o a]⟩
  ·refine l_y rfl rfl (y_pick_t rfl rfl) (K2 (K3 (L9 (K5 (K3 (K0 (K0 (K1 (V1 rfl rfl rfl (l_y rfl rfl (y_fldb (o' := 0) rfl) (l_y rfl rfl (D5 hO rfl) ?_)))))))))))
   refine V1 rfl rfl rfl (l_y rfl rfl (y_fldb (o' := 1) rfl) (l_y rfl rfl (D5 hO rfl) ?_))
   have hbf : befF A1 want before = (Api_spot.mk want before).Before := by
    unfold befF
    first
    | (rw [if_pos ⟨h7_2, by rw [← hnp h7_2]; exact h7_8⟩]; done)
    | (rw [if_neg (fun h => absurd (by rw [hnp h.1]; exact h.2) (by rw [h7_8]; simp))]; done)
    | (rw [if_neg (fun h => h.1 h7_2)]; done)
    | (rw [if_neg (fun h => h7_2 h.1)]; done)
    | (split <;> simp_all; done)
   refine CK [.o a] hO rfl (fun k' hx hr hO' => LinkC_spec (up := want) (id := id) (before := (Api_spot.mk want before).Before) hn1 t1.rank t1.links (hO := hO')) ?_
   rintro _ _ w ⟨rfl, rfl⟩ hO
   simp only [List.cons_append, List.nil_append] at hO
   refine Z1 (fun h9_7 => ?_) (fun h9_7 => ?_)
   ·refine K2 (K3 (L8 (K0 (K1 (V2 rfl rfl rfl (K2 (K3 (K6 (K9 ?_)))))))))
    exact fin1 rfl rfl ⟨_, ⟨⟨_, rfl⟩, by dsimp only [putF]; rw [← hA1, hbf]⟩, hO.only [.o a]⟩
   ·refine K2 (K3 (L9 (K5 (K3 (K0 (K1 (V2 rfl rfl rfl (K2 (K3 (K6 ?_))))))))))
    exact fin1 rfl rfl ⟨_, ⟨⟨_, rfl⟩, by dsimp only [putF]; rw [← hA1, hbf]⟩, hO.only [.o a]⟩
 ·refine V1 rfl rfl rfl ?_
  repeat refine M2 ?_
  refine l_y rfl rfl (y_pick_f rfl rfl) (K2 (K3 (L9 (K5 (K3 (K0 (K0 (K1 (V1 rfl rfl rfl (l_y rfl rfl (y_fldb (o' := 0) rfl) (l_y rfl rfl (D5 hO rfl) ?_)))))))))))
  refine V1 rfl rfl rfl (l_y rfl rfl (y_fldb (o' := 1) rfl) (l_y rfl rfl (D5 hO rfl) ?_))
  have hbf : befF A1 want before = (Api_spot.mk want before).Before := by
   unfold befF
   first
   | (rw [if_pos ⟨h7_2, by rw [← hnp h7_2]; exact h7_8⟩]; done)
   | (rw [if_neg (fun h => absurd (by rw [hnp h.1]; exact h.2) (by rw [h7_8]; simp))]; done)
   | (rw [if_neg (fun h => h.1 h7_2)]; done)
   | (rw [if_neg (fun h => h7_2 h.1)]; done)
   | (split <;> simp_all; done)
  refine CK [.o a] hO rfl (fun k' hx hr hO' => LinkC_spec (up := want) (id := id) (before := (Api_spot.mk want before).Before) hn1 t1.rank t1.links (hO := hO')) ?_
  rintro _ _ w ⟨rfl, rfl⟩ hO
  simp only [List.cons_append, List.nil_append] at hO
  refine Z1 (fun h9_7 => ?_) (fun h9_7 => ?_)
  ·refine K2 (K3 (L8 (K0 (K1 (V2 rfl rfl rfl (K2 (K3 (K6 (K9 ?_)))))))))
   exact fin1 rfl rfl ⟨_, ⟨⟨_, rfl⟩, by dsimp only [putF]; rw [← hA1, hbf]⟩, hO.only [.o a]⟩
  ·refine K2 (K3 (L9 (K5 (K3 (K0 (K1 (V2 rfl rfl rfl (K2 (K3 (K6 ?_))))))))))
   exact fin1 rfl rfl ⟨_, ⟨⟨_, rfl⟩, by dsimp only [putF]; rw [← hA1, hbf]⟩, hO.only [.o a]⟩
end
section
variable {k : Ctx} {w : World} {g a s l : Nat} {nm : ByteArray} {fo : Bool} {errs mark : Int} {A : List Node_one} {K : Int → List Int} {st : List Int} {L : List Api_entry}
/-- two results, of which the second lies in memory -/
theorem fintc {P : Program} {n : Nat} {E : Env} {w : World} {fn : Func} {T : Value → World → Prop} {t u : Nat} {tz : TypeId} {q : Nat} [hl2 : Lay P tz true q] {v : Value} {b : Addr} {es : List Value} (hrs : fn.results = #[.tmp t, .cell u tz]) (hv : Hb.look E t = some v) (hx : Hb.look E u = some (.pointer (some b))) (hn : es.length = q) (hk : Holds w b es) (hT : T (.tuple #[v, .agg es.toArray]) w) :
    QW (bodyPost P fn fun e w' => ∃ v, e = .returned v ∧ T v w') n [] .ret E w := fun c hc =>
  ⟨hc.defers, _, by
    subst hn
    have h0 := hc.at_ t _ hv
    have h2 := hc.at_ u _ hx
    simp only [Array.getD_eq_getD_getElem?] at h0 h2
    have h3 := run_loadCells_list (P := P) w b es hk
    simp [results, hrs, h0, h2, asAddr, loadVar, hl2.isAgg, hl2.size, h3], _, rfl, hT⟩
theorem inside_spec {x : Int} (hO : Own k w []) : Tri Tryz.prog 109 #[.int .i64 x] k w fun v m => v = .agg (Api_spot.cells ⟨x, -1⟩).toArray ∧ m = [] := by
 refine enter (args := [.int .i64 x]) Tryz.func109 rfl rfl (K0 (K1 (s_alloc (vs := [.int .i64 0, .int .i64 0]) hO rfl rfl rfl fun b2 w hO => ?_)))
 refine K2 (K3 (K0 (K1 (V1 rfl rfl rfl (s_build (parts := [(0, .tmp 3), (1, .const (.int .i64 (-1)))]) (cs := [.int .i64 x, .int .i64 (-1)]) rfl rfl (fun a ha => partsOf_sound ha _ _ rfl) (by kernel_rfl) (Y3 hO rfl rfl (fun w hO => ?_)))))))
 refine K2 (K3 (K6 ?_))
 exact finC hO rfl rfl ⟨_, ⟨rfl, rfl⟩, hO.none⟩
set_option maxHeartbeats 2000000 in
theorem fresh_specA {i : Int} {e : Api_entry} (hn : 0 < A.length) (hA : A.length ≤ 32768) (hL : L.length ≤ 2000000) (hi : 0 ≤ i ∧ i < L.length) (he : at_ L i.toNat = e) (ht : e.Token.Attrs = [] ∧ e.Token.AttrsP = none ∧ e.Token.AttrsC = 0) (hO : Own k w [agB g a s l nm fo errs mark, arenaL a A, actL l a L]) :
  Tri Tryz.prog 103 #[.pointer (some ⟨g, 0, none⟩), .int .i64 i] k w fun v m => ∃ q d, v = .tuple #[.int .i64 (elementL A 0 e.Token.Name [] q d).1, .agg (Api_token.cells e.Token).toArray] ∧ m = [agB g a s l nm fo errs mark, arenaL a (elementL A 0 e.Token.Name [] q d).2.2, actL l a L] := by
 refine enter (args := [.pointer (some ⟨g, 0, none⟩), .int .i64 i]) Tryz.func103 rfl rfl ?_
 obtain ⟨nd, kd, tn, da, sy, ha, qu, ch, se, tp, ta, tc⟩ := e
 obtain ⟨h1, h2, h3⟩ := ht
 dsimp only at h1 h2 h3
 subst h1 h2 h3
 refine K0 (K1 (V2 rfl rfl rfl (s_alloc (vs := [.int .i64 0, .string ⟨#[]⟩, .string ⟨#[]⟩, .string ⟨#[]⟩, .int .i64 0, .bool false, .int .i32 0, .bool false, .slice none 0 0]) hO rfl rfl rfl fun b5 w hO => ?_)))
 refine K2 (K3 (K0 (K1 (V1 rfl rfl rfl (V3 rfl rfl rfl rfl (l_y rfl rfl (y_fldb (o' := 2) rfl) (l_y rfl rfl (D5 hO rfl) ?_)))))))
 refine V1 rfl rfl rfl (CK [.o l] hO rfl (fun k' hx hr hO' => aAt_spec (i := i) hL (hO := hO')) ?_)
 rintro _ _ w ⟨h9, rfl⟩ hO
 simp only [List.cons_append, List.nil_append] at hO
 obtain ⟨_, rfl⟩ := h9.resolve_left (fun h => by omega)
 rw [he]
 refine V1 rfl rfl rfl (l_y rfl rfl (y_extract rfl rfl) (l_y rfl rfl (y_extract rfl rfl) (s_alloc (vs := [.int .i64 0, .int .i64 0, .string ⟨#[]⟩, .string ⟨#[]⟩, .string ⟨#[]⟩, .int .i64 0, .bool false, .int .i32 0, .bool false, .slice none 0 0]) hO rfl rfl rfl fun b6 w hO => ?_)))
 refine Y3 hO rfl rfl (fun w hO => ?_)
 refine V2 rfl rfl rfl (K2 (K3 (K0 (da_region (by intro c a d v w h; cases d <;> exact h) ?_))))
 have hO := hO.drew
 refine da_phase _ [10] (SO.ks [.b g, .b b6] hO) ?_
 refine dx_u 0 (by kernel_rfl) rfl rfl rfl (fun w => y_move rfl) ?_
 refine dx_u 1 (by kernel_rfl) rfl rfl rfl (fun w => y_nilCheck rfl rfl) ?_
 refine dx_u 2 (by kernel_rfl) rfl rfl rfl (fun w => y_fldb (o' := 0) rfl) ?_
 refine dx_y 3 (by kernel_rfl) rfl rfl rfl (fun w ⟨m, hw⟩ => D5 hw rfl) ?_
 refine dx_u 4 (by kernel_rfl) rfl rfl rfl (fun w => y_fldb (o' := 1) rfl) ?_
 refine dx_u 5 (by kernel_rfl) rfl rfl rfl (fun w => y_fldb (o' := 2) rfl) ?_
 refine dx_y 6 (by kernel_rfl) rfl rfl rfl (fun w ⟨m, hw⟩ => D5 hw rfl) ?_
 refine dx_u 7 (by kernel_rfl) rfl rfl rfl (fun w => y_fldb (o' := 1) rfl) ?_
 refine dx_u 8 (by kernel_rfl) rfl rfl rfl (fun w => y_fldb (o' := 9) rfl) ?_
 refine dx_y 9 (by kernel_rfl) rfl rfl rfl (fun w ⟨m, hw⟩ => D5 hw rfl) ?_
 refine dx_close 10 (by kernel_rfl) rfl rfl ?_
 refine CK [.o a] hO rfl (fun k' hx hr hO' => Element_spec (xs := []) hn hA (Sli.nil rfl) (hO := hO')) ?_
 rintro _ _ w ⟨q1, d1, rfl, rfl⟩ hO
 simp only [List.cons_append, List.nil_append] at hO
 refine o_done (da_phase _ [] (SO.ks [] hO) ?_)
 refine dx_u 11 (by kernel_rfl) rfl rfl rfl (fun w => y_move rfl) ?_
 refine dx_u 12 (by kernel_rfl) rfl rfl rfl (fun w => y_extract rfl rfl) ?_
 refine dx_u 13 (by kernel_rfl) rfl rfl rfl (fun w => y_extract rfl rfl) ?_
 refine dx_u 14 (by kernel_rfl) rfl rfl rfl (fun w => y_assign rfl) ?_
 refine dx_u 15 (by kernel_rfl) rfl rfl rfl (fun w => y_assign rfl) ?_
 refine dx_end (by kernel_rfl) ?_
 refine K3 (K0 (da_region (by intro c a d v w h; cases d <;> exact h) ?_))
 have hO := hO.drew
 refine da_phase _ [4] (SO.ks [.b b6] hO) ?_
 refine dx_u 0 (by kernel_rfl) rfl rfl rfl (fun w => y_move rfl) ?_
 refine dx_u 1 (by kernel_rfl) rfl rfl rfl (fun w => y_fldb (o' := 1) rfl) ?_
 refine dx_y 2 (by kernel_rfl) rfl rfl rfl (fun w ⟨m, hw⟩ => D8 (cs := [.int .i64 (Api_entry.mk nd (Api_token.mk kd tn da sy ha qu ch se none [] 0)).Token.Kind, .string (Api_entry.mk nd (Api_token.mk kd tn da sy ha qu ch se none [] 0)).Token.Name, .string (Api_entry.mk nd (Api_token.mk kd tn da sy ha qu ch se none [] 0)).Token.Data, .string (Api_entry.mk nd (Api_token.mk kd tn da sy ha qu ch se none [] 0)).Token.System, .int .i64 (Api_entry.mk nd (Api_token.mk kd tn da sy ha qu ch se none [] 0)).Token.Has, .bool (Api_entry.mk nd (Api_token.mk kd tn da sy ha qu ch se none [] 0)).Token.Quirks, .int .i32 (Api_entry.mk nd (Api_token.mk kd tn da sy ha qu ch se none [] 0)).Token.Char, .bool (Api_entry.mk nd (Api_token.mk kd tn da sy ha qu ch se none [] 0)).Token.Self, .slice (Api_entry.mk nd (Api_token.mk kd tn da sy ha qu ch se none [] 0)).Token.AttrsP (Api_entry.mk nd (Api_token.mk kd tn da sy ha qu ch se none [] 0)).Token.Attrs.length (Api_entry.mk nd (Api_token.mk kd tn da sy ha qu ch se none [] 0)).Token.AttrsC]) hw rfl) ?_
 refine dx_u 3 (by kernel_rfl) rfl rfl rfl (fun w => y_assign rfl) ?_
 refine dx_close 4 (by kernel_rfl) rfl rfl ?_
 refine Y3 hO rfl rfl (fun w hO => ?_)
 refine o_done (da_end (by kernel_rfl) ?_)
 refine K3 (K6 ?_)
 have hb5 := (hO.only [.b b5]).holds (.hd _ _ _) (.ofBlkA (o := 0) (cs := Api_token.cells ⟨kd, tn, da, sy, ha, qu, ch, se, none, [], 0⟩) 9 rfl)
 exact fintc rfl rfl rfl rfl hb5 ⟨_, ⟨q1, d1, rfl, rfl⟩, hO.only [.b g, .o a, .o l]⟩
end
end Go.Proofs.YtoohapbaelmkcaaGreat
end
section
set_option maxRecDepth 100000
namespace Go.Proofs.YtoohapbaelmkcaaGreat
open Go Go.Hb Go.RowKit
section
variable {k : Ctx} {w : World} {g a s l : Nat} {nm : ByteArray} {fo : Bool} {errs mark : Int} {A : List Node_one} {st : List Int} {L : List Api_entry}
set_option maxHeartbeats 4000000 in
theorem descend_spec {f block : Int} {a0 n0 ln : Nat} (hI0 : AgI f a0 n0 ln ⟨A, st, L, mark, block, findI st block, 0⟩) (hn0 : n0 + 6 ≤ 32768) (hln : ln ≤ 2000000) (hO : Own k w [agB g a s l nm fo errs mark, arenaL a A, stkL s a st, actL l a L]) :
    Tri Tryz.prog 100 #[.pointer (some ⟨g, 0, none⟩), .int .i64 f, .int .i64 block] k w fun v m => ∃ y : Ag, InnD f block ⟨A, st, L, mark, block, findI st block, 0⟩ y ∧ v = .int .i64 y.last ∧ m = [agB g a s l nm fo errs y.mark, arenaL a y.A, stkL s a y.st, actL l a y.L] := by
  refine enter (args := [.pointer (some ⟨g, 0, none⟩), .int .i64 f, .int .i64 block]) Tryz.func100 rfl rfl ?_
  have hfb := @findI_lt st block
  have hfg := @findI_ge st block
  have hsl : st.length ≤ 1000000 := Nat.le_trans hI0.si.len (Nat.le_trans hI0.len (by dsimp only; omega))
  refine K0 (K1 (V2 rfl rfl rfl (K2 (K3 (L6 (K0 (K1 (V1 rfl rfl rfl (V2 rfl rfl rfl (K2 (K3 (K0 (K1 (V1 rfl rfl rfl (V3 rfl rfl rfl rfl (l_y rfl rfl (y_fldb (o' := 1) rfl) (l_y rfl rfl (D5 hO rfl) ?_)))))))))))))))))
  refine V1 rfl rfl rfl (CK [.o s] hO rfl (fun k' hx hr hO' => sFindC_spec hsl (hO := hO')) ?_)
  rintro _ _ w ⟨rfl, rfl⟩ hO
  simp only [List.cons_append, List.nil_append] at hO
  refine V2 rfl rfl rfl (K2 (K3 (K0 (K1 (V2 rfl rfl rfl (K2 (K3 (K0 (L5 (K3 (K4 (c_rounds (X := Ag) (fun x => [(0, .pointer (some ⟨g, 0, none⟩)), (1, .int .i64 f), (2, .int .i64 block), (6, .int .i64 0), (7, .int .i64 x.last), (8, .int .i64 x.at'), (9, .int .i64 (x.count : Int))]) (fun x w => Own k w [agB g a s l nm fo errs x.mark, arenaL a x.A, stkL s a x.st, actL l a x.L] ∧ (AgI f a0 n0 ln x) ∧ (∀ y, InnD f block x y → InnD f block ⟨A, st, L, mark, block, findI st block, 0⟩ y) ∧ (x.at' + x.count = findI st block)) (fun x => x.at'.toNat) (⟨A, st, L, mark, block, findI st block, 0⟩) ⟨rfl, rfl, rfl, rfl, rfl, rfl, rfl, trivial⟩ ⟨hO.only [.b g, .o a, .o s, .o l], hI0, (fun y h => h), (by dsimp only; omega)⟩ ?_))))))))))))
  rintro x w m hm ⟨hO, hI, hD, hcn⟩
  refine K4 (K0 ?_)
  have hxl : x.st.length ≤ 1000000 := Nat.le_trans hI.si.len (Nat.le_trans hI.len (by omega))
  have hxL : x.L.length ≤ 2000000 := Nat.le_trans hI.ll hln
  have hxm := hI.mkk
  have hxt := hI.lt
  refine K1 (V1 rfl rfl rfl (l_y rfl rfl (D4) ?_))
  refine V1 rfl rfl rfl (l_y rfl rfl (D4) ?_)
  refine V2 rfl rfl rfl (V2 rfl rfl rfl (K2 (K3 (K0 (K1 (V1 rfl rfl rfl (V3 rfl rfl rfl rfl (l_y rfl rfl (y_fldb (o' := 1) rfl) (l_y rfl rfl (D5 hO rfl) ?_)))))))))
  refine V1 rfl rfl rfl ?_
  obtain ⟨id, hid⟩ : ∃ id, id = atI x.st (x.at' - 1) := ⟨_, rfl⟩
  refine CK [.o s] hO rfl (fun k' hx hr hO' => sAtC_spec (x := x.at' - 1) hxl (hO := hO')) ?_
  rintro _ _ w ⟨rfl, rfl⟩ hO
  simp only [List.cons_append, List.nil_append] at hO
  rw [← hid]
  refine V2 rfl rfl rfl (K2 (K3 (K0 (K0 (K1 (V1 rfl rfl rfl (V1 rfl rfl rfl ?_)))))))
  refine Z0 (fun h6_2 => ?_) (fun h6_2 => ?_)
  · refine K2 (K3 (L8 (K0 (K1 (V1 rfl rfl rfl (V2 rfl rfl rfl (K2 (K3 (K6 (K9 (L0 (K9 (L0 (L4 ?_))))))))))))))
    exact fin1 rfl rfl ⟨_, ⟨x, hD x (.stop x (by rw [← hid]; exact h6_2)), rfl, rfl⟩, hO.ks [.b g, .o a, .o s, .o l]⟩
  · refine K2 (K3 (L9 (K5 (K3 ?_))))
    refine c_cut (X := List Api_entry × Int) (fun LM => [(0, .pointer (some ⟨g, 0, none⟩)), (1, .int .i64 f), (2, .int .i64 block), (6, .int .i64 0), (7, .int .i64 x.last), (8, .int .i64 (x.at' - 1)), (9, .int .i64 ((x.count : Int) + 1)), (10, .int .i64 id)]) (fun LM w => Own k w [agB g a s l nm fo errs LM.2, arenaL a x.A, stkL s a x.st, actL l a LM.1] ∧ (LM = lmF x id) ∧ (id ≠ f)) ?_ ?_
    · refine K0 (K1 (V1 rfl rfl rfl ?_))
      refine Z0 (fun h8_1 => ?_) (fun h8_1 => ?_)
      · refine K2 (K3 (L8 (K1 (V1 rfl rfl rfl (V1 rfl rfl rfl (CK [.b g, .o l] hO rfl (fun k' hx hr hO' => forget_spec (id := id) ⟨by omega, by omega⟩ hxL (hO := hO')) ?_))))))
        rintro _ _ w rfl hO
        simp only [List.cons_append, List.nil_append] at hO
        refine K2 ?_
        obtain ⟨LM9, hO, hLM9⟩ : ∃ LM9 : List Api_entry × Int, Own k w [agB g a s l nm fo errs LM9.2, arenaL a x.A, stkL s a x.st, actL l a LM9.1] ∧ LM9 = lmF x id := by
          first
          | exact ⟨forgetF x.L x.mark id, hO.ks [.b g, .o a, .o s, .o l], by rw [lmF, if_pos (show 3 < x.count + 1 by omega)]⟩
          | exact ⟨(x.L, x.mark), hO.ks [.b g, .o a, .o s, .o l], by rw [lmF, if_neg (show ¬ 3 < x.count + 1 by omega)]⟩
        exact q_cut (LM9) ⟨rfl, rfl, rfl, rfl, rfl, rfl, rfl, rfl, trivial⟩ ⟨hO.only [.b g, .o a, .o s, .o l], hLM9, (by assumption)⟩
      · refine K2 (K3 (L9 (K5 ?_)))
        obtain ⟨LM9, hO, hLM9⟩ : ∃ LM9 : List Api_entry × Int, Own k w [agB g a s l nm fo errs LM9.2, arenaL a x.A, stkL s a x.st, actL l a LM9.1] ∧ LM9 = lmF x id := by
          first
          | exact ⟨forgetF x.L x.mark id, hO.ks [.b g, .o a, .o s, .o l], by rw [lmF, if_pos (show 3 < x.count + 1 by omega)]⟩
          | exact ⟨(x.L, x.mark), hO.ks [.b g, .o a, .o s, .o l], by rw [lmF, if_neg (show ¬ 3 < x.count + 1 by omega)]⟩
        exact q_cut (LM9) ⟨rfl, rfl, rfl, rfl, rfl, rfl, rfl, rfl, trivial⟩ ⟨hO.only [.b g, .o a, .o s, .o l], hLM9, (by assumption)⟩
    · rintro LM w ⟨hO, hLM, hne⟩
      refine K0 ?_
      have hne2 : atI x.st (x.at' - 1) ≠ f := by rw [← hid]; exact hne
      have hlm := hI.lm hne
      rw [← hLM] at hlm
      have hLL : LM.1.length ≤ 2000000 := Nat.le_trans hlm.2.2.2.1 hln
      have hA3 : x.A.length ≤ 32768 := Nat.le_trans hI.len (by omega)
      refine K1 (V1 rfl rfl rfl (V3 rfl rfl rfl rfl (l_y rfl rfl (y_fldb (o' := 2) rfl) (l_y rfl rfl (D5 hO rfl) ?_))))
      refine V1 rfl rfl rfl (CK [.o l] hO rfl (fun k' hx hr hO' => aFind_spec hLL (hO := hO')) ?_)
      rintro _ _ w ⟨rfl, rfl⟩ hO
      simp only [List.cons_append, List.nil_append] at hO
      refine V2 rfl rfl rfl (K2 (K3 (K0 (K0 (K1 (V1 rfl rfl rfl ?_))))))
      refine Z0 (fun h11_1 => ?_) (fun h11_1 => ?_)
      · refine K2 (K3 (L8 (K0 (K1 (V1 rfl rfl rfl (V3 rfl rfl rfl rfl (l_y rfl rfl (y_fldb (o' := 1) rfl) (l_y rfl rfl (D5 hO rfl) ?_))))))))
        refine V1 rfl rfl rfl (CK [.o s] hO rfl (fun k' hx hr hO' => sRemove_spec (id := id) hxl (hO := hO')) ?_)
        rintro _ _ w ⟨rfl, rfl⟩ hO
        simp only [List.cons_append, List.nil_append] at hO
        refine K2 (K3 (K7 (L1 (L2 ?_))))
        obtain ⟨A9, st9, L9, mk9, q9, d9, hO, hS⟩ : ∃ A9 st9 L9 mk9, ∃ (q9 : Option Addr) (d9 : Nat), Own k w [agB g a s l nm fo errs mk9, arenaL a A9, stkL s a st9, actL l a L9] ∧ innS block q9 d9 x = (⟨A9, st9, L9, mk9, x.last, x.at' - 1, x.count + 1⟩ : Ag) := by
          first
          | exact ⟨_, _, _, _, none, 0, hO.only [.b g, .o a, .o s, .o l], by unfold innS; rw [← hid, ← hLM, if_pos h11_1]⟩
          | exact ⟨_, _, _, _, q1, d1, hO.only [.b g, .o a, .o s, .o l], by unfold innS; rw [← hid, ← hLM, if_neg (by omega), ← hEL, ← hmk]⟩
        have hI9 := hI.step (block := block) k hn0 hne2 q9 d9
        rw [hS] at hI9
        exact q_next ((⟨A9, st9, L9, mk9, x.last, x.at' - 1, x.count + 1⟩ : Ag)) ⟨rfl, rfl, rfl, rfl, rfl, rfl, rfl, trivial⟩ ⟨hO.only [.b g, .o a, .o s, .o l], hI9, (fun y h => hD y (.step x q9 d9 y hne2 (by rw [hS]; exact h))), (by dsimp only; omega)⟩ (by have := hI.lt; dsimp only; omega)
      · refine K2 (K3 (L9 (K5 (K3 (K0 ?_)))))
        have hfa := findE_at (show 0 ≤ findE LM.1 id by omega)
        refine K1 (V1 rfl rfl rfl (V1 rfl rfl rfl (CK [.b g, .o a, .o l] hO rfl (fun k' hx hr hO' => fresh_specA (e := at_ LM.1 (findE LM.1 id).toNat) hI.ai.pos hA3 hLL ⟨by omega, by omega⟩ rfl (hlm.1.tok _ (at_mem hfa.1)) (hO := hO')) ?_)))
        rintro _ _ w ⟨q1, d1, rfl, rfl⟩ hO
        simp only [List.cons_append, List.nil_append] at hO
        obtain ⟨EL, hEL⟩ : ∃ EL, EL = elementL x.A 0 (tkF LM.1 id).Name [] q1 d1 := ⟨_, rfl⟩
        have hEL2 : elementL x.A 0 (at_ LM.1 (findE LM.1 id).toNat).Token.Name [] q1 d1 = EL := hEL.symm
        rw [hEL2] at hO ⊢
        have hel := hI.elm hn0 hne2 (by rw [← hid, ← hLM]; omega) q1 d1
        rw [← hid, ← hLM] at hel
        obtain ⟨⟨hE1, hE2, hE3, hE4, hE5, hE6, hE7, hE8⟩, hcl⟩ := hel
        rw [← hEL] at hE1 hE2 hE3 hE4 hE5 hE6 hE7 hE8
        have hlst := hI.lst.keeps hE8
        have htw : InA EL.2.2 EL.1 := ⟨by omega, by omega⟩
        refine V1 rfl rfl rfl (l_y rfl rfl (y_extract rfl rfl) (l_y rfl rfl (y_extract rfl rfl) (s_alloc (vs := [.int .i64 0, .string ⟨#[]⟩, .string ⟨#[]⟩, .string ⟨#[]⟩, .int .i64 0, .bool false, .int .i32 0, .bool false, .slice none 0 0]) hO rfl rfl rfl fun b13 w hO => ?_)))
        refine V2 rfl rfl rfl (Y3 hO rfl rfl (fun w hO => ?_))
        refine K2 (K3 (K0 (K1 (V1 rfl rfl rfl (V3 rfl rfl rfl rfl (l_y rfl rfl (y_fldb (o' := 2) rfl) (l_y rfl rfl (D5 hO rfl) ?_)))))))
        refine V1 rfl rfl rfl (V1 rfl rfl rfl (CK [.o a, .o l] hO rfl (fun k' hx hr hO' => aSwap_spec (old := id) (id := EL.1) hE3.pos hE3.attrs hLL (hO := hO')) ?_))
        rintro _ _ w ⟨rfl, rfl⟩ hO
        simp only [List.cons_append, List.nil_append] at hO
        refine K2 (K3 (K0 (K1 (V1 rfl rfl rfl (V3 rfl rfl rfl rfl (l_y rfl rfl (y_fldb (o' := 1) rfl) (l_y rfl rfl (D5 hO rfl) ?_)))))))
        refine V1 rfl rfl rfl (V1 rfl rfl rfl (CK [.o a, .o s] hO rfl (fun k' hx hr hO' => sSwap_spec (old := id) (id := EL.1) hE3.pos hE3.attrs hxl (hO := hO')) ?_))
        rintro _ _ w ⟨rfl, rfl⟩ hO
        simp only [List.cons_append, List.nil_append] at hO
        refine K2 (K3 ?_)
        refine c_cut (X := Int) (fun mk => [(0, .pointer (some ⟨g, 0, none⟩)), (1, .int .i64 f), (2, .int .i64 block), (6, .int .i64 0), (7, .int .i64 x.last), (8, .int .i64 (x.at' - 1)), (9, .int .i64 ((x.count : Int) + 1)), (12, .int .i64 EL.1)]) (fun mk w => Own k w [agB g a s l nm fo errs mk, arenaL a EL.2.2, stkL s a (swapL EL.2.2 x.st id EL.1).2, actL l a (swapE EL.2.2 LM.1 id EL.1).2] ∧ (mk = if x.last = block then findE LM.1 id + 1 else LM.2) ∧ (¬ findE LM.1 id < 0)) ?_ ?_
        · refine K0 (K1 (V1 rfl rfl rfl (V1 rfl rfl rfl ?_)))
          refine Z0 (fun h16_2 => ?_) (fun h16_2 => ?_)
          · refine K2 (K3 (L8 (K1 (V1 rfl rfl rfl (V1 rfl rfl rfl (l_y rfl rfl (D4) ?_))))))
            refine V3 rfl rfl rfl rfl (l_y rfl rfl (y_fldb (o' := 6) rfl) (Y1 hO rfl rfl (fun w hO => ?_)))
            simp only [List.set_cons_zero, List.set_cons_succ] at hO
            refine K2 ?_
            exact q_cut (_) ⟨rfl, rfl, rfl, rfl, rfl, rfl, rfl, rfl, trivial⟩ ⟨hO.only [.b g, .o a, .o s, .o l], (by first | (rw [if_pos h16_2]; done) | (rw [if_neg h16_2]; done)), (by omega)⟩
          · refine K2 (K3 (L9 (K5 ?_)))
            exact q_cut (_) ⟨rfl, rfl, rfl, rfl, rfl, rfl, rfl, rfl, trivial⟩ ⟨hO.only [.b g, .o a, .o s, .o l], (by first | (rw [if_pos h16_2]; done) | (rw [if_neg h16_2]; done)), (by omega)⟩
        · rintro mk w ⟨hO, hmk, h11⟩
          refine K0 (da_region (by intro c a d v w h; cases d <;> exact h) ?_)
          have hO := hO.drew
          refine da_phase _ [7] (SO.ks [.b g] hO) ?_
          refine dx_u 0 (by kernel_rfl) rfl rfl rfl (fun w => y_move rfl) ?_
          refine dx_u 1 (by kernel_rfl) rfl rfl rfl (fun w => y_nilCheck rfl rfl) ?_
          refine dx_u 2 (by kernel_rfl) rfl rfl rfl (fun w => y_fldb (o' := 0) rfl) ?_
          refine dx_y 3 (by kernel_rfl) rfl rfl rfl (fun w ⟨m, hw⟩ => D5 hw rfl) ?_
          refine dx_u 4 (by kernel_rfl) rfl rfl rfl (fun w => y_move rfl) ?_
          refine dx_u 6 (by kernel_rfl) rfl rfl rfl (fun w => y_move rfl) ?_
          refine dx_only 5 (by kernel_rfl) rfl rfl ?_
          refine CK [] hO rfl (fun k' hx hr hO' => inside_spec (hO := hO')) ?_
          rintro _ _ w ⟨rfl, rfl⟩ hO
          simp only [List.cons_append, List.nil_append] at hO
          refine o_done (⟨SO.ks [.b g] hO, ?_⟩)
          refine dx_close 7 (by kernel_rfl) rfl rfl ?_
          refine CK [.o a] hO rfl (fun k' hx hr hO' => PutG_spec (want := EL.1) (before := -1) (id := x.last) hE3 hlst htw (.inl rfl) (hO := hO')) ?_
          rintro _ _ w ⟨⟨e9, rfl⟩, rfl⟩ hO
          simp only [List.cons_append, List.nil_append] at hO
          refine o_done (da_end (by kernel_rfl) ?_)
          refine K3 (K1 (V1 rfl rfl rfl (V2 rfl rfl rfl (K2 (K8 ?_)))))
          obtain ⟨A9, st9, L9, mk9, q9, d9, hO, hS⟩ : ∃ A9 st9 L9 mk9, ∃ (q9 : Option Addr) (d9 : Nat), Own k w [agB g a s l nm fo errs mk9, arenaL a A9, stkL s a st9, actL l a L9] ∧ innS block q9 d9 x = (⟨A9, st9, L9, mk9, EL.1, x.at' - 1, x.count + 1⟩ : Ag) := by
            first
            | exact ⟨_, _, _, _, none, 0, hO.only [.b g, .o a, .o s, .o l], by unfold innS; rw [← hid, ← hLM, if_pos h11_1]⟩
            | exact ⟨_, _, _, _, q1, d1, hO.only [.b g, .o a, .o s, .o l], by unfold innS; rw [← hid, ← hLM, if_neg (by omega), ← hEL, ← hmk]⟩
          have hI9 := hI.step (block := block) k hn0 hne2 q9 d9
          rw [hS] at hI9
          exact q_next ((⟨A9, st9, L9, mk9, EL.1, x.at' - 1, x.count + 1⟩ : Ag)) ⟨rfl, rfl, rfl, rfl, rfl, rfl, rfl, trivial⟩ ⟨hO.only [.b g, .o a, .o s, .o l], hI9, (fun y h => hD y (.step x q9 d9 y hne2 (by rw [hS]; exact h))), (by dsimp only; omega)⟩ (by have := hI.lt; dsimp only; omega)
end
end Go.Proofs.YtoohapbaelmkcaaGreat
end
section
set_option maxRecDepth 100000
namespace Go.Hb
open Go Go.RowKit
section
variable {P : Program} {ops : Array Oper} {Q : Exit → Act → World → Prop} {n : Nat} {ds : List Deferred} {E : Env} {w : World}
theorem dx_three {lo : List Oper} {f : Nat} {listed : Array Bool} {S : World → Prop} {C : List Nat} (i j l : Nat) {o o' o2 : Oper} (hr : Region.ready .any lo.toArray listed = [i, j, l]) (hi : nthO lo i = some o) (hj : nthO lo j = some o') (hl : nthO lo l = some o2) (hci : C.contains i = false) (hcj : C.contains j = false) (hcl : C.contains l = false)
    (h1 : OW P lo.toArray Q n ds o (fun E w => S w ∧ DX P lo Q n ds S C f (listed.setIfInBounds i true) E w) E w) (h2 : OW P lo.toArray Q n ds o' (fun E w => S w ∧ DX P lo Q n ds S C f (listed.setIfInBounds j true) E w) E w) (h3 : OW P lo.toArray Q n ds o2 (fun E w => S w ∧ DX P lo Q n ds S C f (listed.setIfInBounds l true) E w) E w) : DX P lo Q n ds S C (f + 1) listed E w := fun hQ hS a ha => by
  refine ⟨fun h0 => (by rw [hr] at h0; cases h0), fun q hq => ?_⟩
  rw [hr] at hq
  rcases List.mem_cons.1 hq with rfl | hq
  · exact op_of hi h1 (fun E' a' w' hf' hk => ⟨fun e => (by rw [hci] at e; cases e), fun _ => ⟨hk.1, hk.2 hQ hk.1 a' hf'⟩⟩) ha
  · rcases List.mem_cons.1 hq with rfl | hq
    · exact op_of hj h2 (fun E' a' w' hf' hk => ⟨fun e => (by rw [hcj] at e; cases e), fun _ => ⟨hk.1, hk.2 hQ hk.1 a' hf'⟩⟩) ha
    · obtain rfl : q = l := by simpa using hq
      exact op_of hl h3 (fun E' a' w' hf' hk => ⟨fun e => (by rw [hcl] at e; cases e), fun _ => ⟨hk.1, hk.2 hQ hk.1 a' hf'⟩⟩) ha
/-- a call of a function value is deferred -/
theorem x_deferV {x : Operand} {g : FuncId} {xs : List Operand} {tys : Array TypeId} {first captured vs : List Value} {dd : Option Tmp} {ty : TypeId} {pos : String} {aft : Array Edge} {gu : Option (Nat × Bool)} (hv : ev E x = some (.func (.func g) first.toArray captured.toArray)) (hx : evl E xs = some vs) :
  ∀ a, Fits n ds E a → (execOp a.eval ⟨dd, .defer ⟨.value x, xs.toArray, tys⟩, ty, pos, aft, gu⟩).run P w = .ok (.defer { target := .fn (.func g) captured.toArray, args := (first ++ vs).toArray }) w := fun a ha => by
 have h1 : xs.toArray.map a.eval = vs.toArray := by rw [← evl_sound ha xs vs hx]; simp
 simp [execOp, resolve, ha.eval hv, Deferred.ofValue, h1]
/-- a function's end where one call of a function value was deferred -/
theorem finDKV (qs : List Key) {k : Ctx} {l As rl m0 : List HP} [hp : AtKs l qs As rl m0] {fn : Func} {T : Value → World → Prop} {g : FuncId} [hf : Fun P g] {args captured : List Value} {R : Value → List HP → Prop} (hO : Own k w l)
  (hc : ∀ k', Ext k k' w → (∀ A ∈ rl, ∀ a cs, Has A a cs → Ro k' a cs) → Own k' w As → TriD P g (args ++ captured).toArray k' w R)
  (h : ∀ v m w', R v m → Own k w' (m ++ rl) → QW (bodyPost P fn fun e w' => ∃ v, e = .returned v ∧ T v w') n [] .ret E w') :
  QW (bodyPostD P fn fun e w' => ∃ v, e = .returned v ∧ T v w') n [{ target := .fn (.func g) captured.toArray, args := args.toArray }] .ret E w := fun a ha => by
 show Leaves P fn a.tmps _ a.defers .returning w
 rw [ha.defers]
 refine leaves_cons (by simp) (by simp [invoke, hf.call]) ((TriD.framed hO hp.pulls hc).mono ?_)
 rintro e u' w' ⟨rfl, v, rfl, m, hR, hO'⟩
 obtain ⟨_, v2, hr, hT2⟩ := h v m w' hR hO' { a with defers := [] } ⟨ha.size, rfl, ha.at_⟩
 show Leaves P fn a.tmps _ [] (settle .returning) w'
 exact ⟨v2, hr, hT2⟩
end
end Go.Hb
namespace Go.Proofs.YtoohapbaelmkcaaGreat
open Go Go.Hb Go.RowKit
theorem spotV_ok {A : List Node_one} {K : Int → List Int} {l : List Int} {target : Int} {fo : Bool} (t : Tree A K) (h : WI A) (hel : AllEl A l) (hb : InA A target) : InA A (spotV A l target fo).1.Parent ∧ ((spotV A l target fo).1.Before = -1 ∨ InA A (spotV A l target fo).1.Before) := by
 have hfo := FosOk.of t h hel
 have hat := inA_iff.1 (atV_has (target := target) (f := fo) hfo hb.b)
 have hbef : (fosterV A l).Before = -1 ∨ InA A (fosterV A l).Before := by
  unfold fosterV
  split
  ·exact .inl rfl
  ·split
   ·split <;> exact .inl rfl
   ·next h2 =>
    split
    ·right
     rcases lastV_cases (namA A tableL) l with h5 | ⟨j, h5, h6, _⟩
     ·omega
     ·dsimp only
      exact inA_iff.1 (elB_has (hel _ (at_mem (by omega))))
    ·split <;> exact .inl rfl
 rw [spotV, if_neg (by rw [hb.b]; simp)]
 dsimp only
 unfold innV
 split
 ·next h1 => exact ⟨(t.inner _ hat).resolve_left h1, .inl rfl⟩
 ·refine ⟨hat, ?_⟩
  unfold atV
  split
  ·exact hbef
  ·exact .inl rfl
noncomputable def swE (y : Ag) (f below : Int) (fo : Bool) (q : Option Addr) (d : Nat) : Int × Int × List Node_one := elementL (putF y.A (spotV y.A y.st below fo).1 y.last) 0 (tkF y.L f).Name [] q d
noncomputable def swK (E : Int × Int × List Node_one) (kids : List Int) : List Node_one := kids.foldl (fun A c => putF A ⟨E.1, -1⟩ c) E.2.2
noncomputable def swA (E : Int × Int × List Node_one) (block : Int) (kids : List Int) : List Node_one := putF (swK E kids) ⟨block, -1⟩ E.1
noncomputable def swL (y : Ag) (f : Int) (E : Int × Int × List Node_one) (B : List Node_one) : List Api_entry := (putE B (forgetF y.L y.mark f).1 (forgetF y.L y.mark f).2 ⟨E.1, tkF y.L f⟩).2
noncomputable def swS (y : Ag) (f block : Int) (E : Int × Int × List Node_one) (B : List Node_one) : List Int := (putL B (removeL y.st f).2 (findI (removeL y.st f).2 block + 1) E.1).2
/-- what a formatting element's way into a block leaves -/
structure SwD (f block below : Int) (fo : Bool) (x : Ag) (A' : List Node_one) (st' : List Int) (L' : List Api_entry) (y : Ag) (q : Option Addr) (d : Nat) (Kz : Int → List Int) : Prop where
 inn : InnD f block x y
 tree : Tree (swE y f below fo q d).2.2 Kz
 arena : A' = swA (swE y f below fo q d) block (Kz block)
 stack : st' = swS y f block (swE y f below fo q d) A'
 list : L' = swL y f (swE y f below fo q d) A'
theorem AI.swK {E : Int × Int × List Node_one} (h : AI E.2.2) : ∀ kids : List Int, AI (swK E kids) ∧ Keeps E.2.2 (swK E kids) ∧ (swK E kids).length = E.2.2.length := fun kids => by
  unfold Proofs.YtoohapbaelmkcaaGreat.swK
  generalize hB : E.2.2 = B
  rw [hB] at h
  clear hB
  induction kids generalizing B with
  | nil => exact ⟨h, Keeps.refl, rfl⟩
  | cons c l ih =>
    obtain ⟨h1, h2, h3⟩ := ih _ (h.put ⟨E.1, -1⟩ c)
    exact ⟨h1, (h.keeps _ _).trans h2, h3.trans putF_len⟩
theorem swK_snoc {E : Int × Int × List Node_one} {l : List Int} {c : Int} : swK E (l ++ [c]) = putF (swK E l) ⟨E.1, -1⟩ c := by unfold swK; rw [List.foldl_append]; rfl
section
variable {k : Ctx} {w : World} {g a s l : Nat} {nm : ByteArray} {fo : Bool} {errs mark : Int} {A : List Node_one} {K : Int → List Int} {st : List Int} {L : List Api_entry}
set_option maxHeartbeats 4000000 in
theorem swap1_spec {b4 b5 b6 b11 b12 : Nat} {f block tw : Int} {tk : Api_token} (h : AI A) (hsl : st.length ≤ 1000000) (hL : L.length ≤ 2000000) (hm : -1000000000 ≤ mark ∧ mark ≤ 1000000000)
  (hO : Own k w [blk b4 80 [.pointer (some ⟨g, 0, none⟩)], blk b5 3 [.int .i64 f], blk b11 3 [.int .i64 tw], blk b12 53 (Api_token.cells tk), blk b6 3 [.int .i64 block], agB g a s l nm fo errs mark, arenaL a A, stkL s a st, actL l a L]) :
  Tri Tryz.prog 104 #[.pointer (some ⟨b4, 0, none⟩), .pointer (some ⟨b5, 0, none⟩), .pointer (some ⟨b11, 0, none⟩), .pointer (some ⟨b12, 0, none⟩), .pointer (some ⟨b6, 0, none⟩)] k w (fun v m => m = [agB g a s l nm fo errs (forgetF L mark f).2, arenaL a A, stkL s a (putL A (removeL st f).2 (findI (removeL st f).2 block + 1) tw).2, actL l a (putE A (forgetF L mark f).1 (forgetF L mark f).2 ⟨tw, tk⟩).2]) ∧
  TriD Tryz.prog 104 #[.pointer (some ⟨b4, 0, none⟩), .pointer (some ⟨b5, 0, none⟩), .pointer (some ⟨b11, 0, none⟩), .pointer (some ⟨b12, 0, none⟩), .pointer (some ⟨b6, 0, none⟩)] k w (fun v m => m = [agB g a s l nm fo errs (forgetF L mark f).2, arenaL a A, stkL s a (putL A (removeL st f).2 (findI (removeL st f).2 block + 1) tw).2, actL l a (putE A (forgetF L mark f).1 (forgetF L mark f).2 ⟨tw, tk⟩).2]) := by
 refine enterB (args := [.pointer (some ⟨b4, 0, none⟩), .pointer (some ⟨b5, 0, none⟩), .pointer (some ⟨b11, 0, none⟩), .pointer (some ⟨b12, 0, none⟩), .pointer (some ⟨b6, 0, none⟩)]) Tryz.func104 rfl rfl ?_
 have hfl : (forgetF L mark f).1.length ≤ 2000000 := by rw [forget_fst]; exact Nat.le_trans removeE_sub.length_le hL
 have hrl : (removeL st f).2.length ≤ 1000000 := by
  refine Nat.le_trans ?_ hsl
  unfold removeL
  split
  ·exact Nat.le_refl _
  ·simp; omega
 have hfb := @findI_lt (removeL st f).2 block
 have hfg := @findI_ge (removeL st f).2 block
 refine K0 (K1 (l_y rfl rfl (D5 hO rfl) ?_))
 refine l_y rfl rfl (D5 hO rfl) ?_
 refine CK [.b g, .o l] hO rfl (fun k' hx hr hO' => forget_spec (id := f) hm hL (hO := hO')) ?_
 rintro _ _ w rfl hO
 simp only [List.cons_append, List.nil_append] at hO
 refine K2 (K3 (K0 (da_region (by intro c a d v w h; cases d <;> exact h) ?_)))
 have hO := hO.drew
 refine da_phase _ [10] (SO.ks [.b b4, .b g, .b b11, .b b12] hO) ?_
 refine dx_y 0 (by kernel_rfl) rfl rfl rfl (fun w ⟨m, hw⟩ => D5 hw rfl) ?_
 refine dx_u 1 (by kernel_rfl) rfl rfl rfl (fun w => y_nilCheck rfl rfl) ?_
 refine dx_u 2 (by kernel_rfl) rfl rfl rfl (fun w => y_fldb (o' := 2) rfl) ?_
 refine dx_y 3 (by kernel_rfl) rfl rfl rfl (fun w ⟨m, hw⟩ => D5 hw rfl) ?_
 refine dx_y 4 (by kernel_rfl) rfl rfl rfl (fun w ⟨m, hw⟩ => D5 hw rfl) ?_
 refine dx_u 5 (by kernel_rfl) rfl rfl rfl (fun w => y_nilCheck rfl rfl) ?_
 refine dx_u 6 (by kernel_rfl) rfl rfl rfl (fun w => y_fldb (o' := 6) rfl) ?_
 refine dx_y 7 (by kernel_rfl) rfl rfl rfl (fun w ⟨m, hw⟩ => D5 hw rfl) ?_
 refine dx_y 8 (by kernel_rfl) rfl rfl rfl (fun w ⟨m, hw⟩ => D5 hw rfl) ?_
 refine dx_y 9 (by kernel_rfl) rfl rfl rfl (fun w ⟨m, hw⟩ => D8 (cs := [.int .i64 tk.Kind, .string tk.Name, .string tk.Data, .string tk.System, .int .i64 tk.Has, .bool tk.Quirks, .int .i32 tk.Char, .bool tk.Self, .slice tk.AttrsP tk.Attrs.length tk.AttrsC]) hw rfl) ?_
 refine dx_close 10 (by kernel_rfl) rfl rfl ?_
 refine CK [.o a, .o l] hO rfl (fun k' hx hr hO' => aPut_spec (id := tw) (i := (forgetF L mark f).2) (tk := tk) h.pos h.attrs hfl (hO := hO')) ?_
 rintro _ _ w ⟨rfl, rfl⟩ hO
 simp only [List.cons_append, List.nil_append] at hO
 refine o_done (da_end (by kernel_rfl) ?_)
 refine K3 (K0 (da_region (by intro c a d v w h; cases d <;> exact h) ?_))
 have hO := hO.drew
 refine da_phase _ [5] (SO.ks [.b b4, .b g, .b b5] hO) ?_
 refine dx_y 0 (by kernel_rfl) rfl rfl rfl (fun w ⟨m, hw⟩ => D5 hw rfl) ?_
 refine dx_u 1 (by kernel_rfl) rfl rfl rfl (fun w => y_nilCheck rfl rfl) ?_
 refine dx_u 2 (by kernel_rfl) rfl rfl rfl (fun w => y_fldb (o' := 1) rfl) ?_
 refine dx_y 3 (by kernel_rfl) rfl rfl rfl (fun w ⟨m, hw⟩ => D5 hw rfl) ?_
 refine dx_y 4 (by kernel_rfl) rfl rfl rfl (fun w ⟨m, hw⟩ => D5 hw rfl) ?_
 refine dx_close 5 (by kernel_rfl) rfl rfl ?_
 refine CK [.o s] hO rfl (fun k' hx hr hO' => sRemove_spec (id := f) hsl (hO := hO')) ?_
 rintro _ _ w ⟨rfl, rfl⟩ hO
 simp only [List.cons_append, List.nil_append] at hO
 refine o_done (da_end (by kernel_rfl) ?_)
 refine K3 (da_region (by intro c a d v w h; cases d <;> exact h) ?_)
 have hO := hO.drew
 refine da_phase _ [12] (SO.ks [.b b4, .b g, .b b6, .b b11] hO) ?_
 refine dx_y 0 (by kernel_rfl) rfl rfl rfl (fun w ⟨m, hw⟩ => D5 hw rfl) ?_
 refine dx_u 1 (by kernel_rfl) rfl rfl rfl (fun w => y_nilCheck rfl rfl) ?_
 refine dx_u 2 (by kernel_rfl) rfl rfl rfl (fun w => y_fldb (o' := 1) rfl) ?_
 refine dx_y 3 (by kernel_rfl) rfl rfl rfl (fun w ⟨m, hw⟩ => D5 hw rfl) ?_
 refine dx_y 4 (by kernel_rfl) rfl rfl rfl (fun w ⟨m, hw⟩ => D5 hw rfl) ?_
 refine dx_u 5 (by kernel_rfl) rfl rfl rfl (fun w => y_nilCheck rfl rfl) ?_
 refine dx_u 6 (by kernel_rfl) rfl rfl rfl (fun w => y_fldb (o' := 1) rfl) ?_
 refine dx_y 7 (by kernel_rfl) rfl rfl rfl (fun w ⟨m, hw⟩ => D5 hw rfl) ?_
 refine dx_y 8 (by kernel_rfl) rfl rfl rfl (fun w ⟨m, hw⟩ => D5 hw rfl) ?_
 refine dx_y 11 (by kernel_rfl) rfl rfl rfl (fun w ⟨m, hw⟩ => D5 hw rfl) ?_
 refine dx_only 9 (by kernel_rfl) rfl rfl ?_
 refine CK [.o s] hO rfl (fun k' hx hr hO' => sFindC_spec (x := block) hrl (hO := hO')) ?_
 rintro _ _ w ⟨rfl, rfl⟩ hO
 simp only [List.cons_append, List.nil_append] at hO
 refine o_done (⟨SO.ks [.b b4, .b g, .b b6, .b b11] hO, ?_⟩)
 refine dx_u 10 (by kernel_rfl) rfl rfl rfl (fun w => D4) ?_
 refine dx_close 12 (by kernel_rfl) rfl rfl ?_
 refine CK [.o a, .o s] hO rfl (fun k' hx hr hO' => sPut_spec (i := findI (removeL st f).2 block + 1) (id := tw) h.pos h.attrs hrl (hO := hO')) ?_
 rintro _ _ w ⟨rfl, rfl⟩ hO
 simp only [List.cons_append, List.nil_append] at hO
 refine o_done (da_end (by kernel_rfl) ?_)
 exact fin0 rfl ⟨_, rfl, hO.only [.b g, .o a, .o s, .o l]⟩
end
section
variable {k : Ctx} {w : World} {g a s l : Nat} {nm : ByteArray} {fo : Bool} {errs mark : Int} {A : List Node_one} {K : Int → List Int} {st : List Int} {L : List Api_entry}
set_option maxHeartbeats 4000000 in
theorem swap_spec {f block below : Int} {a0 n0 ln : Nat} (hI0 : AgI f a0 n0 ln ⟨A, st, L, findE L f, block, findI st block, 0⟩) (hn0 : n0 + 8 ≤ 32768) (hln : ln ≤ 2000000) (hbl : InA A below) (hbk : InA A block) (hO : Own k w [agB g a s l nm fo errs mark, arenaL a A, stkL s a st, actL l a L]) :
    Tri Tryz.prog 78 #[.pointer (some ⟨g, 0, none⟩), .int .i64 f, .int .i64 block, .int .i64 below] k w fun v m => ∃ A' st' L' y q d Kz mk, SwD f block below fo ⟨A, st, L, findE L f, block, findI st block, 0⟩ A' st' L' y q d Kz ∧ (0 ≤ mk ∧ mk ≤ 2000000) ∧ m = [agB g a s l nm fo errs mk, arenaL a A', stkL s a st', actL l a L'] := by
  refine enterD (args := [.pointer (some ⟨g, 0, none⟩), .int .i64 f, .int .i64 block, .int .i64 below]) Tryz.func78 rfl rfl ?_
  have hLL : L.length ≤ 2000000 := Nat.le_trans hI0.ll hln
  refine K0 (K1 (s_box (vs := [.pointer (some ⟨g, 0, none⟩)]) hO rfl rfl rfl (by rfl) fun b4 w hO => ?_))
  refine s_box (vs := [.int .i64 f]) hO rfl rfl rfl (by rfl) fun b5 w hO => ?_
  refine s_box (vs := [.int .i64 block]) hO rfl rfl rfl (by rfl) fun b6 w hO => ?_
  refine K2 (K3 (K0 (da_regM ?_)))
  have hO := hO.drew
  refine da_phase _ [9] (SO.ks [.b b4, .b g, .b b5] hO) ?_
  refine dx_y 0 (by kernel_rfl) rfl rfl rfl (fun w ⟨m, hw⟩ => D5 hw rfl) ?_
  refine dx_y 1 (by kernel_rfl) rfl rfl rfl (fun w ⟨m, hw⟩ => D5 hw rfl) ?_
  refine dx_u 2 (by kernel_rfl) rfl rfl rfl (fun w => y_nilCheck rfl rfl) ?_
  refine dx_u 3 (by kernel_rfl) rfl rfl rfl (fun w => y_fldb (o' := 2) rfl) ?_
  refine dx_y 4 (by kernel_rfl) rfl rfl rfl (fun w ⟨m, hw⟩ => D5 hw rfl) ?_
  refine dx_y 5 (by kernel_rfl) rfl rfl rfl (fun w ⟨m, hw⟩ => D5 hw rfl) ?_
  refine dx_only 6 (by kernel_rfl) rfl rfl ?_
  refine CK [.o l] hO rfl (fun k' hx hr hO' => aFind_spec hLL (hO := hO')) ?_
  rintro _ _ w ⟨rfl, rfl⟩ hO
  simp only [List.cons_append, List.nil_append] at hO
  refine o_done (⟨SO.ks [.b b4, .b g, .b b5] hO, ?_⟩)
  refine dx_u 7 (by kernel_rfl) rfl rfl rfl (fun w => y_nilCheck rfl rfl) ?_
  refine dx_u 8 (by kernel_rfl) rfl rfl rfl (fun w => y_fldb (o' := 6) rfl) ?_
  refine dx_close 9 (by kernel_rfl) rfl rfl ?_
  refine Y1 hO rfl rfl (fun w hO => ?_)
  simp only [List.set_cons_zero, List.set_cons_succ] at hO
  refine o_done (da_end (by kernel_rfl) (q_nopan ?_))
  refine K3 (K0 (K1 (l_y rfl rfl (D5 hO rfl) ?_)))
  refine l_y rfl rfl (D5 hO rfl) ?_
  refine l_y rfl rfl (D5 hO rfl) ?_
  refine CK [.b g, .o a, .o s, .o l] hO rfl (fun k' hx hr hO' => descend_spec hI0 (by omega) hln (hO := hO')) ?_
  rintro _ _ w ⟨y, hy, rfl, rfl⟩ hO
  simp only [List.cons_append, List.nil_append] at hO
  have hIy := hy.keep k (by omega) hI0
  have hkk := hy.keepK k (by omega) hI0
  obtain ⟨Ky, ty⟩ := hIy.ai.tree
  have hyl : y.st.length ≤ 1000000 := Nat.le_trans hIy.si.len (Nat.le_trans hIy.len (by omega))
  have hyL : y.L.length ≤ 2000000 := Nat.le_trans hIy.ll hln
  have hsp := spotV_ok (fo := fo) ty hIy.ai.wi hIy.si.el (hbl.keeps hkk)
  have hyA := hIy.len
  obtain ⟨sp, hspe⟩ : ∃ sp, sp = (spotV y.A y.st below fo).1 := ⟨_, rfl⟩
  rw [← hspe] at hsp
  have hA2 := hIy.ai.put sp y.last
  have hK2 := hIy.ai.keeps sp y.last
  have hl2 : (putF y.A sp y.last).length = y.A.length := putF_len
  have hfy := findE_at hIy.fl
  have hent := (hIy.li.ent _ (at_mem hfy.1)).resolve_left (by rw [hfy.2.1]; exact hfy.2.2)
  refine V2 rfl rfl rfl (K2 (K3 ?_))
  refine c_cut (X := Nat) (fun b9 => [(4, .pointer (some ⟨b4, 0, none⟩)), (5, .pointer (some ⟨b5, 0, none⟩)), (6, .pointer (some ⟨b6, 0, none⟩)), (8, .int .i64 y.last), (9, .pointer (some ⟨b9, 0, none⟩))]) (fun b9 w => Own k w [blk b4 80 [.pointer (some ⟨g, 0, none⟩)], blk b5 3 [.int .i64 f], blk b9 135 (Api_spot.cells sp), blk b6 3 [.int .i64 block], agB g a s l nm fo errs y.mark, arenaL a y.A, stkL s a y.st, actL l a y.L] ∧ True) ?_ ?_
  · refine da_regM ?_
    have hO := hO.drew
    refine da_phase _ [18] (SO.ks [.b b4, .b g] hO) ?_
    refine dx_y 0 (by kernel_rfl) rfl rfl rfl (fun w ⟨m, hw⟩ => D5 hw rfl) ?_
    refine dx_u 1 (by kernel_rfl) rfl rfl rfl (fun w => y_nilCheck rfl rfl) ?_
    refine dx_u 2 (by kernel_rfl) rfl rfl rfl (fun w => y_fldb (o' := 0) rfl) ?_
    refine dx_y 3 (by kernel_rfl) rfl rfl rfl (fun w ⟨m, hw⟩ => D5 hw rfl) ?_
    refine dx_y 4 (by kernel_rfl) rfl rfl rfl (fun w ⟨m, hw⟩ => D5 hw rfl) ?_
    refine dx_u 5 (by kernel_rfl) rfl rfl rfl (fun w => y_nilCheck rfl rfl) ?_
    refine dx_u 6 (by kernel_rfl) rfl rfl rfl (fun w => y_fldb (o' := 1) rfl) ?_
    refine dx_y 7 (by kernel_rfl) rfl rfl rfl (fun w ⟨m, hw⟩ => D5 hw rfl) ?_
    refine dx_u 8 (by kernel_rfl) rfl rfl rfl (fun w => y_move rfl) ?_
    refine dx_y 9 (by kernel_rfl) rfl rfl rfl (fun w ⟨m, hw⟩ => D5 hw rfl) ?_
    refine dx_u 10 (by kernel_rfl) rfl rfl rfl (fun w => y_nilCheck rfl rfl) ?_
    refine dx_u 11 (by kernel_rfl) rfl rfl rfl (fun w => y_fldb (o' := 4) rfl) ?_
    refine dx_y 12 (by kernel_rfl) rfl rfl rfl (fun w ⟨m, hw⟩ => D5 hw rfl) ?_
    refine dx_two 13 17 (by kernel_rfl) rfl rfl rfl rfl ?_ ?_
    · refine CK [.o a, .o s] hO rfl (fun k' hx hr hO' => Spot_spec (target := below) (f := fo) hIy.ai.pos hIy.ai.attrs hIy.si.el hyl (FosOk.of ty hIy.ai.wi hIy.si.el) (hO := hO')) ?_
      rintro _ _ w ⟨rfl, rfl⟩ hO
      simp only [List.cons_append, List.nil_append] at hO
      rw [← hspe]
      refine o_done (⟨SO.ks [.b b4, .b g] hO, ?_⟩)
      refine dx_u 14 (by kernel_rfl) rfl rfl rfl (fun w => y_move rfl) ?_
      refine dx_u 15 (by kernel_rfl) rfl rfl rfl (fun w => y_extract rfl rfl) ?_
      refine dx_u 16 (by kernel_rfl) rfl rfl rfl (fun w => y_extract rfl rfl) ?_
      refine dx_only 17 (by kernel_rfl) rfl rfl ?_
      refine s_alloc (vs := [.int .i64 0, .int .i64 0]) hO rfl rfl rfl fun b9 w hO => ?_
      refine o_done (⟨SO.ks [.b b4, .b g] hO, ?_⟩)
      refine dx_close 18 (by kernel_rfl) rfl rfl ?_
      refine Y3 hO rfl rfl (fun w hO => ?_)
      refine o_done (da_phase _ [] (SO.ks [] hO) ?_)
      refine dx_u 19 (by kernel_rfl) rfl rfl rfl (fun w => y_assign rfl) ?_
      refine dx_end (by kernel_rfl) (q_nopan ?_)
      exact q_cut (b9) ⟨rfl, rfl, rfl, rfl, rfl, trivial⟩ ⟨hO.only [.b b4, .b b5, .b b9, .b b6, .b g, .o a, .o s, .o l], trivial⟩
    · refine s_alloc (vs := [.int .i64 0, .int .i64 0]) hO rfl rfl rfl fun b9 w hO => ?_
      refine o_done (⟨SO.ks [.b b4, .b g] hO, ?_⟩)
      refine dx_only 13 (by kernel_rfl) rfl rfl ?_
      refine CK [.o a, .o s] hO rfl (fun k' hx hr hO' => Spot_spec (target := below) (f := fo) hIy.ai.pos hIy.ai.attrs hIy.si.el hyl (FosOk.of ty hIy.ai.wi hIy.si.el) (hO := hO')) ?_
      rintro _ _ w ⟨rfl, rfl⟩ hO
      simp only [List.cons_append, List.nil_append] at hO
      rw [← hspe]
      refine o_done (⟨SO.ks [.b b4, .b g] hO, ?_⟩)
      refine dx_u 14 (by kernel_rfl) rfl rfl rfl (fun w => y_move rfl) ?_
      refine dx_u 15 (by kernel_rfl) rfl rfl rfl (fun w => y_extract rfl rfl) ?_
      refine dx_u 16 (by kernel_rfl) rfl rfl rfl (fun w => y_extract rfl rfl) ?_
      refine dx_close 18 (by kernel_rfl) rfl rfl ?_
      refine Y3 hO rfl rfl (fun w hO => ?_)
      refine o_done (da_phase _ [] (SO.ks [] hO) ?_)
      refine dx_u 19 (by kernel_rfl) rfl rfl rfl (fun w => y_assign rfl) ?_
      refine dx_end (by kernel_rfl) (q_nopan ?_)
      exact q_cut (b9) ⟨rfl, rfl, rfl, rfl, rfl, trivial⟩ ⟨hO.only [.b b4, .b b5, .b b9, .b b6, .b g, .o a, .o s, .o l], trivial⟩
  · rintro b9 w ⟨hO, _⟩
    refine K0 (da_regM ?_)
    have hO := hO.drew
    refine da_phase _ [6] (SO.ks [.b b4, .b g, .b b9] hO) ?_
    refine dx_y 0 (by kernel_rfl) rfl rfl rfl (fun w ⟨m, hw⟩ => D5 hw rfl) ?_
    refine dx_u 1 (by kernel_rfl) rfl rfl rfl (fun w => y_nilCheck rfl rfl) ?_
    refine dx_u 2 (by kernel_rfl) rfl rfl rfl (fun w => y_fldb (o' := 0) rfl) ?_
    refine dx_y 3 (by kernel_rfl) rfl rfl rfl (fun w ⟨m, hw⟩ => D5 hw rfl) ?_
    refine dx_y 4 (by kernel_rfl) rfl rfl rfl (fun w ⟨m, hw⟩ => D8 (cs := [.int .i64 sp.Parent, .int .i64 sp.Before]) hw rfl) ?_
    refine dx_u 5 (by kernel_rfl) rfl rfl rfl (fun w => y_move rfl) ?_
    refine dx_close 6 (by kernel_rfl) rfl rfl ?_
    refine CK [.o a] hO rfl (fun k' hx hr hO' => PutG_spec (want := sp.Parent) (before := sp.Before) (id := y.last) hIy.ai hIy.lst hsp.1 hsp.2 (hO := hO')) ?_
    rintro _ _ w ⟨⟨e9, rfl⟩, rfl⟩ hO
    simp only [List.cons_append, List.nil_append] at hO
    refine o_done (da_end (by kernel_rfl) (q_nopan ?_))
    refine K3 ?_
    refine c_cut (X := Option Addr × Nat × Nat × Nat) (fun z => [(4, .pointer (some ⟨b4, 0, none⟩)), (5, .pointer (some ⟨b5, 0, none⟩)), (6, .pointer (some ⟨b6, 0, none⟩)), (11, .pointer (some ⟨z.2.2.1, 0, none⟩)), (12, .pointer (some ⟨z.2.2.2, 0, none⟩))]) (fun z w => Own k w [blk b4 80 [.pointer (some ⟨g, 0, none⟩)], blk b5 3 [.int .i64 f], blk z.2.2.1 3 [.int .i64 (swE y f below fo z.1 z.2.1).1], blk z.2.2.2 53 (Api_token.cells (at_ y.L (findE y.L f).toNat).Token), blk b6 3 [.int .i64 block], agB g a s l nm fo errs y.mark, arenaL a (swE y f below fo z.1 z.2.1).2.2, stkL s a y.st, actL l a y.L] ∧ True) ?_ ?_
    · refine da_regM ?_
      have hO := hO.drew
      refine da_phase _ [13] (SO.ks [.b b4, .b g, .b b5] hO) ?_
      refine dx_y 0 (by kernel_rfl) rfl rfl rfl (fun w ⟨m, hw⟩ => D5 hw rfl) ?_
      refine dx_y 1 (by kernel_rfl) rfl rfl rfl (fun w ⟨m, hw⟩ => D5 hw rfl) ?_
      refine dx_u 2 (by kernel_rfl) rfl rfl rfl (fun w => y_nilCheck rfl rfl) ?_
      refine dx_u 3 (by kernel_rfl) rfl rfl rfl (fun w => y_fldb (o' := 2) rfl) ?_
      refine dx_y 4 (by kernel_rfl) rfl rfl rfl (fun w ⟨m, hw⟩ => D5 hw rfl) ?_
      refine dx_y 5 (by kernel_rfl) rfl rfl rfl (fun w ⟨m, hw⟩ => D5 hw rfl) ?_
      refine dx_three 6 11 12 (by kernel_rfl) rfl rfl rfl rfl rfl rfl ?_ ?_ ?_
      · refine CK [.o l] hO rfl (fun k' hx hr hO' => aFind_spec hyL (hO := hO')) ?_
        rintro _ _ w ⟨rfl, rfl⟩ hO
        simp only [List.cons_append, List.nil_append] at hO
        refine o_done (⟨SO.ks [.b b4, .b g, .b b5] hO, ?_⟩)
        refine dx_three 7 11 12 (by kernel_rfl) rfl rfl rfl rfl rfl rfl ?_ ?_ ?_
        · refine CK [.b g, .o a, .o l] hO rfl (fun k' hx hr hO' => fresh_specA (e := at_ y.L (findE y.L f).toNat) hA2.pos (by show (putF y.A sp y.last).length ≤ 32768; omega) hyL ⟨hIy.fl, by omega⟩ rfl (hIy.li.tok _ (at_mem hfy.1)) (hO := hO')) ?_
          rintro _ _ w ⟨q1, d1, rfl, rfl⟩ hO
          simp only [List.cons_append, List.nil_append] at hO
          have hEe : elementL (putF y.A ⟨sp.Parent, sp.Before⟩ y.last) 0 (at_ y.L (findE y.L f).toNat).Token.Name [] q1 d1 = swE y f below fo q1 d1 := by rw [swE, ← hspe]; rfl
          rw [hEe] at hO ⊢
          refine o_done (⟨SO.ks [.b b4, .b g, .b b5] hO, ?_⟩)
          refine dx_u 8 (by kernel_rfl) rfl rfl rfl (fun w => y_move rfl) ?_
          refine dx_u 9 (by kernel_rfl) rfl rfl rfl (fun w => y_extract rfl rfl) ?_
          refine dx_u 10 (by kernel_rfl) rfl rfl rfl (fun w => y_extract rfl rfl) ?_
          refine dx_two 11 12 (by kernel_rfl) rfl rfl rfl rfl ?_ ?_
          · refine s_alloc (vs := [.int .i64 0]) hO rfl rfl rfl fun b11 w hO => ?_
            refine o_done (⟨SO.ks [.b b4, .b g, .b b5] hO, ?_⟩)
            refine dx_only 12 (by kernel_rfl) rfl rfl ?_
            refine s_alloc (vs := [.int .i64 0, .string ⟨#[]⟩, .string ⟨#[]⟩, .string ⟨#[]⟩, .int .i64 0, .bool false, .int .i32 0, .bool false, .slice none 0 0]) hO rfl rfl rfl fun b12 w hO => ?_
            refine o_done (⟨SO.ks [.b b4, .b g, .b b5] hO, ?_⟩)
            refine dx_close 13 (by kernel_rfl) rfl rfl ?_
            refine Y1 hO rfl rfl (fun w hO => ?_)
            simp only [List.set_cons_zero, List.set_cons_succ] at hO
            refine o_done (da_only 14 (by kernel_rfl) rfl ?_)
            refine Y3 hO rfl rfl (fun w hO => ?_)
            refine o_done (da_end (by kernel_rfl) (q_nopan ?_))
            exact q_cut ((q1, d1, b11, b12)) ⟨rfl, rfl, rfl, rfl, rfl, trivial⟩ ⟨hO.only [.b b4, .b b5, .b b11, .b b12, .b b6, .b g, .o a, .o s, .o l], trivial⟩
          · refine s_alloc (vs := [.int .i64 0, .string ⟨#[]⟩, .string ⟨#[]⟩, .string ⟨#[]⟩, .int .i64 0, .bool false, .int .i32 0, .bool false, .slice none 0 0]) hO rfl rfl rfl fun b12 w hO => ?_
            refine o_done (⟨SO.ks [.b b4, .b g, .b b5] hO, ?_⟩)
            refine dx_only 11 (by kernel_rfl) rfl rfl ?_
            refine s_alloc (vs := [.int .i64 0]) hO rfl rfl rfl fun b11 w hO => ?_
            refine o_done (⟨SO.ks [.b b4, .b g, .b b5] hO, ?_⟩)
            refine dx_close 13 (by kernel_rfl) rfl rfl ?_
            refine Y1 hO rfl rfl (fun w hO => ?_)
            simp only [List.set_cons_zero, List.set_cons_succ] at hO
            refine o_done (da_only 14 (by kernel_rfl) rfl ?_)
            refine Y3 hO rfl rfl (fun w hO => ?_)
            refine o_done (da_end (by kernel_rfl) (q_nopan ?_))
            exact q_cut ((q1, d1, b11, b12)) ⟨rfl, rfl, rfl, rfl, rfl, trivial⟩ ⟨hO.only [.b b4, .b b5, .b b11, .b b12, .b b6, .b g, .o a, .o s, .o l], trivial⟩
        · refine s_alloc (vs := [.int .i64 0]) hO rfl rfl rfl fun b11 w hO => ?_
          refine o_done (⟨SO.ks [.b b4, .b g, .b b5] hO, ?_⟩)
          refine dx_two 7 12 (by kernel_rfl) rfl rfl rfl rfl ?_ ?_
          · refine CK [.b g, .o a, .o l] hO rfl (fun k' hx hr hO' => fresh_specA (e := at_ y.L (findE y.L f).toNat) hA2.pos (by show (putF y.A sp y.last).length ≤ 32768; omega) hyL ⟨hIy.fl, by omega⟩ rfl (hIy.li.tok _ (at_mem hfy.1)) (hO := hO')) ?_
            rintro _ _ w ⟨q1, d1, rfl, rfl⟩ hO
            simp only [List.cons_append, List.nil_append] at hO
            have hEe : elementL (putF y.A ⟨sp.Parent, sp.Before⟩ y.last) 0 (at_ y.L (findE y.L f).toNat).Token.Name [] q1 d1 = swE y f below fo q1 d1 := by rw [swE, ← hspe]; rfl
            rw [hEe] at hO ⊢
            refine o_done (⟨SO.ks [.b b4, .b g, .b b5] hO, ?_⟩)
            refine dx_u 8 (by kernel_rfl) rfl rfl rfl (fun w => y_move rfl) ?_
            refine dx_u 9 (by kernel_rfl) rfl rfl rfl (fun w => y_extract rfl rfl) ?_
            refine dx_u 10 (by kernel_rfl) rfl rfl rfl (fun w => y_extract rfl rfl) ?_
            refine dx_only 12 (by kernel_rfl) rfl rfl ?_
            refine s_alloc (vs := [.int .i64 0, .string ⟨#[]⟩, .string ⟨#[]⟩, .string ⟨#[]⟩, .int .i64 0, .bool false, .int .i32 0, .bool false, .slice none 0 0]) hO rfl rfl rfl fun b12 w hO => ?_
            refine o_done (⟨SO.ks [.b b4, .b g, .b b5] hO, ?_⟩)
            refine dx_close 13 (by kernel_rfl) rfl rfl ?_
            refine Y1 hO rfl rfl (fun w hO => ?_)
            simp only [List.set_cons_zero, List.set_cons_succ] at hO
            refine o_done (da_only 14 (by kernel_rfl) rfl ?_)
            refine Y3 hO rfl rfl (fun w hO => ?_)
            refine o_done (da_end (by kernel_rfl) (q_nopan ?_))
            exact q_cut ((q1, d1, b11, b12)) ⟨rfl, rfl, rfl, rfl, rfl, trivial⟩ ⟨hO.only [.b b4, .b b5, .b b11, .b b12, .b b6, .b g, .o a, .o s, .o l], trivial⟩
          · refine s_alloc (vs := [.int .i64 0, .string ⟨#[]⟩, .string ⟨#[]⟩, .string ⟨#[]⟩, .int .i64 0, .bool false, .int .i32 0, .bool false, .slice none 0 0]) hO rfl rfl rfl fun b12 w hO => ?_
            refine o_done (⟨SO.ks [.b b4, .b g, .b b5] hO, ?_⟩)
            refine dx_only 7 (by kernel_rfl) rfl rfl ?_
            refine CK [.b g, .o a, .o l] hO rfl (fun k' hx hr hO' => fresh_specA (e := at_ y.L (findE y.L f).toNat) hA2.pos (by show (putF y.A sp y.last).length ≤ 32768; omega) hyL ⟨hIy.fl, by omega⟩ rfl (hIy.li.tok _ (at_mem hfy.1)) (hO := hO')) ?_
            rintro _ _ w ⟨q1, d1, rfl, rfl⟩ hO
            simp only [List.cons_append, List.nil_append] at hO
            have hEe : elementL (putF y.A ⟨sp.Parent, sp.Before⟩ y.last) 0 (at_ y.L (findE y.L f).toNat).Token.Name [] q1 d1 = swE y f below fo q1 d1 := by rw [swE, ← hspe]; rfl
            rw [hEe] at hO ⊢
            refine o_done (⟨SO.ks [.b b4, .b g, .b b5] hO, ?_⟩)
            refine dx_u 8 (by kernel_rfl) rfl rfl rfl (fun w => y_move rfl) ?_
            refine dx_u 9 (by kernel_rfl) rfl rfl rfl (fun w => y_extract rfl rfl) ?_
            refine dx_u 10 (by kernel_rfl) rfl rfl rfl (fun w => y_extract rfl rfl) ?_
            refine dx_close 13 (by kernel_rfl) rfl rfl ?_
            refine Y1 hO rfl rfl (fun w hO => ?_)
            simp only [List.set_cons_zero, List.set_cons_succ] at hO
            refine o_done (da_only 14 (by kernel_rfl) rfl ?_)
            refine Y3 hO rfl rfl (fun w hO => ?_)
            refine o_done (da_end (by kernel_rfl) (q_nopan ?_))
            exact q_cut ((q1, d1, b11, b12)) ⟨rfl, rfl, rfl, rfl, rfl, trivial⟩ ⟨hO.only [.b b4, .b b5, .b b11, .b b12, .b b6, .b g, .o a, .o s, .o l], trivial⟩
        · refine s_alloc (vs := [.int .i64 0, .string ⟨#[]⟩, .string ⟨#[]⟩, .string ⟨#[]⟩, .int .i64 0, .bool false, .int .i32 0, .bool false, .slice none 0 0]) hO rfl rfl rfl fun b12 w hO => ?_
          refine o_done (⟨SO.ks [.b b4, .b g, .b b5] hO, ?_⟩)
          refine dx_two 7 11 (by kernel_rfl) rfl rfl rfl rfl ?_ ?_
          · refine CK [.b g, .o a, .o l] hO rfl (fun k' hx hr hO' => fresh_specA (e := at_ y.L (findE y.L f).toNat) hA2.pos (by show (putF y.A sp y.last).length ≤ 32768; omega) hyL ⟨hIy.fl, by omega⟩ rfl (hIy.li.tok _ (at_mem hfy.1)) (hO := hO')) ?_
            rintro _ _ w ⟨q1, d1, rfl, rfl⟩ hO
            simp only [List.cons_append, List.nil_append] at hO
            have hEe : elementL (putF y.A ⟨sp.Parent, sp.Before⟩ y.last) 0 (at_ y.L (findE y.L f).toNat).Token.Name [] q1 d1 = swE y f below fo q1 d1 := by rw [swE, ← hspe]; rfl
            rw [hEe] at hO ⊢
            refine o_done (⟨SO.ks [.b b4, .b g, .b b5] hO, ?_⟩)
            refine dx_u 8 (by kernel_rfl) rfl rfl rfl (fun w => y_move rfl) ?_
            refine dx_u 9 (by kernel_rfl) rfl rfl rfl (fun w => y_extract rfl rfl) ?_
            refine dx_u 10 (by kernel_rfl) rfl rfl rfl (fun w => y_extract rfl rfl) ?_
            refine dx_only 11 (by kernel_rfl) rfl rfl ?_
            refine s_alloc (vs := [.int .i64 0]) hO rfl rfl rfl fun b11 w hO => ?_
            refine o_done (⟨SO.ks [.b b4, .b g, .b b5] hO, ?_⟩)
            refine dx_close 13 (by kernel_rfl) rfl rfl ?_
            refine Y1 hO rfl rfl (fun w hO => ?_)
            simp only [List.set_cons_zero, List.set_cons_succ] at hO
            refine o_done (da_only 14 (by kernel_rfl) rfl ?_)
            refine Y3 hO rfl rfl (fun w hO => ?_)
            refine o_done (da_end (by kernel_rfl) (q_nopan ?_))
            exact q_cut ((q1, d1, b11, b12)) ⟨rfl, rfl, rfl, rfl, rfl, trivial⟩ ⟨hO.only [.b b4, .b b5, .b b11, .b b12, .b b6, .b g, .o a, .o s, .o l], trivial⟩
          · refine s_alloc (vs := [.int .i64 0]) hO rfl rfl rfl fun b11 w hO => ?_
            refine o_done (⟨SO.ks [.b b4, .b g, .b b5] hO, ?_⟩)
            refine dx_only 7 (by kernel_rfl) rfl rfl ?_
            refine CK [.b g, .o a, .o l] hO rfl (fun k' hx hr hO' => fresh_specA (e := at_ y.L (findE y.L f).toNat) hA2.pos (by show (putF y.A sp y.last).length ≤ 32768; omega) hyL ⟨hIy.fl, by omega⟩ rfl (hIy.li.tok _ (at_mem hfy.1)) (hO := hO')) ?_
            rintro _ _ w ⟨q1, d1, rfl, rfl⟩ hO
            simp only [List.cons_append, List.nil_append] at hO
            have hEe : elementL (putF y.A ⟨sp.Parent, sp.Before⟩ y.last) 0 (at_ y.L (findE y.L f).toNat).Token.Name [] q1 d1 = swE y f below fo q1 d1 := by rw [swE, ← hspe]; rfl
            rw [hEe] at hO ⊢
            refine o_done (⟨SO.ks [.b b4, .b g, .b b5] hO, ?_⟩)
            refine dx_u 8 (by kernel_rfl) rfl rfl rfl (fun w => y_move rfl) ?_
            refine dx_u 9 (by kernel_rfl) rfl rfl rfl (fun w => y_extract rfl rfl) ?_
            refine dx_u 10 (by kernel_rfl) rfl rfl rfl (fun w => y_extract rfl rfl) ?_
            refine dx_close 13 (by kernel_rfl) rfl rfl ?_
            refine Y1 hO rfl rfl (fun w hO => ?_)
            simp only [List.set_cons_zero, List.set_cons_succ] at hO
            refine o_done (da_only 14 (by kernel_rfl) rfl ?_)
            refine Y3 hO rfl rfl (fun w hO => ?_)
            refine o_done (da_end (by kernel_rfl) (q_nopan ?_))
            exact q_cut ((q1, d1, b11, b12)) ⟨rfl, rfl, rfl, rfl, rfl, trivial⟩ ⟨hO.only [.b b4, .b b5, .b b11, .b b12, .b b6, .b g, .o a, .o s, .o l], trivial⟩
      · refine s_alloc (vs := [.int .i64 0]) hO rfl rfl rfl fun b11 w hO => ?_
        refine o_done (⟨SO.ks [.b b4, .b g, .b b5] hO, ?_⟩)
        refine dx_two 6 12 (by kernel_rfl) rfl rfl rfl rfl ?_ ?_
        · refine CK [.o l] hO rfl (fun k' hx hr hO' => aFind_spec hyL (hO := hO')) ?_
          rintro _ _ w ⟨rfl, rfl⟩ hO
          simp only [List.cons_append, List.nil_append] at hO
          refine o_done (⟨SO.ks [.b b4, .b g, .b b5] hO, ?_⟩)
          refine dx_two 7 12 (by kernel_rfl) rfl rfl rfl rfl ?_ ?_
          · refine CK [.b g, .o a, .o l] hO rfl (fun k' hx hr hO' => fresh_specA (e := at_ y.L (findE y.L f).toNat) hA2.pos (by show (putF y.A sp y.last).length ≤ 32768; omega) hyL ⟨hIy.fl, by omega⟩ rfl (hIy.li.tok _ (at_mem hfy.1)) (hO := hO')) ?_
            rintro _ _ w ⟨q1, d1, rfl, rfl⟩ hO
            simp only [List.cons_append, List.nil_append] at hO
            have hEe : elementL (putF y.A ⟨sp.Parent, sp.Before⟩ y.last) 0 (at_ y.L (findE y.L f).toNat).Token.Name [] q1 d1 = swE y f below fo q1 d1 := by rw [swE, ← hspe]; rfl
            rw [hEe] at hO ⊢
            refine o_done (⟨SO.ks [.b b4, .b g, .b b5] hO, ?_⟩)
            refine dx_u 8 (by kernel_rfl) rfl rfl rfl (fun w => y_move rfl) ?_
            refine dx_u 9 (by kernel_rfl) rfl rfl rfl (fun w => y_extract rfl rfl) ?_
            refine dx_u 10 (by kernel_rfl) rfl rfl rfl (fun w => y_extract rfl rfl) ?_
            refine dx_only 12 (by kernel_rfl) rfl rfl ?_
            refine s_alloc (vs := [.int .i64 0, .string ⟨#[]⟩, .string ⟨#[]⟩, .string ⟨#[]⟩, .int .i64 0, .bool false, .int .i32 0, .bool false, .slice none 0 0]) hO rfl rfl rfl fun b12 w hO => ?_
            refine o_done (⟨SO.ks [.b b4, .b g, .b b5] hO, ?_⟩)
            refine dx_close 13 (by kernel_rfl) rfl rfl ?_
            refine Y1 hO rfl rfl (fun w hO => ?_)
            simp only [List.set_cons_zero, List.set_cons_succ] at hO
            refine o_done (da_only 14 (by kernel_rfl) rfl ?_)
            refine Y3 hO rfl rfl (fun w hO => ?_)
            refine o_done (da_end (by kernel_rfl) (q_nopan ?_))
            exact q_cut ((q1, d1, b11, b12)) ⟨rfl, rfl, rfl, rfl, rfl, trivial⟩ ⟨hO.only [.b b4, .b b5, .b b11, .b b12, .b b6, .b g, .o a, .o s, .o l], trivial⟩
          · refine s_alloc (vs := [.int .i64 0, .string ⟨#[]⟩, .string ⟨#[]⟩, .string ⟨#[]⟩, .int .i64 0, .bool false, .int .i32 0, .bool false, .slice none 0 0]) hO rfl rfl rfl fun b12 w hO => ?_
            refine o_done (⟨SO.ks [.b b4, .b g, .b b5] hO, ?_⟩)
            refine dx_only 7 (by kernel_rfl) rfl rfl ?_
            refine CK [.b g, .o a, .o l] hO rfl (fun k' hx hr hO' => fresh_specA (e := at_ y.L (findE y.L f).toNat) hA2.pos (by show (putF y.A sp y.last).length ≤ 32768; omega) hyL ⟨hIy.fl, by omega⟩ rfl (hIy.li.tok _ (at_mem hfy.1)) (hO := hO')) ?_
            rintro _ _ w ⟨q1, d1, rfl, rfl⟩ hO
            simp only [List.cons_append, List.nil_append] at hO
            have hEe : elementL (putF y.A ⟨sp.Parent, sp.Before⟩ y.last) 0 (at_ y.L (findE y.L f).toNat).Token.Name [] q1 d1 = swE y f below fo q1 d1 := by rw [swE, ← hspe]; rfl
            rw [hEe] at hO ⊢
            refine o_done (⟨SO.ks [.b b4, .b g, .b b5] hO, ?_⟩)
            refine dx_u 8 (by kernel_rfl) rfl rfl rfl (fun w => y_move rfl) ?_
            refine dx_u 9 (by kernel_rfl) rfl rfl rfl (fun w => y_extract rfl rfl) ?_
            refine dx_u 10 (by kernel_rfl) rfl rfl rfl (fun w => y_extract rfl rfl) ?_
            refine dx_close 13 (by kernel_rfl) rfl rfl ?_
            refine Y1 hO rfl rfl (fun w hO => ?_)
            simp only [List.set_cons_zero, List.set_cons_succ] at hO
            refine o_done (da_only 14 (by kernel_rfl) rfl ?_)
            refine Y3 hO rfl rfl (fun w hO => ?_)
            refine o_done (da_end (by kernel_rfl) (q_nopan ?_))
            exact q_cut ((q1, d1, b11, b12)) ⟨rfl, rfl, rfl, rfl, rfl, trivial⟩ ⟨hO.only [.b b4, .b b5, .b b11, .b b12, .b b6, .b g, .o a, .o s, .o l], trivial⟩
        · refine s_alloc (vs := [.int .i64 0, .string ⟨#[]⟩, .string ⟨#[]⟩, .string ⟨#[]⟩, .int .i64 0, .bool false, .int .i32 0, .bool false, .slice none 0 0]) hO rfl rfl rfl fun b12 w hO => ?_
          refine o_done (⟨SO.ks [.b b4, .b g, .b b5] hO, ?_⟩)
          refine dx_only 6 (by kernel_rfl) rfl rfl ?_
          refine CK [.o l] hO rfl (fun k' hx hr hO' => aFind_spec hyL (hO := hO')) ?_
          rintro _ _ w ⟨rfl, rfl⟩ hO
          simp only [List.cons_append, List.nil_append] at hO
          refine o_done (⟨SO.ks [.b b4, .b g, .b b5] hO, ?_⟩)
          refine dx_only 7 (by kernel_rfl) rfl rfl ?_
          refine CK [.b g, .o a, .o l] hO rfl (fun k' hx hr hO' => fresh_specA (e := at_ y.L (findE y.L f).toNat) hA2.pos (by show (putF y.A sp y.last).length ≤ 32768; omega) hyL ⟨hIy.fl, by omega⟩ rfl (hIy.li.tok _ (at_mem hfy.1)) (hO := hO')) ?_
          rintro _ _ w ⟨q1, d1, rfl, rfl⟩ hO
          simp only [List.cons_append, List.nil_append] at hO
          have hEe : elementL (putF y.A ⟨sp.Parent, sp.Before⟩ y.last) 0 (at_ y.L (findE y.L f).toNat).Token.Name [] q1 d1 = swE y f below fo q1 d1 := by rw [swE, ← hspe]; rfl
          rw [hEe] at hO ⊢
          refine o_done (⟨SO.ks [.b b4, .b g, .b b5] hO, ?_⟩)
          refine dx_u 8 (by kernel_rfl) rfl rfl rfl (fun w => y_move rfl) ?_
          refine dx_u 9 (by kernel_rfl) rfl rfl rfl (fun w => y_extract rfl rfl) ?_
          refine dx_u 10 (by kernel_rfl) rfl rfl rfl (fun w => y_extract rfl rfl) ?_
          refine dx_close 13 (by kernel_rfl) rfl rfl ?_
          refine Y1 hO rfl rfl (fun w hO => ?_)
          simp only [List.set_cons_zero, List.set_cons_succ] at hO
          refine o_done (da_only 14 (by kernel_rfl) rfl ?_)
          refine Y3 hO rfl rfl (fun w hO => ?_)
          refine o_done (da_end (by kernel_rfl) (q_nopan ?_))
          exact q_cut ((q1, d1, b11, b12)) ⟨rfl, rfl, rfl, rfl, rfl, trivial⟩ ⟨hO.only [.b b4, .b b5, .b b11, .b b12, .b b6, .b g, .o a, .o s, .o l], trivial⟩
      · refine s_alloc (vs := [.int .i64 0, .string ⟨#[]⟩, .string ⟨#[]⟩, .string ⟨#[]⟩, .int .i64 0, .bool false, .int .i32 0, .bool false, .slice none 0 0]) hO rfl rfl rfl fun b12 w hO => ?_
        refine o_done (⟨SO.ks [.b b4, .b g, .b b5] hO, ?_⟩)
        refine dx_two 6 11 (by kernel_rfl) rfl rfl rfl rfl ?_ ?_
        · refine CK [.o l] hO rfl (fun k' hx hr hO' => aFind_spec hyL (hO := hO')) ?_
          rintro _ _ w ⟨rfl, rfl⟩ hO
          simp only [List.cons_append, List.nil_append] at hO
          refine o_done (⟨SO.ks [.b b4, .b g, .b b5] hO, ?_⟩)
          refine dx_two 7 11 (by kernel_rfl) rfl rfl rfl rfl ?_ ?_
          · refine CK [.b g, .o a, .o l] hO rfl (fun k' hx hr hO' => fresh_specA (e := at_ y.L (findE y.L f).toNat) hA2.pos (by show (putF y.A sp y.last).length ≤ 32768; omega) hyL ⟨hIy.fl, by omega⟩ rfl (hIy.li.tok _ (at_mem hfy.1)) (hO := hO')) ?_
            rintro _ _ w ⟨q1, d1, rfl, rfl⟩ hO
            simp only [List.cons_append, List.nil_append] at hO
            have hEe : elementL (putF y.A ⟨sp.Parent, sp.Before⟩ y.last) 0 (at_ y.L (findE y.L f).toNat).Token.Name [] q1 d1 = swE y f below fo q1 d1 := by rw [swE, ← hspe]; rfl
            rw [hEe] at hO ⊢
            refine o_done (⟨SO.ks [.b b4, .b g, .b b5] hO, ?_⟩)
            refine dx_u 8 (by kernel_rfl) rfl rfl rfl (fun w => y_move rfl) ?_
            refine dx_u 9 (by kernel_rfl) rfl rfl rfl (fun w => y_extract rfl rfl) ?_
            refine dx_u 10 (by kernel_rfl) rfl rfl rfl (fun w => y_extract rfl rfl) ?_
            refine dx_only 11 (by kernel_rfl) rfl rfl ?_
            refine s_alloc (vs := [.int .i64 0]) hO rfl rfl rfl fun b11 w hO => ?_
            refine o_done (⟨SO.ks [.b b4, .b g, .b b5] hO, ?_⟩)
            refine dx_close 13 (by kernel_rfl) rfl rfl ?_
            refine Y1 hO rfl rfl (fun w hO => ?_)
            simp only [List.set_cons_zero, List.set_cons_succ] at hO
            refine o_done (da_only 14 (by kernel_rfl) rfl ?_)
            refine Y3 hO rfl rfl (fun w hO => ?_)
            refine o_done (da_end (by kernel_rfl) (q_nopan ?_))
            exact q_cut ((q1, d1, b11, b12)) ⟨rfl, rfl, rfl, rfl, rfl, trivial⟩ ⟨hO.only [.b b4, .b b5, .b b11, .b b12, .b b6, .b g, .o a, .o s, .o l], trivial⟩
          · refine s_alloc (vs := [.int .i64 0]) hO rfl rfl rfl fun b11 w hO => ?_
            refine o_done (⟨SO.ks [.b b4, .b g, .b b5] hO, ?_⟩)
            refine dx_only 7 (by kernel_rfl) rfl rfl ?_
            refine CK [.b g, .o a, .o l] hO rfl (fun k' hx hr hO' => fresh_specA (e := at_ y.L (findE y.L f).toNat) hA2.pos (by show (putF y.A sp y.last).length ≤ 32768; omega) hyL ⟨hIy.fl, by omega⟩ rfl (hIy.li.tok _ (at_mem hfy.1)) (hO := hO')) ?_
            rintro _ _ w ⟨q1, d1, rfl, rfl⟩ hO
            simp only [List.cons_append, List.nil_append] at hO
            have hEe : elementL (putF y.A ⟨sp.Parent, sp.Before⟩ y.last) 0 (at_ y.L (findE y.L f).toNat).Token.Name [] q1 d1 = swE y f below fo q1 d1 := by rw [swE, ← hspe]; rfl
            rw [hEe] at hO ⊢
            refine o_done (⟨SO.ks [.b b4, .b g, .b b5] hO, ?_⟩)
            refine dx_u 8 (by kernel_rfl) rfl rfl rfl (fun w => y_move rfl) ?_
            refine dx_u 9 (by kernel_rfl) rfl rfl rfl (fun w => y_extract rfl rfl) ?_
            refine dx_u 10 (by kernel_rfl) rfl rfl rfl (fun w => y_extract rfl rfl) ?_
            refine dx_close 13 (by kernel_rfl) rfl rfl ?_
            refine Y1 hO rfl rfl (fun w hO => ?_)
            simp only [List.set_cons_zero, List.set_cons_succ] at hO
            refine o_done (da_only 14 (by kernel_rfl) rfl ?_)
            refine Y3 hO rfl rfl (fun w hO => ?_)
            refine o_done (da_end (by kernel_rfl) (q_nopan ?_))
            exact q_cut ((q1, d1, b11, b12)) ⟨rfl, rfl, rfl, rfl, rfl, trivial⟩ ⟨hO.only [.b b4, .b b5, .b b11, .b b12, .b b6, .b g, .o a, .o s, .o l], trivial⟩
        · refine s_alloc (vs := [.int .i64 0]) hO rfl rfl rfl fun b11 w hO => ?_
          refine o_done (⟨SO.ks [.b b4, .b g, .b b5] hO, ?_⟩)
          refine dx_only 6 (by kernel_rfl) rfl rfl ?_
          refine CK [.o l] hO rfl (fun k' hx hr hO' => aFind_spec hyL (hO := hO')) ?_
          rintro _ _ w ⟨rfl, rfl⟩ hO
          simp only [List.cons_append, List.nil_append] at hO
          refine o_done (⟨SO.ks [.b b4, .b g, .b b5] hO, ?_⟩)
          refine dx_only 7 (by kernel_rfl) rfl rfl ?_
          refine CK [.b g, .o a, .o l] hO rfl (fun k' hx hr hO' => fresh_specA (e := at_ y.L (findE y.L f).toNat) hA2.pos (by show (putF y.A sp y.last).length ≤ 32768; omega) hyL ⟨hIy.fl, by omega⟩ rfl (hIy.li.tok _ (at_mem hfy.1)) (hO := hO')) ?_
          rintro _ _ w ⟨q1, d1, rfl, rfl⟩ hO
          simp only [List.cons_append, List.nil_append] at hO
          have hEe : elementL (putF y.A ⟨sp.Parent, sp.Before⟩ y.last) 0 (at_ y.L (findE y.L f).toNat).Token.Name [] q1 d1 = swE y f below fo q1 d1 := by rw [swE, ← hspe]; rfl
          rw [hEe] at hO ⊢
          refine o_done (⟨SO.ks [.b b4, .b g, .b b5] hO, ?_⟩)
          refine dx_u 8 (by kernel_rfl) rfl rfl rfl (fun w => y_move rfl) ?_
          refine dx_u 9 (by kernel_rfl) rfl rfl rfl (fun w => y_extract rfl rfl) ?_
          refine dx_u 10 (by kernel_rfl) rfl rfl rfl (fun w => y_extract rfl rfl) ?_
          refine dx_close 13 (by kernel_rfl) rfl rfl ?_
          refine Y1 hO rfl rfl (fun w hO => ?_)
          simp only [List.set_cons_zero, List.set_cons_succ] at hO
          refine o_done (da_only 14 (by kernel_rfl) rfl ?_)
          refine Y3 hO rfl rfl (fun w hO => ?_)
          refine o_done (da_end (by kernel_rfl) (q_nopan ?_))
          exact q_cut ((q1, d1, b11, b12)) ⟨rfl, rfl, rfl, rfl, rfl, trivial⟩ ⟨hO.only [.b b4, .b b5, .b b11, .b b12, .b b6, .b g, .o a, .o s, .o l], trivial⟩
    · rintro z w ⟨hO, _⟩
      refine K0 ?_
      obtain ⟨q1, d1, b11, b12⟩ := z
      dsimp only at hO
      obtain ⟨EL, hEL⟩ : ∃ EL, EL = swE y f below fo q1 d1 := ⟨_, rfl⟩
      have hel := hA2.el (by omega) hent.2.2 q1 d1
      obtain ⟨hE1, hE2, hE3, hE4, hE5, hE6, hE7, hE8⟩ := hel
      have hEL3 : elementL (putF y.A sp y.last) 0 (at_ y.L (findE y.L f).toNat).Token.Name [] q1 d1 = EL := by rw [hEL, swE, ← hspe]; rfl
      rw [hEL3] at hE1 hE2 hE3 hE4 hE5 hE6 hE7 hE8
      rw [← hEL] at hO
      obtain ⟨Kz, t3⟩ := hE3.tree
      have htw : InA EL.2.2 EL.1 := ⟨by omega, by omega⟩
      have hbk3 : InA EL.2.2 block := ((hbk.keeps hkk).keeps hK2).keeps hE8
      have hK3l := t3.len hbk3
      refine K1 (l_y rfl rfl (y_makeFunc rfl rfl) (l_defer rfl rfl (x_deferV rfl rfl) (K2 (K3 (K0 (K0 (da_regM ?_)))))))
      have hO := hO.drew
      refine da_phase _ [5] (SO.ks [.b b4, .b g, .b b6] hO) ?_
      refine dx_y 0 (by kernel_rfl) rfl rfl rfl (fun w ⟨m, hw⟩ => D5 hw rfl) ?_
      refine dx_u 1 (by kernel_rfl) rfl rfl rfl (fun w => y_nilCheck rfl rfl) ?_
      refine dx_u 2 (by kernel_rfl) rfl rfl rfl (fun w => y_fldb (o' := 0) rfl) ?_
      refine dx_y 3 (by kernel_rfl) rfl rfl rfl (fun w ⟨m, hw⟩ => D5 hw rfl) ?_
      refine dx_y 4 (by kernel_rfl) rfl rfl rfl (fun w ⟨m, hw⟩ => D5 hw rfl) ?_
      refine dx_u 7 (by kernel_rfl) rfl rfl rfl (fun w => y_move rfl) ?_
      refine dx_close 5 (by kernel_rfl) rfl rfl ?_
      refine CK [.o a] hO rfl (fun k' hx hr hO' => KidsT_spec t3 hbk3 (by omega) (hO := hO')) ?_
      rintro _ _ w ⟨q3, d3, rfl, rfl⟩ hO
      simp only [List.cons_append, List.nil_append] at hO
      have hg3 := (sls_fct (p := q3) hO).2
      refine o_done (da_phase _ [] (SO.ks [] hO) ?_)
      refine dx_u 6 (by kernel_rfl) rfl rfl rfl (fun w => y_lenL rfl) ?_
      refine dx_end (by kernel_rfl) (q_nopan ?_)
      refine K3 (K4 (c_rounds (X := Nat) (fun i => [(4, .pointer (some ⟨b4, 0, none⟩)), (6, .pointer (some ⟨b6, 0, none⟩)), (11, .pointer (some ⟨b11, 0, none⟩)), (12, .pointer (some ⟨b12, 0, none⟩)), (69, .slice q3 (Kz block).length d3), (70, .int .i64 (((Kz block).length : Nat) : Int)), (71, .int .i64 (i : Int))]) (fun i w => Own k w [blk b4 80 [.pointer (some ⟨g, 0, none⟩)], blk b5 3 [.int .i64 f], blk b11 3 [.int .i64 EL.1], blk b12 53 (Api_token.cells (at_ y.L (findE y.L f).toNat).Token), blk b6 3 [.int .i64 block], agB g a s l nm fo errs y.mark, arenaL a (swK EL ((Kz block).take i)), stkL s a y.st, actL l a y.L, sls q3 d3 3 1 (eI .i64) (Kz block)] ∧ (i ≤ (Kz block).length)) (fun i => (Kz block).length - i) (0) ⟨rfl, rfl, rfl, rfl, rfl, rfl, rfl, trivial⟩ ⟨hO.only [.b b4, .b b5, .b b11, .b b12, .b b6, .b g, .o a, .o s, .o l, .p q3], Nat.zero_le _⟩ ?_))
      rintro i w m hm ⟨hO, hi⟩
      refine K0 (K1 ?_)
      refine Z0 (fun h8_0 => ?_) (fun h8_0 => ?_)
      · refine K2 (K3 (K0 (L8 (K5 (K3 (K0 (K4 (K0 (K1 (l_y rfl rfl (y_idx rfl rfl) ?_))))))))))
        refine l_y rfl rfl (y_e1 (x0 := 0) hO rfl) ?_
        refine V2 rfl rfl rfl (K2 (K3 ?_))
        have hAK := hE3.swK ((Kz block).take i)
        refine da_regM ?_
        have hO := hO.drew
        refine da_phase _ [7] (SO.ks [.b b4, .b g, .b b11] hO) ?_
        refine dx_y 0 (by kernel_rfl) rfl rfl rfl (fun w ⟨m, hw⟩ => D5 hw rfl) ?_
        refine dx_u 1 (by kernel_rfl) rfl rfl rfl (fun w => y_nilCheck rfl rfl) ?_
        refine dx_u 2 (by kernel_rfl) rfl rfl rfl (fun w => y_fldb (o' := 0) rfl) ?_
        refine dx_y 3 (by kernel_rfl) rfl rfl rfl (fun w ⟨m, hw⟩ => D5 hw rfl) ?_
        refine dx_y 4 (by kernel_rfl) rfl rfl rfl (fun w ⟨m, hw⟩ => D5 hw rfl) ?_
        refine dx_u 6 (by kernel_rfl) rfl rfl rfl (fun w => y_move rfl) ?_
        refine dx_only 5 (by kernel_rfl) rfl rfl ?_
        refine CK [] hO rfl (fun k' hx hr hO' => inside_spec (hO := hO')) ?_
        rintro _ _ w ⟨rfl, rfl⟩ hO
        simp only [List.cons_append, List.nil_append] at hO
        refine o_done (⟨SO.ks [.b b4, .b g, .b b11] hO, ?_⟩)
        refine dx_close 7 (by kernel_rfl) rfl rfl ?_
        refine CK [.o a] hO rfl (fun k' hx hr hO' => PutG_spec (want := EL.1) (before := -1) (id := at_ (Kz block) i) hAK.1 ((((t3.lnk block hbk3).mem (at_mem (by omega))).1).keeps hAK.2.1) (htw.keeps hAK.2.1) (.inl rfl) (hO := hO')) ?_
        rintro _ _ w ⟨⟨e9, rfl⟩, rfl⟩ hO
        simp only [List.cons_append, List.nil_append] at hO
        refine o_done (da_end (by kernel_rfl) (q_nopan ?_))
        refine K8 (K3 (K1 (l_y rfl rfl (D4) ?_)))
        refine V1 rfl rfl rfl (K2 ?_)
        have e9 : swK EL ((Kz block).take (i + 1)) = putF (swK EL ((Kz block).take i)) ⟨EL.1, -1⟩ (at_ (Kz block) i) := by rw [take_succ_at (by omega), swK_snoc]
        rw [← e9] at hO
        exact q_next (i + 1) ⟨rfl, rfl, rfl, rfl, rfl, rfl, rfl, trivial⟩ ⟨hO.only [.b b4, .b b5, .b b11, .b b12, .b b6, .b g, .o a, .o s, .o l, .p q3], by omega⟩ (by omega)
      · refine K2 (K3 (K0 (L9 (K7 (L1 (L1 (L2 (K3 ?_))))))))
        have hAK := hE3.swK (Kz block)
        have hi9 : i = (Kz block).length := by omega
        rw [hi9, List.take_length] at hO
        have hA5 := hAK.1.put ⟨block, -1⟩ EL.1
        refine da_regM ?_
        have hO := hO.drew
        refine da_phase _ [7] (SO.ks [.b b4, .b g, .b b6, .b b11] hO) ?_
        refine dx_y 0 (by kernel_rfl) rfl rfl rfl (fun w ⟨m, hw⟩ => D5 hw rfl) ?_
        refine dx_u 1 (by kernel_rfl) rfl rfl rfl (fun w => y_nilCheck rfl rfl) ?_
        refine dx_u 2 (by kernel_rfl) rfl rfl rfl (fun w => y_fldb (o' := 0) rfl) ?_
        refine dx_y 3 (by kernel_rfl) rfl rfl rfl (fun w ⟨m, hw⟩ => D5 hw rfl) ?_
        refine dx_y 4 (by kernel_rfl) rfl rfl rfl (fun w ⟨m, hw⟩ => D5 hw rfl) ?_
        refine dx_y 6 (by kernel_rfl) rfl rfl rfl (fun w ⟨m, hw⟩ => D5 hw rfl) ?_
        refine dx_only 5 (by kernel_rfl) rfl rfl ?_
        refine CK [] hO rfl (fun k' hx hr hO' => inside_spec (hO := hO')) ?_
        rintro _ _ w ⟨rfl, rfl⟩ hO
        simp only [List.cons_append, List.nil_append] at hO
        refine o_done (⟨SO.ks [.b b4, .b g, .b b6, .b b11] hO, ?_⟩)
        refine dx_close 7 (by kernel_rfl) rfl rfl ?_
        refine CK [.o a] hO rfl (fun k' hx hr hO' => PutG_spec (want := block) (before := -1) (id := EL.1) hAK.1 (htw.keeps hAK.2.1) (hbk3.keeps hAK.2.1) (.inl rfl) (hO := hO')) ?_
        rintro _ _ w ⟨⟨e9, rfl⟩, rfl⟩ hO
        simp only [List.cons_append, List.nil_append] at hO
        refine o_done (da_end (by kernel_rfl) (q_nopan ?_))
        refine finD_n ?_
        have hmk := hIy.mkk
        have hfm := forget_mark (id := f) hIy.mkk
        refine finDKV [.b b4, .b b5, .b b11, .b b12, .b b6, .b g, .o a, .o s, .o l] hO (fun k' hx hr hO' => (swap1_spec hA5 hyl hyL ⟨by omega, by omega⟩ hO').2) ?_
        rintro _ _ w rfl hO
        simp only [List.cons_append, List.nil_append] at hO
        exact fin_ret (fin0 rfl ⟨_, ⟨_, _, _, y, q1, d1, Kz, _, ⟨hy, by rw [← hEL]; exact t3, rfl, rfl, rfl⟩, ⟨hfm.1, by have := hfm.2.1; have := hfm.2.2; omega⟩, rfl⟩, by rw [swS, swL, swA, ← hEL]; exact hO.only [.b g, .o a, .o s, .o l]⟩)
end
end Go.Proofs.YtoohapbaelmkcaaGreat
end
section
set_option maxRecDepth 100000
namespace Go.Proofs.YtoohapbaelmkcaaGreat
open Go Go.Hb Go.RowKit
theorem freshE_none (A : List Node_one) (l : List Int) : freshE A l (-1) = 6 := by rw [freshE, if_pos (by simp [elB, hasB])]
theorem removeE_none (L : List Api_entry) : removeE L (-1) = (6, L) := by rw [removeE, findE, if_pos rfl, if_pos (by decide)]
section
variable {k : Ctx} {w : World} {a s l : Nat} {nm : ByteArray} {fo : Bool} {A : List Node_one} {st : List Int} {L : List Api_entry}
end
end Go.Proofs.YtoohapbaelmkcaaGreat
end
section
set_option maxRecDepth 100000
namespace Go.Proofs.YtoohapbaelmkcaaGreat
open Go Go.Hb Go.RowKit
structure Rs where
 A : List Node_one
 st : List Int
 L : List Api_entry
 errs : Int
abbrev fF (x : Rs) (nm : ByteArray) : Int := lastE x.A x.L nm (bk x.L x.L.length)
def topN (st : List Int) (f : Int) : Int := if topI st = f then 0 else 1
inductive RndR (nm : ByteArray) (fo : Bool) : Rs → Bool → Bool → Rs → Prop
  | none (x : Rs) (h : fF x nm = -1) : RndR nm fo x true true x
  | lost (x : Rs) (f : Int) (hf : f = fF x nm) (h : f ≠ -1) (h1 : findI x.st f < 0) : RndR nm fo x true false ⟨x.A, x.st, (removeE x.L f).2, x.errs + 1⟩
  | out (x : Rs) (f : Int) (hf : f = fF x nm) (h : f ≠ -1) (h1 : ¬ findI x.st f < 0) (h2 : scopeL x.A (fun y => decide (y = f)) 0 x.st = false) : RndR nm fo x true false ⟨x.A, x.st, x.L, x.errs + 1⟩
  | plain (x : Rs) (f : Int) (hf : f = fF x nm) (h : f ≠ -1) (h1 : ¬ findI x.st f < 0) (h2 : scopeL x.A (fun y => decide (y = f)) 0 x.st = true) (h3 : furthF x.A x.st f = -1) : RndR nm fo x true false ⟨x.A, x.st.take (findI x.st f).toNat, (removeE x.L f).2, x.errs + topN x.st f⟩
  | go (x : Rs) (f b : Int) (hf : f = fF x nm) (h : f ≠ -1) (h1 : ¬ findI x.st f < 0) (h2 : scopeL x.A (fun y => decide (y = f)) 0 x.st = true) (hb : b = furthF x.A x.st f) (h3 : b ≠ -1) (A' : List Node_one) (st' : List Int) (L' : List Api_entry) (y : Ag) (q : Option Addr) (d : Nat) (Kz : Int → List Int)
      (g : SwD f b (max 0 (atI x.st (findI x.st f - 1))) fo ⟨x.A, x.st, x.L, findE x.L f, b, findI x.st b, 0⟩ A' st' L' y q d Kz) : RndR nm fo x false false ⟨A', st', L', x.errs + topN x.st f⟩
inductive RunD (nm : ByteArray) (fo : Bool) : Nat → Rs → Bool → Rs → Prop
 | out (x : Rs) : RunD nm fo 0 x false x
 | done (n : Nat) (x : Rs) (ot : Bool) (y : Rs) (h : RndR nm fo x true ot y) : RunD nm fo (n + 1) x ot y
 | more (n : Nat) (x z : Rs) (o ot : Bool) (y : Rs) (h : RndR nm fo x false o z) (g : RunD nm fo n z ot y) : RunD nm fo (n + 1) x ot y
def Short (x : Rs) (nm : ByteArray) : Prop := hasB x.A (topI x.st) = true ∧ (nd x.A (topI x.st)).Space = 0 ∧ (nd x.A (topI x.st)).Name = nm ∧ findE x.L (topI x.st) < 0
def RunR (nm : ByteArray) (fo : Bool) (x : Rs) (o : Bool) (y : Rs) : Prop := (Short x nm ∧ o = false ∧ y = ⟨x.A, x.st.take (x.st.length - 1), x.L, x.errs⟩) ∨ (¬ Short x nm ∧ RunD nm fo 8 x o y)
structure RsI (n0 ln : Nat) (x : Rs) : Prop where
 ai : AI x.A
 si : StkI x.A x.st
 li : LI x.A x.L
 len : x.A.length ≤ n0
 ll : x.L.length ≤ ln
section
variable {A : List Node_one} {st : List Int} {L : List Api_entry} {nm : ByteArray} {fo : Bool} {f b : Int} {n0 ln : Nat} {x y : Rs}
theorem lastE_mem : ∀ xs : List Nat, lastE A L nm xs ≠ -1 → ∃ i ∈ xs, (at_ L i).Node = lastE A L nm xs
  | [], h => absurd rfl h
  | i :: xs, h => by
    rw [lastE] at h ⊢
    split at h
    · next c => rw [if_pos c]; exact ⟨i, by simp, rfl⟩
    · next c =>
      rw [if_neg c]
      obtain ⟨j, hj, e⟩ := lastE_mem xs h
      exact ⟨j, by simp [hj], e⟩
theorem fF_find (h : lastE A L nm (bk L L.length) ≠ -1) : 0 ≤ findE L (lastE A L nm (bk L L.length)) := by
 obtain ⟨i, hi, e⟩ := lastE_mem _ h
 exact findE_mem.2 ⟨h, _, at_mem (bk_lt hi), e⟩
theorem furth_at (hn : st.Nodup) (hf : 0 ≤ findI st f) (h : furthF A st f ≠ -1) : ∃ i : Nat, findI st f < i ∧ i < st.length ∧ at_ st i = furthF A st f ∧ findI st (furthF A st f) = i := by
  unfold furthF at h ⊢
  cases hq : (st.drop (findI st f + 1).toNat).find? (specA A) with
  | none => rw [hq] at h; exact absurd rfl h
  | some b =>
    rw [hq] at h
    rw [Option.getD_some]
    have hm := List.mem_of_find?_eq_some hq
    obtain ⟨j, hj, e⟩ := mem_at hm
    have hj2 : (findI st f + 1).toNat + j < st.length := by simp at hj; omega
    have e2 : at_ st ((findI st f + 1).toNat + j) = b := by
      rw [← e]
      refine (at_eq ?_).symm
      rw [List.getElem?_drop, at_get hj2]
    exact ⟨(findI st f + 1).toNat + j, by omega, hj2, e2, findI_of hn hj2 e2⟩
theorem RsI.ag (h : RsI n0 ln x) (hf : f = fF x nm) (h1 : f ≠ -1) (h2 : ¬ findI x.st f < 0) (hb : b = furthF x.A x.st f) (h3 : b ≠ -1) : AgI f (findI x.st f).toNat n0 ln ⟨x.A, x.st, x.L, findE x.L f, b, findI x.st b, 0⟩ ∧ InA x.A b ∧ InA x.A (max 0 (atI x.st (findI x.st f - 1))) := by
  obtain ⟨i, hi1, hi2, hi3, hi4⟩ := furth_at (A := x.A) h.si.nodup (show 0 ≤ findI x.st f by omega) (by rw [← hb]; exact h3)
  rw [← hb] at hi3 hi4
  have hbA : InA x.A b := inA_iff.1 (elB_has (h.si.el _ (by rw [← hi3]; exact at_mem hi2)))
  have hfl : 0 ≤ findE x.L f := by rw [hf]; exact fF_find (by have h9 := h1; rw [hf] at h9; exact h9)
  have hfa := findE_at hfl
  have hlt := @findI_lt x.st f
  refine ⟨⟨h.ai, Nat.le_trans h.len (Nat.le_add_right _ _), h.si, h.li, by dsimp only; omega, ⟨by dsimp only; omega, by dsimp only; omega⟩, hfl, ⟨hfl, by dsimp only; omega⟩, h.ll, hbA⟩, hbA, ?_⟩
  rcases Int.lt_or_le (findI x.st f) 1 with h9 | h9
  · have : atI x.st (findI x.st f - 1) = -1 := by rw [atI, if_pos (by omega)]
    rw [this]; exact ⟨by decide, by have := h.ai.pos; omega⟩
  · have e : atI x.st (findI x.st f - 1) = at_ x.st (findI x.st f - 1).toNat := by rw [atI, if_neg (by omega)]
    have hA : InA x.A (at_ x.st (findI x.st f - 1).toNat) := inA_iff.1 (elB_has (h.si.el _ (at_mem (by omega))))
    rw [e, show max 0 (at_ x.st (findI x.st f - 1).toNat) = at_ x.st (findI x.st f - 1).toNat by have := hA.1; omega]
    exact hA
theorem SwD.keep {a0 : Nat} {block below : Int} {x : Ag} {A' : List Node_one} {st' : List Int} {L' : List Api_entry} {y : Ag} {q : Option Addr} {d : Nat} {Kz : Int → List Int} (g : SwD f block below fo x A' st' L' y q d Kz) (k : Ctx) (h : AgI f a0 n0 ln x) (hc : x.count = 0) (hn0 : n0 + 8 ≤ 32768) (hbl : InA x.A block) (hbe : InA x.A below) :
  AI A' ∧ StkI A' st' ∧ LI A' L' ∧ A'.length ≤ n0 + 8 ∧ L'.length ≤ ln ∧ ElOk (putF y.A (spotV y.A y.st below fo).1 y.last) (tkF y.L f).Name q d := by
 have hIy := g.inn.keep k (by omega) h
 have hkk := g.inn.keepK k (by omega) h
 have hA2 := hIy.ai.put (spotV y.A y.st below fo).1 y.last
 have hK2 := hIy.ai.keeps (spotV y.A y.st below fo).1 y.last
 have hl2 : (putF y.A (spotV y.A y.st below fo).1 y.last).length = y.A.length := putF_len
 have hfy := findE_at hIy.fl
 have hent := (hIy.li.ent _ (at_mem hfy.1)).resolve_left (by rw [hfy.2.1]; exact hfy.2.2)
 have hyA := hIy.len
 have hel : ElOk (putF y.A (spotV y.A y.st below fo).1 y.last) (tkF y.L f).Name q d := hA2.el (by omega) hent.2.2 q d
 obtain ⟨E, hE⟩ : ∃ E, E = swE y f below fo q d := ⟨_, rfl⟩
 have hg := hel
 obtain ⟨hE1, hE2, hE3, hE4, hE5, hE6, hE7, hE8⟩ := hg
 have hEe : elementL (putF y.A (spotV y.A y.st below fo).1 y.last) 0 (tkF y.L f).Name [] q d = E := by rw [hE]; rfl
 rw [hEe] at hE1 hE2 hE3 hE4 hE5 hE6 hE7 hE8
 have hAK := hE3.swK (Kz block)
 have hA5 := hAK.1.put ⟨block, -1⟩ E.1
 have hK5 := hAK.1.keeps ⟨block, -1⟩ E.1
 have hA' : A' = putF (swK E (Kz block)) ⟨block, -1⟩ E.1 := by rw [g.arena, swA, ← hE]
 rw [← hA'] at hA5 hK5
 have hKa : Keeps y.A A' := (hK2.trans hE8).trans (hAK.2.1.trans hK5)
 have hlen : A'.length ≤ n0 + 8 := by rw [hA', putF_len, hAK.2.2]; omega
 have htok := hIy.li.tok _ (at_mem hfy.1)
 have hfgl : (forgetF y.L y.mark f).1.length + 1 = y.L.length := by
  have := hIy.fl
  rw [forget_fst, removeE, if_neg (by omega)]
  simp only [cutE, List.length_append, List.length_take, List.length_drop]; omega
 refine ⟨hA5, ?_, ?_, hlen, ?_, hel⟩
 ·rw [g.stack, swS]; exact ((hIy.si.keeps hKa).remove).put
 ·rw [g.list, swL, ← hE]
  refine ((hIy.li.keeps hKa).forget).put k htok fun _ => ⟨?_, hent.2.2⟩
  have e := (hAK.2.1.trans hK5).el E.1 (by rw [hE1]; exact hE4)
  rw [e.2, hE1]; exact hE5
 ·rw [g.list, swL]
  have := putE_len (A := A') (L := (forgetF y.L y.mark f).1) (e := ⟨(swE y f below fo q d).1, tkF y.L f⟩) (i := (forgetF y.L y.mark f).2)
  have := hIy.ll
  omega
theorem RndR.keep {dn ot : Bool} (g : RndR nm fo x dn ot y) (k : Ctx) (h : RsI n0 ln x) (hn0 : n0 + 8 ≤ 32768) : RsI (n0 + 8) ln y ∧ x.errs ≤ y.errs ∧ y.errs ≤ x.errs + 1 := by
  have h8 : RsI (n0 + 8) ln x := ⟨h.ai, h.si, h.li, Nat.le_trans h.len (Nat.le_add_right _ _), h.ll⟩
  have ht : ∀ f, 0 ≤ topN x.st f ∧ topN x.st f ≤ 1 := fun f => by unfold topN; split <;> decide
  cases g with
  | none h1 => exact ⟨h8, by omega, by omega⟩
  | lost f hf h1 h2 => exact ⟨⟨h.ai, h.si, h.li.sub removeE_sub, h8.len, Nat.le_trans removeE_sub.length_le h.ll⟩, by dsimp only; omega, by dsimp only; omega⟩
  | out f hf h1 h2 h3 => exact ⟨⟨h.ai, h.si, h.li, h8.len, h.ll⟩, by dsimp only; omega, by dsimp only; omega⟩
  | plain f hf h1 h2 h3 h4 => exact ⟨⟨h.ai, h.si.take _, h.li.sub removeE_sub, h8.len, Nat.le_trans removeE_sub.length_le h.ll⟩, by have := ht f; dsimp only; omega, by have := ht f; dsimp only; omega⟩
  | go f b hf h1 h2 h3 hb h4 A' st' L' y q d Kz g =>
    have ha := h.ag hf h1 h2 hb h4
    have := g.keep k ha.1 rfl hn0 ha.2.1 ha.2.2
    exact ⟨⟨this.1, this.2.1, this.2.2.1, this.2.2.2.1, this.2.2.2.2.1⟩, by have := ht f; dsimp only; omega, by have := ht f; dsimp only; omega⟩
theorem RunD.keep {n : Nat} {o : Bool} (g : RunD nm fo n x o y) (k : Ctx) (h : RsI n0 ln x) (hn0 : n0 + 8 * n ≤ 32768) : RsI (n0 + 8 * n) ln y ∧ x.errs ≤ y.errs ∧ y.errs ≤ x.errs + n := by
  induction g generalizing n0 with
  | out x => exact ⟨h, by omega, by omega⟩
  | done n x ot y g =>
    obtain ⟨h1, h2, h3⟩ := g.keep k h (by omega)
    exact ⟨⟨h1.ai, h1.si, h1.li, Nat.le_trans h1.len (by omega), h1.ll⟩, h2, by omega⟩
  | more n x z o ot y g g2 ih =>
    obtain ⟨h1, h2, h3⟩ := g.keep k h (by omega)
    obtain ⟨h4, h5, h6⟩ := ih h1 (by omega)
    exact ⟨⟨h4.ai, h4.si, h4.li, Nat.le_trans h4.len (by omega), h4.ll⟩, by omega, by omega⟩
theorem RunR.keep {o : Bool} (g : RunR nm fo x o y) (k : Ctx) (h : RsI n0 ln x) (hn0 : n0 + 64 ≤ 32768) : RsI (n0 + 64) ln y ∧ x.errs ≤ y.errs ∧ y.errs ≤ x.errs + 8 := by
 rcases g with ⟨_, rfl, rfl⟩ | ⟨_, g⟩
 ·exact ⟨⟨h.ai, h.si.take _, h.li, Nat.le_trans h.len (by omega), h.ll⟩, Int.le_refl _, by dsimp only; omega⟩
 ·exact g.keep k h hn0
end
section
variable {k : Ctx} {w : World} {g a s l : Nat} {nm : ByteArray} {fo : Bool} {errs mark : Int} {A : List Node_one} {st : List Int} {L : List Api_entry}
set_option maxHeartbeats 4000000 in
theorem round_spec {n0 ln : Nat} (h : RsI n0 ln ⟨A, st, L, errs⟩) (hn0 : n0 + 8 ≤ 32768) (hln : ln ≤ 2000000) (hmk : 0 ≤ mark ∧ mark ≤ 2000000) (her : 0 ≤ errs ∧ errs ≤ 1000) (hO : Own k w [agB g a s l nm fo errs mark, arenaL a A, stkL s a st, actL l a L]) :
    Tri Tryz.prog 38 #[.pointer (some ⟨g, 0, none⟩)] k w fun v m => ∃ dn ot y mk, RndR nm fo ⟨A, st, L, errs⟩ dn ot y ∧ v = .tuple #[.bool dn, .bool ot] ∧ (0 ≤ mk ∧ mk ≤ 2000000 ∨ dn = true) ∧ m = [agB g a s l nm fo y.errs mk, arenaL a y.A, stkL s a y.st, actL l a y.L] := by
  refine enter (args := [.pointer (some ⟨g, 0, none⟩)]) Tryz.func38 rfl rfl ?_
  have hn := h.ai.pos
  have ha := h.ai.attrs
  have hl : st.length ≤ 1000000 := Nat.le_trans h.si.len (Nat.le_trans h.len (by omega))
  have hL : L.length ≤ 2000000 := Nat.le_trans h.ll hln
  have hne : ∀ x ∈ st, x ≠ -1 := h.si.el.ne
  obtain ⟨f, hf⟩ : ∃ f, f = lastE A L nm (bk L L.length) := ⟨_, rfl⟩
  have hlt := @findI_lt st f
  have hlg := @findI_ge st f
  refine K0 (K1 (V2 rfl rfl rfl (V2 rfl rfl rfl (K2 (K3 ?_)))))
  refine c_scopeJ (X := Unit) (fun u => [(0, .pointer (some ⟨g, 0, none⟩)), (2, .bool false), (3, .bool false), (4, .int .i64 f)]) (fun u w => Own k w [agB g a s l nm fo errs mark, arenaL a A, stkL s a st, actL l a L] ∧ (findI st f < 0) ∧ (f ≠ -1)) 0 rfl ?_ ?_
  · refine K0 (da_region (by intro c a d v w h; cases d <;> exact h) ?_)
    have hO := hO.drew
    refine da_phase _ [8] (SO.ks [.b g] hO) ?_
    refine dx_u 0 (by kernel_rfl) rfl rfl rfl (fun w => y_move rfl) ?_
    refine dx_u 1 (by kernel_rfl) rfl rfl rfl (fun w => y_nilCheck rfl rfl) ?_
    refine dx_u 2 (by kernel_rfl) rfl rfl rfl (fun w => y_fldb (o' := 2) rfl) ?_
    refine dx_y 3 (by kernel_rfl) rfl rfl rfl (fun w ⟨m, hw⟩ => D5 hw rfl) ?_
    refine dx_u 4 (by kernel_rfl) rfl rfl rfl (fun w => y_move rfl) ?_
    refine dx_u 5 (by kernel_rfl) rfl rfl rfl (fun w => y_nilCheck rfl rfl) ?_
    refine dx_u 6 (by kernel_rfl) rfl rfl rfl (fun w => y_fldb (o' := 3) rfl) ?_
    refine dx_y 7 (by kernel_rfl) rfl rfl rfl (fun w ⟨m, hw⟩ => D5 hw rfl) ?_
    refine dx_close 8 (by kernel_rfl) rfl rfl ?_
    refine CK [.o a, .o l] hO rfl (fun k' hx hr hO' => aLast_spec (nm := nm) hn ha hL h.li.has (hO := hO')) ?_
    rintro _ _ w ⟨rfl, rfl⟩ hO
    simp only [List.cons_append, List.nil_append] at hO
    rw [← hf]
    refine o_done (da_phase _ [] (SO.ks [] hO) ?_)
    refine dx_u 9 (by kernel_rfl) rfl rfl rfl (fun w => y_assign rfl) ?_
    refine dx_end (by kernel_rfl) ?_
    refine K3 (K0 (K0 (K1 (V1 rfl rfl rfl ?_))))
    refine Z0 (fun h2_1 => ?_) (fun h2_1 => ?_)
    · refine K2 (K3 (L8 (K0 (K1 (V2 rfl rfl rfl (V2 rfl rfl rfl (K2 (K3 (K6 (K9 (J4 ?_)))))))))))
      exact fin2 rfl rfl rfl ⟨_, ⟨true, true, ⟨A, st, L, errs⟩, mark, .none _ (by rw [← h2_1, hf]), rfl, .inr rfl, rfl⟩, hO.ks [.b g, .o a, .o s, .o l]⟩
    · refine K2 (K3 (L9 (K5 (K3 (K0 (K1 (V1 rfl rfl rfl (V3 rfl rfl rfl rfl (l_y rfl rfl (y_fldb (o' := 1) rfl) (l_y rfl rfl (D5 hO rfl) ?_))))))))))
      refine V1 rfl rfl rfl (CK [.o s] hO rfl (fun k' hx hr hO' => sFindC_spec (x := f) hl (hO := hO')) ?_)
      rintro _ _ w ⟨rfl, rfl⟩ hO
      simp only [List.cons_append, List.nil_append] at hO
      refine V2 rfl rfl rfl (K2 (K3 (K0 (K1 (V2 rfl rfl rfl (K2 (K3 (K0 (K0 (K1 (V1 rfl rfl rfl ?_)))))))))))
      refine Z0 (fun h6_1 => ?_) (fun h6_1 => ?_)
      · refine K2 (K3 (L8 (c_goto (GT1 ?_))))
        exact q_goto (()) ⟨rfl, rfl, rfl, rfl, trivial⟩ ⟨hO.only [.b g, .o a, .o s, .o l], (by omega), (by assumption)⟩
      · refine K2 (K3 (L9 (K5 (K3 (K0 (K0 (K1 (V1 rfl rfl rfl (V3 rfl rfl rfl rfl (l_y rfl rfl (y_fldb (o' := 1) rfl) (l_y rfl rfl (D5 hO rfl) ?_)))))))))))
        refine V1 rfl rfl rfl (CK [.o a, .o s] hO rfl (fun k' hx hr hO' => sNodeScope_spec (id := f) (kind := 0) hn ha h.si.el hl (hO := hO')) ?_)
        rintro _ _ w ⟨rfl, rfl⟩ hO
        simp only [List.cons_append, List.nil_append] at hO
        obtain ⟨sc, hsc⟩ : ∃ sc, sc = scopeL A (fun x => decide (x = f)) 0 st := ⟨_, rfl⟩
        rw [← hsc]
        refine l_y rfl rfl (y_not rfl rfl) (K2 (K3 ?_))
        refine c_split rfl (fun hc32 => ?_) (fun hc32 => ?_)
        · simp only [Bool.not_eq_true', Bool.not_eq_false'] at hc32
          refine K0 (K1 (V1 rfl rfl rfl (V3 rfl rfl rfl rfl (l_y rfl rfl (y_fldb (o' := 5) rfl) (l_y rfl rfl (D5 hO rfl) ?_)))))
          refine l_y rfl rfl (D4) ?_
          refine V3 rfl rfl rfl rfl (l_y rfl rfl (y_fldb (o' := 5) rfl) (Y1 hO rfl rfl (fun w hO => ?_)))
          simp only [List.set_cons_zero, List.set_cons_succ] at hO
          refine K2 (K3 (K0 (K1 (V2 rfl rfl rfl (V2 rfl rfl rfl (K2 (K3 (K6 (K9 (J4 ?_))))))))))
          exact fin2 rfl rfl rfl ⟨_, ⟨true, false, ⟨A, st, L, errs + 1⟩, mark, .out _ f hf h2_1 h6_1 (by rw [← hsc]; simpa using hc32), rfl, .inr rfl, rfl⟩, hO.ks [.b g, .o a, .o s, .o l]⟩
        · simp only [Bool.not_eq_true', Bool.not_eq_false'] at hc32
          refine K5 (K3 ?_)
          refine c_cut (X := Int) (fun er => [(0, .pointer (some ⟨g, 0, none⟩)), (2, .bool false), (3, .bool false), (4, .int .i64 f), (5, .int .i64 (findI st f)), (6, .int .i64 (-1))]) (fun er w => Own k w [agB g a s l nm fo er mark, arenaL a A, stkL s a st, actL l a L] ∧ (er = errs + topN st f) ∧ (f ≠ -1) ∧ (¬ findI st f < 0) ∧ (scopeL A (fun x => decide (x = f)) 0 st = true)) ?_ ?_
          · refine K0 (K1 (V1 rfl rfl rfl (V3 rfl rfl rfl rfl (l_y rfl rfl (y_fldb (o' := 1) rfl) (l_y rfl rfl (D5 hO rfl) ?_)))))
            refine CK [.o s] hO rfl (fun k' hx hr hO' => sTopC_spec (x := 0) hl (hO := hO')) ?_
            rintro _ _ w ⟨rfl, rfl⟩ hO
            simp only [List.cons_append, List.nil_append] at hO
            refine V1 rfl rfl rfl ?_
            refine Z1 (fun h10_6 => ?_) (fun h10_6 => ?_)
            · refine K2 (K3 (L8 (K1 (V1 rfl rfl rfl (V3 rfl rfl rfl rfl (l_y rfl rfl (y_fldb (o' := 5) rfl) (l_y rfl rfl (D5 hO rfl) ?_)))))))
              refine l_y rfl rfl (D4) ?_
              refine V3 rfl rfl rfl rfl (l_y rfl rfl (y_fldb (o' := 5) rfl) (Y1 hO rfl rfl (fun w hO => ?_)))
              simp only [List.set_cons_zero, List.set_cons_succ] at hO
              refine K2 ?_
              exact q_cut (_) ⟨rfl, rfl, rfl, rfl, rfl, rfl, trivial⟩ ⟨hO.only [.b g, .o a, .o s, .o l], (by unfold topN; first | (rw [if_pos (by omega)]; first | rfl | omega; done) | (rw [if_neg (by omega)]; done)), (by assumption), (by assumption), (by rw [← hsc]; simpa using hc32)⟩
            · refine K2 (K3 (L9 (K5 ?_)))
              exact q_cut (_) ⟨rfl, rfl, rfl, rfl, rfl, rfl, trivial⟩ ⟨hO.only [.b g, .o a, .o s, .o l], (by unfold topN; first | (rw [if_pos (by omega)]; first | rfl | omega; done) | (rw [if_neg (by omega)]; done)), (by assumption), (by assumption), (by rw [← hsc]; simpa using hc32)⟩
          · rintro er w ⟨hO, hee, hf9, hat, hsc9⟩
            refine K0 (K0 (K1 (V1 rfl rfl rfl (V1 rfl rfl rfl (CK [.b g, .o a, .o s] hO rfl (fun k' hx hr hO' => furthest_spec (f := f) hn ha hl (hO := hO')) ?_)))))
            rintro _ _ w ⟨rfl, rfl⟩ hO
            simp only [List.cons_append, List.nil_append] at hO
            obtain ⟨b, hb⟩ : ∃ b, b = furthF A st f := ⟨_, rfl⟩
            rw [← hb]
            have hO : Own k w [agB g a s l nm fo er mark, arenaL a A, stkL s a (st.take st.length), actL l a L] := by rw [List.take_length]; exact hO.ks [.b g, .o a, .o s, .o l]
            refine V2 rfl rfl rfl (K2 (K3 (K0 (K1 (V1 rfl rfl rfl ?_)))))
            refine Z0 (fun h13_1 => ?_) (fun h13_1 => ?_)
            · refine K2 (K3 (L8 (K0 (K4 (c_rounds (X := Nat) (fun n => [(0, .pointer (some ⟨g, 0, none⟩)), (2, .bool false), (3, .bool false), (4, .int .i64 f), (5, .int .i64 (findI st f))]) (fun n w => Own k w [agB g a s l nm fo er mark, arenaL a A, stkL s a (st.take n), actL l a L] ∧ (findI st f ≤ n ∧ n ≤ st.length)) (fun n => n) (st.length) ⟨rfl, rfl, rfl, rfl, rfl, trivial⟩ ⟨hO.only [.b g, .o a, .o s, .o l], ⟨by omega, Nat.le_refl _⟩⟩ ?_)))))
              rintro n w m hm ⟨hO, hi⟩
              refine K0 (K0 (K1 (V1 rfl rfl rfl (V3 rfl rfl rfl rfl (l_y rfl rfl (y_fldb (o' := 1) rfl) (l_y rfl rfl (D5 hO rfl) ?_))))))
              have hln2 : (st.take n).length = n := by simp; omega
              refine CK [.o s] hO rfl (fun k' hx hr hO' => sLenC_spec (hO := hO')) ?_
              rintro _ _ w ⟨rfl, rfl⟩ hO
              simp only [List.cons_append, List.nil_append] at hO
              refine V1 rfl rfl rfl ?_
              refine Z0 (fun h14_6 => ?_) (fun h14_6 => ?_)
              · refine K2 (K3 (L8 (K5 (K3 (K4 (K1 (V1 rfl rfl rfl (V3 rfl rfl rfl rfl (l_y rfl rfl (y_fldb (o' := 1) rfl) (l_y rfl rfl (D5 hO rfl) ?_))))))))))
                refine CK [.o s] hO rfl (fun k' hx hr hO' => sPop_spec (l := st.take n) (by omega) (fun x hx => hne x (List.mem_of_mem_take hx)) (hO := hO')) ?_
                rintro _ _ w ⟨rfl, rfl⟩ hO
                simp only [List.cons_append, List.nil_append] at hO
                rw [hln2, List.take_take, show min (n - 1) n = n - 1 by omega] at hO
                refine K2 (K8 ?_)
                exact q_next (n - 1) ⟨rfl, rfl, rfl, rfl, rfl, trivial⟩ ⟨hO.only [.b g, .o a, .o s, .o l], ⟨by omega, by omega⟩⟩ (by omega)
              · refine K2 (K3 (L9 (K7 (L1 (L1 (L2 (K3 (K0 (K1 (V1 rfl rfl rfl (V1 rfl rfl rfl (CK [.b g, .o l] hO rfl (fun k' hx hr hO' => forget_spec (id := f) ⟨by omega, by omega⟩ hL (hO := hO')) ?_))))))))))))
                rintro _ _ w rfl hO
                simp only [List.cons_append, List.nil_append, forget_fst] at hO
                refine K2 (K3 (K0 (K1 (V2 rfl rfl rfl (V2 rfl rfl rfl (K2 (K3 (K6 (K9 (J4 ?_))))))))))
                have hnn : n = (findI st f).toNat := by omega
                rw [hnn, hee] at hO
                exact fin2 rfl rfl rfl ⟨_, ⟨true, false, ⟨A, st.take (findI st f).toNat, (removeE L f).2, errs + topN st f⟩, _, .plain _ f hf hf9 hat hsc9 (by rw [← hb]; exact h13_1), rfl, .inr rfl, rfl⟩, hO.ks [.b g, .o a, .o s, .o l]⟩
            · refine K2 (K3 (L9 (K5 (K3 (K0 ?_)))))
              have hO : Own k w [agB g a s l nm fo er mark, arenaL a A, stkL s a st, actL l a L] := by rw [List.take_length] at hO; exact hO.ks [.b g, .o a, .o s, .o l]
              have hag := h.ag hf hf9 hat hb h13_1
              refine K1 (V1 rfl rfl rfl (V1 rfl rfl rfl (V1 rfl rfl rfl (V1 rfl rfl rfl (V3 rfl rfl rfl rfl (l_y rfl rfl (y_fldb (o' := 1) rfl) (l_y rfl rfl (D5 hO rfl) ?_)))))))
              refine V1 rfl rfl rfl (l_y rfl rfl (D4) ?_)
              refine CK [.o s] hO rfl (fun k' hx hr hO' => sAtC_spec (x := findI st f - 1) hl (hO := hO')) ?_
              rintro _ _ w ⟨rfl, rfl⟩ hO
              simp only [List.cons_append, List.nil_append] at hO
              refine l_y rfl rfl (y_max rfl rfl) (CK [.b g, .o a, .o s, .o l] hO rfl (fun k' hx hr hO' => swap_spec (f := f) (block := b) hag.1 hn0 hln hag.2.2 hag.2.1 (hO := hO')) ?_)
              rintro _ _ w ⟨A', st', L', y, q, d, Kz, mk, hsw, hmk9, rfl⟩ hO
              simp only [List.cons_append, List.nil_append] at hO
              refine K2 (K3 (K0 (K0 (K1 (V2 rfl rfl rfl (V2 rfl rfl rfl (K2 (K3 (K6 (K9 (J4 ?_)))))))))))
              rw [hee] at hO
              exact fin2 rfl rfl rfl ⟨_, ⟨false, false, ⟨A', st', L', errs + topN st f⟩, mk, .go _ f b hf hf9 hat hsc9 hb h13_1 A' st' L' y q d Kz hsw, rfl, .inl hmk9, rfl⟩, hO.ks [.b g, .o a, .o s, .o l]⟩
  · rintro u w ⟨hO, hlost, hf9⟩
    refine K0 (K5 (K3 (K0 (K1 (V1 rfl rfl rfl (V3 rfl rfl rfl rfl (l_y rfl rfl (y_fldb (o' := 5) rfl) (l_y rfl rfl (D5 hO rfl) ?_))))))))
    refine l_y rfl rfl (D4) ?_
    refine V3 rfl rfl rfl rfl (l_y rfl rfl (y_fldb (o' := 5) rfl) (Y1 hO rfl rfl (fun w hO => ?_)))
    simp only [List.set_cons_zero, List.set_cons_succ] at hO
    refine K2 (K3 (K0 (K1 (V1 rfl rfl rfl (V1 rfl rfl rfl (CK [.b g, .o l] hO rfl (fun k' hx hr hO' => forget_spec (id := f) ⟨by omega, by omega⟩ hL (hO := hO')) ?_))))))
    rintro _ _ w rfl hO
    simp only [List.cons_append, List.nil_append, forget_fst] at hO
    refine K2 (K3 (K0 (K1 (V2 rfl rfl rfl (V2 rfl rfl rfl (K2 (K3 (K6 (L4 ?_)))))))))
    exact fin2 rfl rfl rfl ⟨_, ⟨true, false, ⟨A, st, (removeE L f).2, errs + 1⟩, _, .lost _ f hf hf9 hlost, rfl, .inr rfl, rfl⟩, hO.ks [.b g, .o a, .o s, .o l]⟩
end
end Go.Proofs.YtoohapbaelmkcaaGreat
end
section
set_option maxRecDepth 100000
namespace Go.Proofs.YtoohapbaelmkcaaGreat
open Go Go.Hb Go.RowKit Go.ChangeShapes Go.WideShapes Go.ChangeAt
section
variable {k : Ctx} {w : World} {g a s l : Nat} {nm : ByteArray} {fo : Bool} {errs mark : Int} {A : List Node_one} {st : List Int} {L : List Api_entry}
set_option maxHeartbeats 4000000 in
theorem run_spec {n0 ln : Nat} (h : RsI n0 ln ⟨A, st, L, 0⟩) (hn0 : n0 + 64 ≤ 32768) (hln : ln ≤ 2000000) (hO : Own k w [arenaL a A, stkL s a st, actL l a L]) :
    Tri Tryz.prog 8 #[.pointer (some ⟨a, 0, none⟩), .pointer (some ⟨s, 0, none⟩), .pointer (some ⟨l, 0, none⟩), .string nm, .bool fo] k w fun v m => ∃ o y, RunR nm fo ⟨A, st, L, 0⟩ o y ∧ v = .tuple #[.bool o, .int .i64 y.errs, .int .i64 0] ∧ m = [arenaL a y.A, stkL s a y.st, actL l a y.L] := by
  refine enter (args := [.pointer (some ⟨a, 0, none⟩), .pointer (some ⟨s, 0, none⟩), .pointer (some ⟨l, 0, none⟩), .string nm, .bool fo]) Tryz.func8 rfl rfl ?_
  have hn : 0 < A.length := h.ai.pos
  have ha : AttrsOk A := h.ai.attrs
  have hA : A.length ≤ n0 := h.len
  have hl : st.length ≤ 1000000 := Nat.le_trans h.si.len (Nat.le_trans h.len (by omega))
  have hL : L.length ≤ 2000000 := Nat.le_trans h.ll hln
  have hne : ∀ x ∈ st, x ≠ -1 := h.si.el.ne
  refine K0 (K1 (V2 rfl rfl rfl (V2 rfl rfl rfl (V2 rfl rfl rfl (K2 (K3 (K0 (K4 (K0 (K1 (V1 rfl rfl rfl (CK [.o a] hO rfl (fun k' hx hr hO' => LenC_spec hn (hO := hO')) ?_))))))))))))
  rintro _ _ w ⟨rfl, rfl⟩ hO
  simp only [List.cons_append, List.nil_append] at hO
  refine N3 (hp := (by omega)) (V1 rfl rfl rfl (V1 rfl rfl rfl (CK [.o a, .o s] hO rfl (fun k' hx hr hO' => sPush_spec hn ha hl (hO := hO')) ?_)))
  rintro _ _ w ⟨rfl, rfl⟩ hO
  simp only [List.cons_append, List.nil_append, freshE_none] at hO
  rw [freshE_none]
  refine N3 (l_y rfl rfl (y_pick_f rfl rfl) (V1 rfl rfl rfl (V1 rfl rfl rfl (CK [.o l] hO rfl (fun k' hx hr hO' => aRemove_spec hL (hO := hO')) ?_))))
  rintro _ _ w ⟨rfl, rfl⟩ hO
  simp only [List.cons_append, List.nil_append, removeE_none] at hO
  rw [removeE_none]
  refine N3 (l_y rfl rfl (y_pick_f rfl rfl) (V2 rfl rfl rfl (K2 (K3 (L9 (K0 (K1 (V1 rfl rfl rfl (CK [.o a] hO rfl (fun k' hx hr hO' => LenC_spec hn (hO := hO')) ?_)))))))))
  rintro _ _ w ⟨rfl, rfl⟩ hO
  simp only [List.cons_append, List.nil_append] at hO
  refine N3 (hp := (by omega)) (V2 rfl rfl rfl (K2 (K3 (L9 (K5 (K8 (K3 (K0 (K1 (V1 rfl rfl rfl (CK [.o s] hO rfl (fun k' hx hr hO' => sTopC_spec (x := 0) hl (hO := hO')) ?_)))))))))))
  rintro _ _ w ⟨rfl, rfl⟩ hO
  simp only [List.cons_append, List.nil_append] at hO
  refine V2 rfl rfl rfl (K2 (K3 ?_))
  refine c_cut (X := Unit) (fun u => [(0, .pointer (some ⟨a, 0, none⟩)), (1, .pointer (some ⟨s, 0, none⟩)), (2, .pointer (some ⟨l, 0, none⟩)), (3, .string nm), (4, .bool fo), (10, .bool false), (11, .int .i64 0), (12, .int .i64 0)]) (fun u w => Own k w [arenaL a A, stkL s a st, actL l a L] ∧ (¬ Short ⟨A, st, L, 0⟩ nm)) ?_ ?_
  · refine K0 (K1 (V1 rfl rfl rfl (V1 rfl rfl rfl (CK [.o a] hO rfl (fun k' hx hr hO' => NodeD_spec (id := topI st) hn ha (hO := hO')) ?_))))
    rintro _ _ w ⟨n, hnv, rfl, rfl⟩ hO
    simp only [List.cons_append, List.nil_append] at hO
    refine V1 rfl rfl rfl (l_y rfl rfl (y_extract rfl rfl) (l_y rfl rfl (y_extract rfl rfl) (s_alloc (vs := [.int .i64 0, .int .i64 0, .string ⟨#[]⟩, .slice none 0 0, .string ⟨#[]⟩, .string ⟨#[]⟩, .int .i64 0, .int .i64 0, .int .i64 0, .int .i64 0, .int .i64 0, .int .i64 0]) hO rfl rfl rfl fun b14 w hO => ?_)))
    refine Y3 hO rfl rfl (fun w hO => ?_)
    refine V2 rfl rfl rfl (K2 (K3 (K0 (K1 (V1 rfl rfl rfl ?_)))))
    refine Z0 (fun h7_1 => ?_) (fun h7_1 => ?_)
    · refine V1 rfl rfl rfl (l_y rfl rfl (y_fldb (o' := 1) rfl) (l_y rfl rfl (D5 hO rfl) ?_))
      refine Z0 (fun h7_5 => ?_) (fun h7_5 => ?_)
      · refine l_y rfl rfl (y_pick_t rfl rfl) (V1 rfl rfl rfl (l_y rfl rfl (y_fldb (o' := 2) rfl) (l_y rfl rfl (D5 hO rfl) ?_)))
        refine V1 rfl rfl rfl ?_
        refine Z2 (fun h7_11 => ?_) (fun h7_11 => ?_)
        · refine l_y rfl rfl (y_pick_t rfl rfl) (V1 rfl rfl rfl (V1 rfl rfl rfl (V1 rfl rfl rfl (CK [.o l] hO rfl (fun k' hx hr hO' => aFind_spec hL (hO := hO')) ?_))))
          rintro _ _ w ⟨rfl, rfl⟩ hO
          simp only [List.cons_append, List.nil_append] at hO
          refine Z0 (fun h7_17 => ?_) (fun h7_17 => ?_)
          · refine l_y rfl rfl (y_pick_t rfl rfl) (K2 (K3 (L8 (K0 (K1 (V1 rfl rfl rfl (CK [.o s] hO rfl (fun k' hx hr hO' => sPop_spec hl hne (hO := hO')) ?_)))))))
            rintro _ _ w ⟨rfl, rfl⟩ hO
            simp only [List.cons_append, List.nil_append] at hO
            refine K2 (K3 (K0 (K1 (V2 rfl rfl rfl (V2 rfl rfl rfl (V2 rfl rfl rfl (K2 (K3 (K6 (K9 ?_))))))))))
            have hb9 : hasB A (topI st) = true := by
              cases h9 : hasB A (topI st) with
              | true => rfl
              | false => rw [errN, h9] at h7_1; exact absurd h7_1 (by decide)
            exact fin3 rfl rfl rfl rfl ⟨_, ⟨false, ⟨A, st.take (st.length - 1), L, 0⟩, .inl ⟨⟨hb9, (hnv.space hb9).symm.trans h7_5, (hnv.name hb9).symm.trans h7_11, by omega⟩, rfl, rfl⟩, rfl, rfl⟩, hO.only [.o a, .o s, .o l]⟩
          · refine l_y rfl rfl (y_pick_t rfl rfl) (K2 (K3 (L9 (K5 ?_))))
            have hsh9 : ¬ Short ⟨A, st, L, 0⟩ nm := by
              rintro ⟨h1, h2, h3, h4⟩
              dsimp only at h1 h2 h3 h4
              first
              | (rw [errN, if_pos h1] at h7_1; exact h7_1 rfl)
              | exact h7_5 ((hnv.space h1).trans h2)
              | exact h7_11 ((hnv.name h1).trans h3)
              | omega
            exact q_cut (()) ⟨rfl, rfl, rfl, rfl, rfl, rfl, rfl, rfl, trivial⟩ ⟨hO.only [.o a, .o s, .o l], hsh9⟩
        · refine l_y rfl rfl (y_pick_t rfl rfl) (V1 rfl rfl rfl ?_)
          repeat refine M2 ?_
          refine l_y rfl rfl (y_pick_f rfl rfl) (K2 (K3 (L9 (K5 ?_))))
          have hsh9 : ¬ Short ⟨A, st, L, 0⟩ nm := by
            rintro ⟨h1, h2, h3, h4⟩
            dsimp only at h1 h2 h3 h4
            first
            | (rw [errN, if_pos h1] at h7_1; exact h7_1 rfl)
            | exact h7_5 ((hnv.space h1).trans h2)
            | exact h7_11 ((hnv.name h1).trans h3)
            | omega
          exact q_cut (()) ⟨rfl, rfl, rfl, rfl, rfl, rfl, rfl, rfl, trivial⟩ ⟨hO.only [.o a, .o s, .o l], hsh9⟩
      · refine l_y rfl rfl (y_pick_t rfl rfl) (V1 rfl rfl rfl ?_)
        repeat refine M2 ?_
        refine l_y rfl rfl (y_pick_f rfl rfl) (V1 rfl rfl rfl ?_)
        repeat refine M2 ?_
        refine l_y rfl rfl (y_pick_f rfl rfl) (K2 (K3 (L9 (K5 ?_))))
        have hsh9 : ¬ Short ⟨A, st, L, 0⟩ nm := by
          rintro ⟨h1, h2, h3, h4⟩
          dsimp only at h1 h2 h3 h4
          first
          | (rw [errN, if_pos h1] at h7_1; exact h7_1 rfl)
          | exact h7_5 ((hnv.space h1).trans h2)
          | exact h7_11 ((hnv.name h1).trans h3)
          | omega
        exact q_cut (()) ⟨rfl, rfl, rfl, rfl, rfl, rfl, rfl, rfl, trivial⟩ ⟨hO.only [.o a, .o s, .o l], hsh9⟩
    · refine V1 rfl rfl rfl ?_
      repeat refine M2 ?_
      refine l_y rfl rfl (y_pick_f rfl rfl) (V1 rfl rfl rfl ?_)
      repeat refine M2 ?_
      refine l_y rfl rfl (y_pick_f rfl rfl) (V1 rfl rfl rfl ?_)
      repeat refine M2 ?_
      refine l_y rfl rfl (y_pick_f rfl rfl) (K2 (K3 (L9 (K5 ?_))))
      have hsh9 : ¬ Short ⟨A, st, L, 0⟩ nm := by
        rintro ⟨h1, h2, h3, h4⟩
        dsimp only at h1 h2 h3 h4
        first
        | (rw [errN, if_pos h1] at h7_1; exact h7_1 rfl)
        | exact h7_5 ((hnv.space h1).trans h2)
        | exact h7_11 ((hnv.name h1).trans h3)
        | omega
      exact q_cut (()) ⟨rfl, rfl, rfl, rfl, rfl, rfl, rfl, rfl, trivial⟩ ⟨hO.only [.o a, .o s, .o l], hsh9⟩
  · rintro u w ⟨hO, hsh⟩
    refine K0 (K1 (V1 rfl rfl rfl (V1 rfl rfl rfl (V1 rfl rfl rfl (V1 rfl rfl rfl (V1 rfl rfl rfl (s_build (parts := [(0, .tmp 66), (1, .tmp 67), (2, .tmp 68), (3, .tmp 69), (4, .tmp 70)]) (cs := [.pointer (some ⟨a, 0, none⟩), .pointer (some ⟨s, 0, none⟩), .pointer (some ⟨l, 0, none⟩), .string nm, .bool fo, .int .i64 0, .int .i64 0]) rfl rfl (fun a ha => partsOf_sound ha _ _ rfl) (by kernel_rfl) (s_box (vs := [.pointer (some ⟨a, 0, none⟩), .pointer (some ⟨s, 0, none⟩), .pointer (some ⟨l, 0, none⟩), .string nm, .bool fo, .int .i64 0, .int .i64 0]) hO rfl rfl rfl (by rfl) fun b72 w hO => ?_))))))))
    refine V2 rfl rfl rfl (K2 (K3 (K0 (K0 (K1 (V1 rfl rfl rfl (K2 (K3 (K4 (c_rounds (X := Nat × Rs × Int) (fun x => [(10, .bool false), (11, .int .i64 0), (12, .int .i64 0), (16, .pointer (some ⟨b72, 0, none⟩)), (73, .int .i64 (x.1 : Int))]) (fun x w => Own k w [arenaL a x.2.1.A, stkL s a x.2.1.st, actL l a x.2.1.L, agB b72 a s l nm fo x.2.1.errs x.2.2] ∧ (x.1 ≤ 8) ∧ (RsI (n0 + 8 * x.1) ln x.2.1) ∧ (∀ o y, RunD nm fo (8 - x.1) x.2.1 o y → RunD nm fo 8 ⟨A, st, L, 0⟩ o y) ∧ (0 ≤ x.2.1.errs ∧ x.2.1.errs ≤ x.1) ∧ (0 ≤ x.2.2 ∧ x.2.2 ≤ 2000000)) (fun x => 8 - x.1) ((0, ⟨A, st, L, 0⟩, 0)) ⟨rfl, rfl, rfl, rfl, rfl, trivial⟩ ⟨hO.only [.o a, .o s, .o l, .b b72], Nat.zero_le _, h, (fun o y h => h), ⟨Int.le_refl _, Int.le_refl _⟩, ⟨by dsimp only; omega, by dsimp only; omega⟩⟩ ?_))))))))))
    rintro x w m hm ⟨hO, hi, hR, hD, he, hmk⟩
    refine K0 (K1 ?_)
    refine Z0 (fun h12_0 => ?_) (fun h12_0 => ?_)
    · refine K2 (K3 (K0 (L8 (K5 (K3 (K0 (K4 (K0 (K1 (V1 rfl rfl rfl (CK [.b b72, .o a, .o s, .o l] hO rfl (fun k' hx hr hO' => round_spec (A := x.2.1.A) (st := x.2.1.st) (L := x.2.1.L) (errs := x.2.1.errs) hR (by omega) hln hmk ⟨by omega, by omega⟩ (hO := hO')) ?_)))))))))))
      rintro _ _ w ⟨dn, ot, y, mk9, hr9, rfl, hmk9, rfl⟩ hO
      simp only [List.cons_append, List.nil_append] at hO
      have hr9 : RndR nm fo x.2.1 dn ot y := hr9
      have hk9 := hr9.keep k hR (by omega)
      refine V1 rfl rfl rfl (l_y rfl rfl (y_extract rfl rfl) (l_y rfl rfl (y_extract rfl rfl) (V2 rfl rfl rfl (V2 rfl rfl rfl (K2 (K3 (K0 (K1 (V1 rfl rfl rfl (K2 (K3 ?_)))))))))))
      refine c_split rfl (fun hc80 => ?_) (fun hc80 => ?_)
      · refine K0 (da_region (by intro c a d v w h; cases d <;> exact h) ?_)
        have hO := hO.drew
        refine da_phase _ [] (SO.ks [.b b72] hO) ?_
        refine dx_u 0 (by kernel_rfl) rfl rfl rfl (fun w => y_move rfl) ?_
        refine dx_u 1 (by kernel_rfl) rfl rfl rfl (fun w => y_move rfl) ?_
        refine dx_u 2 (by kernel_rfl) rfl rfl rfl (fun w => y_nilCheck rfl rfl) ?_
        refine dx_u 3 (by kernel_rfl) rfl rfl rfl (fun w => y_fldb (o' := 5) rfl) ?_
        refine dx_y 4 (by kernel_rfl) rfl rfl rfl (fun w ⟨m, hw⟩ => D5 hw rfl) ?_
        refine dx_u 5 (by kernel_rfl) rfl rfl rfl (fun w => y_assign rfl) ?_
        refine dx_u 6 (by kernel_rfl) rfl rfl rfl (fun w => y_assign rfl) ?_
        refine dx_u 7 (by kernel_rfl) rfl rfl rfl (fun w => y_assign rfl) ?_
        refine dx_end (by kernel_rfl) ?_
        refine K3 (K6 (L0 (K9 (K9 (L0 (K9 ?_))))))
        have hdn : dn = true := by simpa using hc80
        rw [hdn] at hr9
        exact fin3 rfl rfl rfl rfl ⟨_, ⟨ot, y, .inr ⟨hsh, hD _ _ (by rw [show 8 - x.1 = (7 - x.1) + 1 by omega]; exact .done _ _ _ _ hr9)⟩, rfl, rfl⟩, hO.only [.o a, .o s, .o l]⟩
      · refine K5 (K8 (K3 (K1 (l_y rfl rfl (D4) ?_))))
        refine V1 rfl rfl rfl (K2 ?_)
        have hdn : dn = false := by simpa using hc80
        rw [hdn] at hr9 hmk9
        exact q_next ((x.1 + 1, y, mk9)) ⟨rfl, rfl, rfl, rfl, rfl, trivial⟩ ⟨hO.only [.o a, .o s, .o l, .b b72], (by dsimp only; omega), hk9.1, (fun o y h => hD _ _ (by rw [show 8 - x.1 = (8 - (x.1 + 1)) + 1 by omega]; exact .more _ _ _ _ _ _ hr9 h)), ⟨by have := hk9.2; dsimp only; omega, by have := hk9.2; dsimp only; omega⟩, (by rcases hmk9 with h9 | h9; exact h9; cases h9)⟩ (by dsimp only; omega)
    · refine K2 (K3 (K0 (L9 (K7 (L1 (L1 (L2 (K3 (K0 (da_region (by intro c a d v w h; cases d <;> exact h) ?_))))))))))
      have hO := hO.drew
      refine da_phase _ [] (SO.ks [.b b72] hO) ?_
      refine dx_u 0 (by kernel_rfl) rfl rfl rfl (fun w => y_move rfl) ?_
      refine dx_u 1 (by kernel_rfl) rfl rfl rfl (fun w => y_nilCheck rfl rfl) ?_
      refine dx_u 2 (by kernel_rfl) rfl rfl rfl (fun w => y_fldb (o' := 5) rfl) ?_
      refine dx_y 3 (by kernel_rfl) rfl rfl rfl (fun w ⟨m, hw⟩ => D5 hw rfl) ?_
      refine dx_u 4 (by kernel_rfl) rfl rfl rfl (fun w => y_assign rfl) ?_
      refine dx_u 5 (by kernel_rfl) rfl rfl rfl (fun w => y_assign rfl) ?_
      refine dx_u 6 (by kernel_rfl) rfl rfl rfl (fun w => y_assign rfl) ?_
      refine dx_end (by kernel_rfl) ?_
      refine K3 (K6 ?_)
      have h8 : x.1 = 8 := by omega
      exact fin3 rfl rfl rfl rfl ⟨_, ⟨false, x.2.1, .inr ⟨hsh, hD _ _ (by rw [h8]; exact .out _)⟩, rfl, rfl⟩, hO.only [.o a, .o s, .o l]⟩
end
theorem rd_Law15_act {H : Type} {enc : TypeId × Value → H} {W : World} : Reads enc Tryz.prog W 74 (QSt [QStr, QInt .i64, QBool, QBool, QBool]) := by
 have h : Tryz.prog.cellsOf 74 = 5 := by kernel_rfl
 letI : Und Tryz.prog 74 _ := ⟨Tryz.underlying74⟩
 refine r_st ?_
 rw [h]
 exact .cons (m := 1) rfl (by kernel_rfl) r_str (.cons (m := 1) rfl (by kernel_rfl) r_int (.cons (m := 1) rfl (by kernel_rfl) r_bool (.cons (m := 1) rfl (by kernel_rfl) r_bool (.cons (m := 1) rfl (by kernel_rfl) r_bool (.nil _)))))
theorem of_Law15_act {H : Type} {r : List Value} {d : DataW H} (h : QSt [QStr, QInt .i64, QBool, QBool, QBool] r d) : ∃ o : Law15_act, r = Law15_act.cells o ∧ True := by
 obtain ⟨ps, rfl, hq⟩ := h
 obtain ⟨c0, cs0, d0, ds0, rfl, rfl, g0, hq⟩ := hq.un
 obtain ⟨c1, cs1, d1, ds1, rfl, rfl, g1, hq⟩ := hq.un
 obtain ⟨c2, cs2, d2, ds2, rfl, rfl, g2, hq⟩ := hq.un
 obtain ⟨c3, cs3, d3, ds3, rfl, rfl, g3, hq⟩ := hq.un
 obtain ⟨c4, cs4, d4, ds4, rfl, rfl, g4, hq⟩ := hq.un
 obtain ⟨rfl, rfl⟩ := hq.un0
 obtain ⟨n0, rfl, rfl, _⟩ := g0
 obtain ⟨n1, rfl, rfl, _⟩ := g1
 obtain ⟨n2, rfl, rfl⟩ := g2
 obtain ⟨n3, rfl, rfl⟩ := g3
 obtain ⟨n4, rfl, rfl⟩ := g4
 exact ⟨⟨n0, n1, n2, n3, n4⟩, by simp [Law15_act.cells], trivial⟩
def tokT (nm : ByteArray) : Api_token := ⟨1, nm, ⟨#[]⟩, ⟨#[]⟩, 0, false, 0, false, none, [], 0⟩
def bldS (id : Int) (e : Law15_act) (A : List Node_one) (st : List Int) : List Int := if e.Open = true then (if freshE A st id = 0 then st ++ [id] else st) else st
def bldM (e : Law15_act) (L : List Api_entry) : List Api_entry := if e.Mark = true then L ++ [markE] else L
def bldL (id : Int) (e : Law15_act) (A : List Node_one) (L : List Api_entry) : List Api_entry := if e.Active = true then (if freshF A L id = 0 then pushE A L ⟨id, tokT e.Text⟩ else L) else L
inductive BldD : List Law15_act → List Node_one → List Int → List Api_entry → Prop
  | nil : BldD [] [docD] [] []
  | err (xs : List Law15_act) (A : List Node_one) (st : List Int) (L : List Api_entry) (e : Law15_act) (q : Option Addr) (d : Nat) (g : BldD xs A st L) (h : (elementL A 0 e.Text [] q d).2.1 ≠ 0) : BldD (xs ++ [e]) (elementL A 0 e.Text [] q d).2.2 st L
  | add (xs : List Law15_act) (A : List Node_one) (st : List Int) (L : List Api_entry) (e : Law15_act) (q : Option Addr) (d : Nat) (g : BldD xs A st L) (h : (elementL A 0 e.Text [] q d).2.1 = 0) (B : List Node_one) (hB : B = (linkL (elementL A 0 e.Text [] q d).2.2 e.Up (elementL A 0 e.Text [] q d).1 (-1)).2) :
    BldD (xs ++ [e]) B (bldS (elementL A 0 e.Text [] q d).1 e B st) (bldL (elementL A 0 e.Text [] q d).1 e B (bldM e L))
section
variable {A B : List Node_one} {K : Int → List Int} {nm : ByteArray} {q : Option Addr} {d : Nat} {st : List Int} {L : List Api_entry} {id : Int}
theorem el_size (h : (elementL A 0 nm [] q d).2.1 = 0) : nm.size ≤ 1048576 := by
 rcases Nat.lt_or_ge 1048576 nm.size with hc | hc
 ·exfalso
  have hb : longB (nm :: attrTexts []) = true := by simp [longB, attrTexts]; omega
  unfold elementL at h
  rw [if_neg (by omega), if_neg (by simp)] at h
  simp only [hb, if_true] at h
  split at h <;> simp at h
 ·exact hc
theorem keeps_el : Keeps A (elementL A 0 nm [] q d).2.2 := ⟨el_lenge, fun x hx => ⟨elB_el hx, by have hb := hasB_true (elB_has hx); rw [nodeA, el_old (by omega)]⟩⟩
theorem keeps_link (t : Tree A K) (up id before : Int) : Keeps A (linkL A up id before).2 := ⟨by rw [linkL_len]; exact Nat.le_refl _, fun x hx => by
  have hb := hasB_true (elB_has hx)
  exact ⟨by rw [elB_core linkL_len (fun y hy => linkL_core t hy)]; exact hx, core_name (linkL_core t (by omega))⟩⟩
theorem AI.link (h : AI A) (up id before : Int) : AI (linkL A up id before).2 := by
 obtain ⟨K, t⟩ := h.tree
 exact ⟨⟨_, t.linkS _ _ _⟩, by rw [linkL_len]; exact h.pos, h.wi.core linkL_len fun y hy => linkL_core t hy⟩
theorem AI.el0 (h : AI A) (nm : ByteArray) (q : Option Addr) (d : Nat) : AI (elementL A 0 nm [] q d).2.2 := by
 obtain ⟨K, t⟩ := h.tree
 exact ⟨t.el nm q d, by have := el_lenge (A := A) (sp := 0) (nm := nm) (q := q) (d := d); have := h.pos; omega, h.wi.el⟩
theorem LI.mark (h : LI A L) : LI A (L ++ [markE]) := by
  refine ⟨List.pairwise_append.2 ⟨h.pw, List.pairwise_singleton _ _, fun x _ y hy _ => by rw [List.mem_singleton.1 hy]; rfl⟩, fun y hy => ?_, fun y hy => ?_⟩
  · rcases List.mem_append.1 hy with hy | hy
    · exact h.ent y hy
    · rw [List.mem_singleton.1 hy]; exact .inl rfl
  · rcases List.mem_append.1 hy with hy | hy
    · exact h.tok y hy
    · rw [List.mem_singleton.1 hy]; exact ⟨rfl, rfl, rfl⟩
theorem LI.push (h : LI A L) (k : Ctx) {e : Api_entry} (h0 : freshF A L e.Node = 0) (ht : e.Token.Attrs = [] ∧ e.Token.AttrsP = none ∧ e.Token.AttrsC = 0) (hn : (nodeA A e.Node).Name = e.Token.Name ∧ e.Token.Name.size ≤ 1048576) : LI A (pushE A L e) ∧ (pushE A L e).length ≤ L.length + 1 := by
 have hp := (h.pl k).push h0 (eok_of k ht)
 have c3 := fresh_ne h0
 have hs : (if 3 ≤ (pk A L e (bk L L.length)).1 then cutE L (pk A L e (bk L L.length)).2 else L).Sublist L := by split; exact cutE_sub; exact List.Sublist.refl _
 refine ⟨⟨hp.1.pw, ?_, ?_⟩, hp.2⟩ <;> intro y hy <;> rw [pushE] at hy <;> rcases List.mem_append.1 hy with hy | hy
 ·exact h.ent y (hs.subset hy)
 ·rw [List.mem_singleton.1 hy]; exact .inr ⟨c3.1, hn⟩
 ·exact h.tok y (hs.subset hy)
 ·rw [List.mem_singleton.1 hy]; exact ht
theorem StkI.bld {e : Law15_act} (h : StkI A st) : StkI A (bldS id e A st) := by
 unfold bldS
 split
 ·exact h.push
 ·exact h
theorem LI.bldM {e : Law15_act} (h : LI A L) : LI A (bldM e L) ∧ (bldM e L).length ≤ L.length + 1 := by
 unfold Proofs.YtoohapbaelmkcaaGreat.bldM
 split
 ·exact ⟨h.mark, by simp⟩
 ·exact ⟨h, Nat.le_succ _⟩
theorem LI.bldL {e : Law15_act} (h : LI A L) (k : Ctx) (hn : (nodeA A id).Name = e.Text ∧ e.Text.size ≤ 1048576) : LI A (bldL id e A L) ∧ (bldL id e A L).length ≤ L.length + 1 := by
 unfold Proofs.YtoohapbaelmkcaaGreat.bldL
 split
 ·split
  ·next h0 => exact h.push k h0 ⟨rfl, rfl, rfl⟩ hn
  ·exact ⟨h, Nat.le_succ _⟩
 ·exact ⟨h, Nat.le_succ _⟩
theorem BldD.inv {xs : List Law15_act} (g : BldD xs A st L) (k : Ctx) (hl : xs.length ≤ 1000) : RsI (1 + 2 * xs.length) (2 * xs.length) ⟨A, st, L, 0⟩ := by
  induction g with
  | nil => exact ⟨AI.new, StkI.nil, LI.nil, Nat.le_refl _, Nat.le_refl _⟩
  | err xs A st L e q d g h ih =>
    simp only [List.length_append, List.length_cons, List.length_nil] at hl ⊢
    have i := ih (by omega)
    have h1 := el_len (A := A) (sp := 0) (nm := e.Text) (q := q) (d := d)
    have h2 := i.len
    have h3 := i.ll
    dsimp only at h2 h3
    exact ⟨i.ai.el0 _ _ _, i.si.keeps keeps_el, i.li.keeps keeps_el, by dsimp only; omega, by dsimp only; omega⟩
  | add xs A st L e q d g h B hB ih =>
    simp only [List.length_append, List.length_cons, List.length_nil] at hl ⊢
    have i := ih (by omega)
    have h2 := i.len
    have h3 := i.ll
    dsimp only at h2 h3
    have hsz := el_size h
    have ho := i.ai.el (by dsimp only; omega) hsz q d
    have hk1 : Keeps A B := by rw [hB]; obtain ⟨K, t⟩ := ho.ai.tree; exact ho.keeps.trans (keeps_link t _ _ _)
    have hk2 : Keeps (elementL A 0 e.Text [] q d).2.2 B := by rw [hB]; obtain ⟨K, t⟩ := ho.ai.tree; exact keeps_link t _ _ _
    have hnm : (nodeA B (elementL A 0 e.Text [] q d).1).Name = e.Text := by
      have e1 := ho.id
      dsimp only at e1
      rw [e1]
      exact (hk2.el _ ho.el).2.trans ho.name
    have h4 := (i.li.keeps hk1).bldM (e := e)
    have h5 := h4.1.bldL k (id := (elementL A 0 e.Text [] q d).1) (e := e) ⟨hnm, hsz⟩
    have h6 : B.length ≤ A.length + 2 := by rw [hB, linkL_len]; exact ho.le
    refine ⟨by dsimp only; rw [hB]; exact ho.ai.link _ _ _, (i.si.keeps hk1).bld, h5.1, by dsimp only; omega, ?_⟩
    dsimp only
    have h7 : (Proofs.YtoohapbaelmkcaaGreat.bldM e L).length ≤ L.length + 1 := h4.2
    have h8 : (Proofs.YtoohapbaelmkcaaGreat.bldL (elementL A 0 e.Text [] q d).1 e B (Proofs.YtoohapbaelmkcaaGreat.bldM e L)).length ≤ (Proofs.YtoohapbaelmkcaaGreat.bldM e L).length + 1 := h5.2
    omega
end
end Go.Proofs.YtoohapbaelmkcaaGreat
end
section
set_option maxRecDepth 100000
namespace Go.Proofs.YtoohapbaelmkcaaGreat
open Go Go.Hb Go.RowKit
section
variable {k : Ctx} {w : World} {a s r z c : Nat} {p : Option Addr} {A : List Node_one} {K : Int → List Int} {R : List Ref01_one} {l : List Int}
theorem tlast_spec {name : ByteArray} {q : Option Addr} {d : Nat} (sm : Sim A K R) (hel : AllEl A l) (hg : Gs p R.length) (hq : Gs q l.length) (hl : l.length ≤ 1000000) (hO : Own k w [rB r p R.length c, rS p c R, tB z r q l.length d, sI q d l]) :
  Tri Tryz.prog 137 #[.pointer (some ⟨z, 0, none⟩), .string name] k w fun v m => v = .int .i64 (lastV (namA A [name]) l) ∧ m = [rB r p R.length c, rS p c R, tB z r q l.length d, sI q d l] := by
 refine enter (args := [.pointer (some ⟨z, 0, none⟩), .string name]) Tryz.func137 rfl rfl (K0 (K1 (V2 rfl rfl rfl (K2 (K3 (K0 (K0 (K1 (V1 rfl rfl rfl (V3 rfl rfl rfl rfl (l_y rfl rfl (y_fldb (o' := 1) rfl) (l_y rfl rfl (D5 hO rfl) ?_))))))))))))
 refine l_y rfl rfl (y_lenL rfl) (l_y rfl rfl (D4) ?_)
 refine V2 rfl rfl rfl (K2 (K3 (K4 (c_rounds (X := Int) (fun i => [(0, .pointer (some ⟨z, 0, none⟩)), (1, .string name), (4, .int .i64 0), (5, .int .i64 i)]) (fun i w => Own k w [rB r p R.length c, rS p c R, tB z r q l.length d, sI q d l] ∧ (-1 ≤ i ∧ i < l.length) ∧ (popR (namA A [name]) l.reverse = popR (namA A [name]) (l.take (i + 1).toNat).reverse)) (fun i => (i + 1).toNat) ((l.length : Int) - 1) ⟨rfl, rfl, rfl, rfl, trivial⟩ ⟨hO.only [.b r, .p p, .b z, .p q], ⟨by omega, by omega⟩, by rw [List.take_of_length_le (by omega)]⟩ ?_))))
 rintro i w m hm ⟨hO, hi, hs⟩
 refine K0 (K0 (K1 (V1 rfl rfl rfl ?_)))
 refine Z0 (fun h2_1 => ?_) (fun h2_1 => ?_)
 ·refine K2 (K3 (L8 (K5 (K3 (K0 (K4 (K0 ?_)))))))
  have hxe : elB A (at_ l i.toNat) = true := hel _ (at_mem (by omega))
  have hs2 := hs
  rw [show (i + 1).toNat = i.toNat + 1 by omega, take_succ_at (by omega), popR_snoc] at hs2
  refine K1 (V1 rfl rfl rfl (V1 rfl rfl rfl (V3 rfl rfl rfl rfl (l_y rfl rfl (y_fldb (o' := 1) rfl) (l_y rfl rfl (D5 hO rfl) ?_)))))
  refine V1 rfl rfl rfl (l_y rfl rfl (y_idx rfl rfl) ?_)
  refine l_y rfl rfl (y_e1 (x0 := 0) hO rfl) ?_
  refine V1 rfl rfl rfl (CK [.b r, .p p, .b z] hO rfl (fun k' hx hr hO' => tNamed_spec sm hg (hO := hO')) ?_)
  rintro _ _ w ⟨rfl, rfl⟩ hO
  simp only [List.cons_append, List.nil_append] at hO
  refine K2 (K3 ?_)
  refine c_split rfl (fun hc25 => ?_) (fun hc25 => ?_)
  ·refine K0 (K1 (V1 rfl rfl rfl (V2 rfl rfl rfl (K2 (K3 (K6 (L0 (K9 (K9 (L0 (K9 ?_)))))))))))
   rw [lastV_some (r := (l.take i.toNat).reverse) (by rw [hs2, if_pos (by simpa [hxe] using hc25)]), show ((l.take i.toNat).reverse.length : Int) = i by simp; omega]
   exact fin1 rfl rfl ⟨_, ⟨rfl, rfl⟩, hO.only [.b r, .p p, .b z, .p q]⟩
  ·refine K5 (K8 (K3 (K1 (V1 rfl rfl rfl (l_y rfl rfl (D4) ?_)))))
   refine V2 rfl rfl rfl (K2 ?_)
   exact q_next (i - 1) ⟨rfl, rfl, rfl, rfl, trivial⟩ ⟨hO.only [.b r, .p p, .b z, .p q], ⟨by omega, by omega⟩, by rw [hs2, if_neg (by simpa [hxe] using hc25), show (i - 1 + 1).toNat = i.toNat by omega]⟩ (by omega)
 ·refine K2 (K3 (L9 (K7 (L1 (L1 (L2 (K3 (K0 (K1 (V2 rfl rfl rfl (K2 (K3 (K6 ?_)))))))))))))
  rw [lastV_none (by rw [hs, show (i + 1).toNat = 0 by omega]; rfl)]
  exact fin1 rfl rfl ⟨_, ⟨rfl, rfl⟩, hO.only [.b r, .p p, .b z, .p q]⟩
def fosR (A : List Node_one) (l : List Int) (target : Int) : Api_spot := if fosterV A l = ⟨-1, -1⟩ then ⟨target, -1⟩ else fosterV A l
set_option maxHeartbeats 2000000 in
theorem tfostered_spec {target : Int} {q : Option Addr} {d : Nat} (sm : Sim A K R) (hel : AllEl A l) (hin : ∀ x, elB A x = true → namA A templL x = true → (nd A x).Inner ≠ -1) (hg : Gs p R.length) (hq : Gs q l.length) (hl : l.length ≤ 1000000) (hO : Own k w [rB r p R.length c, rS p c R, tB z r q l.length d, sI q d l]) :
    Tri Tryz.prog 115 #[.pointer (some ⟨r, 0, none⟩), .pointer (some ⟨z, 0, none⟩), .int .i64 target] k w fun v m => v = .agg (Api_spot.cells (fosR A l target)).toArray ∧ m = [rB r p R.length c, rS p c R, tB z r q l.length d, sI q d l] := by
  refine enter (args := [.pointer (some ⟨r, 0, none⟩), .pointer (some ⟨z, 0, none⟩), .int .i64 target]) Tryz.func115 rfl rfl ?_
  obtain ⟨tb, htb⟩ : ∃ tb, tb = lastV (namA A tableL) l := ⟨_, rfl⟩
  obtain ⟨tp, htp⟩ : ∃ tp, tp = lastV (namA A templL) l := ⟨_, rfl⟩
  have hb1 : -1 ≤ tb ∧ tb < l.length := by rcases lastV_cases (namA A tableL) l with h | ⟨i, h, h2, _⟩ <;> omega
  have hp1 : -1 ≤ tp ∧ tp < l.length := by rcases lastV_cases (namA A templL) l with h | ⟨i, h, h2, _⟩ <;> omega
  have hf : fosterV A l = if tb < tp then ⟨(nd A (at_ l tp.toNat)).Inner, -1⟩ else if tb < 0 then (if 0 < l.length then ⟨at_ l 0, -1⟩ else ⟨-1, -1⟩) else if (nd A (at_ l tb.toNat)).Parent ≠ -1 then ⟨(nd A (at_ l tb.toNat)).Parent, at_ l tb.toNat⟩ else if 0 < tb then ⟨at_ l (tb - 1).toNat, -1⟩ else ⟨-1, -1⟩ := by rw [htb, htp]; rfl
  have hhas : ∀ i : Int, 0 ≤ i → i < l.length → hasB A (at_ l i.toNat) = true := fun i h0 h1 => elB_has (hel _ (at_mem (by omega)))
  have hR : ∀ i : Int, 0 ≤ i → i < l.length → 0 ≤ at_ l i.toNat ∧ at_ l i.toNat < R.length := fun i h0 h1 => hasR_true (by rw [sm.has]; exact hhas i h0 h1)
  have hlc := hel
  have hit : tb < tp → (nd A (at_ l tp.toNat)).Inner ≠ -1 := fun h => by
    rcases lastV_cases (namA A templL) l with h1 | ⟨i, h1, h2, h3⟩
    · omega
    · rw [show tp.toNat = i by omega]; exact hin _ (hel _ (at_mem h2)) h3
  have hne : ∀ i : Int, 0 ≤ i → i < l.length → at_ l i.toNat ≠ -1 := fun i h0 h1 => by have := (hR i h0 h1).1; omega
  have f1 : ∀ u v : Int, u ≠ -1 → fosterV A l = ⟨u, v⟩ → fosR A l target = ⟨u, v⟩ := fun u v hu h => by
    rw [fosR, h, if_neg (fun e => hu (congrArg Api_spot.Parent e))]
  have f2 : fosterV A l = ⟨-1, -1⟩ → fosR A l target = ⟨target, -1⟩ := fun h => by rw [fosR, if_pos h]
  refine K0 (K1 (s_alloc (vs := [.int .i64 0, .int .i64 0]) hO rfl rfl rfl fun b6 w hO => ?_))
  refine K2 (K3 (K0 (K1 (V1 rfl rfl rfl (CK [.b r, .p p, .b z, .p q] hO rfl (fun k' hx hr hO' => tlast_spec sm hel hg hq hl (hO := hO')) ?_)))))
  rintro _ _ w ⟨rfl, rfl⟩ hO
  simp only [List.cons_append, List.nil_append] at hO
  rw [show lastV (namA A [⟨#[116, 101, 109, 112, 108, 97, 116, 101]⟩]) l = tp from htp.symm]
  refine V2 rfl rfl rfl (K2 (K3 (K0 (K1 (V1 rfl rfl rfl (CK [.b r, .p p, .b z, .p q] hO rfl (fun k' hx hr hO' => tlast_spec sm hel hg hq hl (hO := hO')) ?_))))))
  rintro _ _ w ⟨rfl, rfl⟩ hO
  simp only [List.cons_append, List.nil_append] at hO
  rw [show lastV (namA A [⟨#[116, 97, 98, 108, 101]⟩]) l = tb from htb.symm]
  refine V2 rfl rfl rfl (K2 (K3 (K0 (K0 (K1 (V1 rfl rfl rfl ?_))))))
  refine Z0 (fun h3_1 => ?_) (fun h3_1 => ?_)
  · refine V1 rfl rfl rfl (V1 rfl rfl rfl (V1 rfl rfl rfl ?_))
    refine Z0 (fun h3_5 => ?_) (fun h3_5 => ?_)
    · refine l_y rfl rfl (y_pick_t rfl rfl) (K2 (K3 (L8 (K0 ?_))))
      have hr1 := hR tp (by omega) (by omega)
      have e1 := (sm.atB (hhas tp (by omega) (by omega))).inner
      refine da_region (by intro c a d v w h; cases d <;> exact h) ?_
      have hO := hO.drew
      refine da_phase _ [14] (SO.ks [.b r, .b z, .p q, .p p] hO) ?_
      refine dx_u 0 (by kernel_rfl) rfl rfl rfl (fun w => y_move rfl) ?_
      refine dx_u 1 (by kernel_rfl) rfl rfl rfl (fun w => y_nilCheck rfl rfl) ?_
      refine dx_u 2 (by kernel_rfl) rfl rfl rfl (fun w => y_fldb (o' := 0) rfl) ?_
      refine dx_y 3 (by kernel_rfl) rfl rfl rfl (fun w ⟨m, hw⟩ => D5 hw rfl) ?_
      refine dx_u 4 (by kernel_rfl) rfl rfl rfl (fun w => y_move rfl) ?_
      refine dx_u 5 (by kernel_rfl) rfl rfl rfl (fun w => y_nilCheck rfl rfl) ?_
      refine dx_u 6 (by kernel_rfl) rfl rfl rfl (fun w => y_fldb (o' := 1) rfl) ?_
      refine dx_y 7 (by kernel_rfl) rfl rfl rfl (fun w ⟨m, hw⟩ => D5 hw rfl) ?_
      refine dx_u 8 (by kernel_rfl) rfl rfl rfl (fun w => y_move rfl) ?_
      refine dx_u 9 (by kernel_rfl) rfl rfl rfl (fun w => y_idx rfl rfl) ?_
      refine dx_y 10 (by kernel_rfl) rfl rfl rfl (fun w ⟨m, hw⟩ => y_e1 (x0 := 0) hw rfl) ?_
      refine dx_u 11 (by kernel_rfl) rfl rfl rfl (fun w => y_idx rfl rfl) ?_
      refine dx_u 12 (by kernel_rfl) rfl rfl rfl (fun w => y_fld (j' := 6) rfl) ?_
      refine dx_y 13 (by kernel_rfl) rfl rfl rfl (fun w ⟨m, hw⟩ => y_e1 (x0 := 6) hw rfl) ?_
      refine dx_close 14 (by kernel_rfl) rfl rfl ?_
      refine s_build (parts := [(0, .tmp 34), (1, .const (.int .i64 (-1)))]) (cs := [.int .i64 (at_ R ((at_ l (tp : Int).toNat) : Int).toNat).Inner, .int .i64 (-1)]) rfl rfl (fun a ha => partsOf_sound ha _ _ rfl) (by kernel_rfl) (o_done (da_only 15 (by kernel_rfl) rfl ?_))
      refine Y3 hO rfl rfl (fun w hO => ?_)
      refine o_done (da_end (by kernel_rfl) ?_)
      refine K3 (K6 (K9 ?_))
      rw [f1 (at_ R (at_ l tp.toNat).toNat).Inner (-1) (by rw [e1]; exact hit (by omega)) (by rw [hf, if_pos (by omega), e1]; rfl)]
      exact finC hO rfl rfl ⟨_, ⟨rfl, rfl⟩, hO.only [.b r, .p p, .b z, .p q]⟩
    · refine l_y rfl rfl (y_pick_t rfl rfl) (K2 (K3 (L9 (K5 (K3 (K0 (K0 ?_)))))))
      have h5 : ¬ tb < tp := by omega
      refine K1 (V1 rfl rfl rfl ?_)
      refine Z0 (fun h5_1 => ?_) (fun h5_1 => ?_)
      · refine K2 (K3 (L8 (K0 (K0 (K1 (V1 rfl rfl rfl (V3 rfl rfl rfl rfl (l_y rfl rfl (y_fldb (o' := 1) rfl) (l_y rfl rfl (D5 hO rfl) ?_)))))))))
        refine l_y rfl rfl (y_lenL rfl) ?_
        refine Z0 (fun h6_5 => ?_) (fun h6_5 => ?_)
        · refine K2 (K3 (L8 (K1 (V1 rfl rfl rfl (V3 rfl rfl rfl rfl (l_y rfl rfl (y_fldb (o' := 1) rfl) (l_y rfl rfl (D5 hO rfl) ?_)))))))
          refine l_y rfl rfl (y_idx rfl rfl) ?_
          refine l_y rfl rfl (y_e1 (x0 := 0) hO rfl) ?_
          refine V2 rfl rfl rfl (K2 (K3 (K0 (K1 (V1 rfl rfl rfl (s_build (parts := [(0, .tmp 50), (1, .const (.int .i64 (-1)))]) (cs := [.int .i64 (at_ l (0 : Int).toNat), .int .i64 (-1)]) rfl rfl (fun a ha => partsOf_sound ha _ _ rfl) (by kernel_rfl) (Y3 hO rfl rfl (fun w hO => ?_))))))))
          refine K2 (K3 (K6 (K9 ?_)))
          first
          | (rw [f1 (at_ l 0) (-1) (hne 0 (by omega) (by omega)) (by rw [hf, if_neg h5, if_pos h5_1, if_pos (by omega)])]
             exact finC hO rfl rfl ⟨_, ⟨rfl, rfl⟩, hO.only [.b r, .p p, .b z, .p q]⟩)
          | (rw [f2 (by rw [hf, if_neg h5, if_pos h5_1, if_neg (by omega)])]
             exact finC hO rfl rfl ⟨_, ⟨rfl, rfl⟩, hO.only [.b r, .p p, .b z, .p q]⟩)
        · refine K2 (K3 (L9 (K5 (K3 (K0 (K1 (V1 rfl rfl rfl (s_build (parts := [(0, .tmp 50), (1, .const (.int .i64 (-1)))]) (cs := [.int .i64 target, .int .i64 (-1)]) rfl rfl (fun a ha => partsOf_sound ha _ _ rfl) (by kernel_rfl) (Y3 hO rfl rfl (fun w hO => ?_))))))))))
          refine K2 (K3 (K6 (K9 ?_)))
          first
          | (rw [f1 (at_ l 0) (-1) (hne 0 (by omega) (by omega)) (by rw [hf, if_neg h5, if_pos h5_1, if_pos (by omega)])]
             exact finC hO rfl rfl ⟨_, ⟨rfl, rfl⟩, hO.only [.b r, .p p, .b z, .p q]⟩)
          | (rw [f2 (by rw [hf, if_neg h5, if_pos h5_1, if_neg (by omega)])]
             exact finC hO rfl rfl ⟨_, ⟨rfl, rfl⟩, hO.only [.b r, .p p, .b z, .p q]⟩)
      · refine K2 (K3 (L9 (K5 (K3 (K0 ?_)))))
        have hr1 := hR tb (by omega) (by omega)
        have e1 := (sm.atB (hhas tb (by omega) (by omega))).up
        refine K1 (V1 rfl rfl rfl (V3 rfl rfl rfl rfl (l_y rfl rfl (y_fldb (o' := 1) rfl) (l_y rfl rfl (D5 hO rfl) ?_))))
        refine V1 rfl rfl rfl (l_y rfl rfl (y_idx rfl rfl) ?_)
        refine l_y rfl rfl (y_e1 (x0 := 0) hO rfl) ?_
        refine V2 rfl rfl rfl (K2 (K3 (K0 (K0 (K1 (V1 rfl rfl rfl (V3 rfl rfl rfl rfl (l_y rfl rfl (y_fldb (o' := 0) rfl) (l_y rfl rfl (D5 hO rfl) ?_)))))))))
        refine V1 rfl rfl rfl (l_y rfl rfl (y_idx rfl rfl) ?_)
        refine l_y rfl rfl (y_fld (j' := 8) rfl) ?_
        refine l_y rfl rfl (y_e1 (x0 := 8) hO rfl) ?_
        refine Z1 (fun h10_8 => ?_) (fun h10_8 => ?_)
        · refine K2 (K3 (L8 (K0 (K1 (V1 rfl rfl rfl (V3 rfl rfl rfl rfl (l_y rfl rfl (y_fldb (o' := 0) rfl) (l_y rfl rfl (D5 hO rfl) ?_))))))))
          refine V1 rfl rfl rfl (l_y rfl rfl (y_idx rfl rfl) ?_)
          refine l_y rfl rfl (y_fld (j' := 8) rfl) ?_
          refine l_y rfl rfl (y_e1 (x0 := 8) hO rfl) ?_
          refine V1 rfl rfl rfl (s_build (parts := [(0, .tmp 75), (1, .tmp 76)]) (cs := [.int .i64 (at_ R ((at_ l (tb : Int).toNat) : Int).toNat).Up, .int .i64 (at_ l (tb : Int).toNat)]) rfl rfl (fun a ha => partsOf_sound ha _ _ rfl) (by kernel_rfl) (Y3 hO rfl rfl (fun w hO => ?_)))
          refine K2 (K3 (K6 (K9 ?_)))
          rw [f1 (at_ R (at_ l tb.toNat).toNat).Up (at_ l tb.toNat) h10_8 (by rw [hf, if_neg h5, if_neg h5_1, if_pos (by rw [e1] at h10_8; exact h10_8), e1]; rfl)]
          exact finC hO rfl rfl ⟨_, ⟨rfl, rfl⟩, hO.only [.b r, .p p, .b z, .p q]⟩
        · refine K2 (K3 (L9 (K5 (K3 (K0 (K0 (K1 (V1 rfl rfl rfl ?_))))))))
          refine Z0 (fun h12_1 => ?_) (fun h12_1 => ?_)
          · refine K2 (K3 (L8 (K1 (V1 rfl rfl rfl (V3 rfl rfl rfl rfl (l_y rfl rfl (y_fldb (o' := 1) rfl) (l_y rfl rfl (D5 hO rfl) ?_)))))))
            refine V1 rfl rfl rfl (l_y rfl rfl (D4) ?_)
            refine l_y rfl rfl (y_idx rfl rfl) ?_
            refine l_y rfl rfl (y_e1 (x0 := 0) hO rfl) ?_
            refine V2 rfl rfl rfl (K2 (K3 (K0 (K1 (V1 rfl rfl rfl (s_build (parts := [(0, .tmp 88), (1, .const (.int .i64 (-1)))]) (cs := [.int .i64 (at_ l ((tb - 1) : Int).toNat), .int .i64 (-1)]) rfl rfl (fun a ha => partsOf_sound ha _ _ rfl) (by kernel_rfl) (Y3 hO rfl rfl (fun w hO => ?_))))))))
            refine K2 (K3 (K6 ?_))
            have h10 : ¬ (nd A (at_ l tb.toNat)).Parent ≠ -1 := fun h => h (by rw [e1] at h10_8; exact h10_8)
            first
            | (rw [f1 (at_ l (tb - 1).toNat) (-1) (hne (tb - 1) (by omega) (by omega)) (by rw [hf, if_neg h5, if_neg h5_1, if_neg h10, if_pos (by omega)])]
               exact finC hO rfl rfl ⟨_, ⟨rfl, rfl⟩, hO.only [.b r, .p p, .b z, .p q]⟩)
            | (rw [f2 (by rw [hf, if_neg h5, if_neg h5_1, if_neg h10, if_neg (by omega)])]
               exact finC hO rfl rfl ⟨_, ⟨rfl, rfl⟩, hO.only [.b r, .p p, .b z, .p q]⟩)
          · refine K2 (K3 (L9 (K5 (K3 (K0 (K1 (V1 rfl rfl rfl (s_build (parts := [(0, .tmp 88), (1, .const (.int .i64 (-1)))]) (cs := [.int .i64 target, .int .i64 (-1)]) rfl rfl (fun a ha => partsOf_sound ha _ _ rfl) (by kernel_rfl) (Y3 hO rfl rfl (fun w hO => ?_))))))))))
            refine K2 (K3 (K6 ?_))
            have h10 : ¬ (nd A (at_ l tb.toNat)).Parent ≠ -1 := fun h => h (by rw [e1] at h10_8; exact h10_8)
            first
            | (rw [f1 (at_ l (tb - 1).toNat) (-1) (hne (tb - 1) (by omega) (by omega)) (by rw [hf, if_neg h5, if_neg h5_1, if_neg h10, if_pos (by omega)])]
               exact finC hO rfl rfl ⟨_, ⟨rfl, rfl⟩, hO.only [.b r, .p p, .b z, .p q]⟩)
            | (rw [f2 (by rw [hf, if_neg h5, if_neg h5_1, if_neg h10, if_neg (by omega)])]
               exact finC hO rfl rfl ⟨_, ⟨rfl, rfl⟩, hO.only [.b r, .p p, .b z, .p q]⟩)
  · refine V1 rfl rfl rfl ?_
    repeat refine M2 ?_
    refine l_y rfl rfl (y_pick_f rfl rfl) (K2 (K3 (L9 (K5 (K3 (K0 (K0 ?_)))))))
    have h5 : ¬ tb < tp := by omega
    refine K1 (V1 rfl rfl rfl ?_)
    refine Z0 (fun h5_1 => ?_) (fun h5_1 => ?_)
    · refine K2 (K3 (L8 (K0 (K0 (K1 (V1 rfl rfl rfl (V3 rfl rfl rfl rfl (l_y rfl rfl (y_fldb (o' := 1) rfl) (l_y rfl rfl (D5 hO rfl) ?_)))))))))
      refine l_y rfl rfl (y_lenL rfl) ?_
      refine Z0 (fun h6_5 => ?_) (fun h6_5 => ?_)
      · refine K2 (K3 (L8 (K1 (V1 rfl rfl rfl (V3 rfl rfl rfl rfl (l_y rfl rfl (y_fldb (o' := 1) rfl) (l_y rfl rfl (D5 hO rfl) ?_)))))))
        refine l_y rfl rfl (y_idx rfl rfl) ?_
        refine l_y rfl rfl (y_e1 (x0 := 0) hO rfl) ?_
        refine V2 rfl rfl rfl (K2 (K3 (K0 (K1 (V1 rfl rfl rfl (s_build (parts := [(0, .tmp 50), (1, .const (.int .i64 (-1)))]) (cs := [.int .i64 (at_ l (0 : Int).toNat), .int .i64 (-1)]) rfl rfl (fun a ha => partsOf_sound ha _ _ rfl) (by kernel_rfl) (Y3 hO rfl rfl (fun w hO => ?_))))))))
        refine K2 (K3 (K6 (K9 ?_)))
        first
        | (rw [f1 (at_ l 0) (-1) (hne 0 (by omega) (by omega)) (by rw [hf, if_neg h5, if_pos h5_1, if_pos (by omega)])]
           exact finC hO rfl rfl ⟨_, ⟨rfl, rfl⟩, hO.only [.b r, .p p, .b z, .p q]⟩)
        | (rw [f2 (by rw [hf, if_neg h5, if_pos h5_1, if_neg (by omega)])]
           exact finC hO rfl rfl ⟨_, ⟨rfl, rfl⟩, hO.only [.b r, .p p, .b z, .p q]⟩)
      · refine K2 (K3 (L9 (K5 (K3 (K0 (K1 (V1 rfl rfl rfl (s_build (parts := [(0, .tmp 50), (1, .const (.int .i64 (-1)))]) (cs := [.int .i64 target, .int .i64 (-1)]) rfl rfl (fun a ha => partsOf_sound ha _ _ rfl) (by kernel_rfl) (Y3 hO rfl rfl (fun w hO => ?_))))))))))
        refine K2 (K3 (K6 (K9 ?_)))
        first
        | (rw [f1 (at_ l 0) (-1) (hne 0 (by omega) (by omega)) (by rw [hf, if_neg h5, if_pos h5_1, if_pos (by omega)])]
           exact finC hO rfl rfl ⟨_, ⟨rfl, rfl⟩, hO.only [.b r, .p p, .b z, .p q]⟩)
        | (rw [f2 (by rw [hf, if_neg h5, if_pos h5_1, if_neg (by omega)])]
           exact finC hO rfl rfl ⟨_, ⟨rfl, rfl⟩, hO.only [.b r, .p p, .b z, .p q]⟩)
    · refine K2 (K3 (L9 (K5 (K3 (K0 ?_)))))
      have hr1 := hR tb (by omega) (by omega)
      have e1 := (sm.atB (hhas tb (by omega) (by omega))).up
      refine K1 (V1 rfl rfl rfl (V3 rfl rfl rfl rfl (l_y rfl rfl (y_fldb (o' := 1) rfl) (l_y rfl rfl (D5 hO rfl) ?_))))
      refine V1 rfl rfl rfl (l_y rfl rfl (y_idx rfl rfl) ?_)
      refine l_y rfl rfl (y_e1 (x0 := 0) hO rfl) ?_
      refine V2 rfl rfl rfl (K2 (K3 (K0 (K0 (K1 (V1 rfl rfl rfl (V3 rfl rfl rfl rfl (l_y rfl rfl (y_fldb (o' := 0) rfl) (l_y rfl rfl (D5 hO rfl) ?_)))))))))
      refine V1 rfl rfl rfl (l_y rfl rfl (y_idx rfl rfl) ?_)
      refine l_y rfl rfl (y_fld (j' := 8) rfl) ?_
      refine l_y rfl rfl (y_e1 (x0 := 8) hO rfl) ?_
      refine Z1 (fun h10_8 => ?_) (fun h10_8 => ?_)
      · refine K2 (K3 (L8 (K0 (K1 (V1 rfl rfl rfl (V3 rfl rfl rfl rfl (l_y rfl rfl (y_fldb (o' := 0) rfl) (l_y rfl rfl (D5 hO rfl) ?_))))))))
        refine V1 rfl rfl rfl (l_y rfl rfl (y_idx rfl rfl) ?_)
        refine l_y rfl rfl (y_fld (j' := 8) rfl) ?_
        refine l_y rfl rfl (y_e1 (x0 := 8) hO rfl) ?_
        refine V1 rfl rfl rfl (s_build (parts := [(0, .tmp 75), (1, .tmp 76)]) (cs := [.int .i64 (at_ R ((at_ l (tb : Int).toNat) : Int).toNat).Up, .int .i64 (at_ l (tb : Int).toNat)]) rfl rfl (fun a ha => partsOf_sound ha _ _ rfl) (by kernel_rfl) (Y3 hO rfl rfl (fun w hO => ?_)))
        refine K2 (K3 (K6 (K9 ?_)))
        rw [f1 (at_ R (at_ l tb.toNat).toNat).Up (at_ l tb.toNat) h10_8 (by rw [hf, if_neg h5, if_neg h5_1, if_pos (by rw [e1] at h10_8; exact h10_8), e1]; rfl)]
        exact finC hO rfl rfl ⟨_, ⟨rfl, rfl⟩, hO.only [.b r, .p p, .b z, .p q]⟩
      · refine K2 (K3 (L9 (K5 (K3 (K0 (K0 (K1 (V1 rfl rfl rfl ?_))))))))
        refine Z0 (fun h12_1 => ?_) (fun h12_1 => ?_)
        · refine K2 (K3 (L8 (K1 (V1 rfl rfl rfl (V3 rfl rfl rfl rfl (l_y rfl rfl (y_fldb (o' := 1) rfl) (l_y rfl rfl (D5 hO rfl) ?_)))))))
          refine V1 rfl rfl rfl (l_y rfl rfl (D4) ?_)
          refine l_y rfl rfl (y_idx rfl rfl) ?_
          refine l_y rfl rfl (y_e1 (x0 := 0) hO rfl) ?_
          refine V2 rfl rfl rfl (K2 (K3 (K0 (K1 (V1 rfl rfl rfl (s_build (parts := [(0, .tmp 88), (1, .const (.int .i64 (-1)))]) (cs := [.int .i64 (at_ l ((tb - 1) : Int).toNat), .int .i64 (-1)]) rfl rfl (fun a ha => partsOf_sound ha _ _ rfl) (by kernel_rfl) (Y3 hO rfl rfl (fun w hO => ?_))))))))
          refine K2 (K3 (K6 ?_))
          have h10 : ¬ (nd A (at_ l tb.toNat)).Parent ≠ -1 := fun h => h (by rw [e1] at h10_8; exact h10_8)
          first
          | (rw [f1 (at_ l (tb - 1).toNat) (-1) (hne (tb - 1) (by omega) (by omega)) (by rw [hf, if_neg h5, if_neg h5_1, if_neg h10, if_pos (by omega)])]
             exact finC hO rfl rfl ⟨_, ⟨rfl, rfl⟩, hO.only [.b r, .p p, .b z, .p q]⟩)
          | (rw [f2 (by rw [hf, if_neg h5, if_neg h5_1, if_neg h10, if_neg (by omega)])]
             exact finC hO rfl rfl ⟨_, ⟨rfl, rfl⟩, hO.only [.b r, .p p, .b z, .p q]⟩)
        · refine K2 (K3 (L9 (K5 (K3 (K0 (K1 (V1 rfl rfl rfl (s_build (parts := [(0, .tmp 88), (1, .const (.int .i64 (-1)))]) (cs := [.int .i64 target, .int .i64 (-1)]) rfl rfl (fun a ha => partsOf_sound ha _ _ rfl) (by kernel_rfl) (Y3 hO rfl rfl (fun w hO => ?_))))))))))
          refine K2 (K3 (K6 ?_))
          have h10 : ¬ (nd A (at_ l tb.toNat)).Parent ≠ -1 := fun h => h (by rw [e1] at h10_8; exact h10_8)
          first
          | (rw [f1 (at_ l (tb - 1).toNat) (-1) (hne (tb - 1) (by omega) (by omega)) (by rw [hf, if_neg h5, if_neg h5_1, if_neg h10, if_pos (by omega)])]
             exact finC hO rfl rfl ⟨_, ⟨rfl, rfl⟩, hO.only [.b r, .p p, .b z, .p q]⟩)
          | (rw [f2 (by rw [hf, if_neg h5, if_neg h5_1, if_neg h10, if_neg (by omega)])]
             exact finC hO rfl rfl ⟨_, ⟨rfl, rfl⟩, hO.only [.b r, .p p, .b z, .p q]⟩)
set_option maxHeartbeats 2000000 in
theorem tSpot_spec {target : Int} {f : Bool} (sm : Sim A K R) (hel : AllEl A l) (hin : ∀ x, elB A x = true → namA A templL x = true → (nd A x).Inner ≠ -1) (hl : l.length ≤ 1000000) (hfo : FosOk A l) (hO : Own k w [rarL r R, rstkL z r l]) :
    Tri Tryz.prog 84 #[.pointer (some ⟨r, 0, none⟩), .pointer (some ⟨z, 0, none⟩), .int .i64 target, .bool f] k w fun v m => v = .tuple #[.agg (Api_spot.cells (spotV A l target f).1).toArray, .int .i64 (spotV A l target f).2] ∧ m = [rarL r R, rstkL z r l] := by
  refine enter (args := [.pointer (some ⟨r, 0, none⟩), .pointer (some ⟨z, 0, none⟩), .int .i64 target, .bool f]) Tryz.func84 rfl rfl ?_
  obtain ⟨t0, ht0⟩ : ∃ t0, t0 = atV A l target f := ⟨_, rfl⟩
  obtain ⟨p, c, F, hg, hF, hO⟩ := rarL_open hO
  obtain ⟨q, d, hq, hld, hO⟩ := rstkL_open (hO.ks [.o z])
  refine K0 (K1 (s_alloc (vs := [.int .i64 0, .int .i64 0]) hO rfl rfl rfl fun b8 w hO => ?_))
  refine V2 rfl rfl rfl (K2 (K3 (K0 (K0 (K1 (V1 rfl rfl rfl (V1 rfl rfl rfl (CK [.b r, .p p] hO rfl (fun k' hx hr hO' => IsA_spec sm (hO := hO')) ?_))))))))
  rintro _ _ w ⟨rfl, rfl⟩ hO
  simp only [List.cons_append, List.nil_append] at hO
  refine l_y rfl rfl (y_not rfl rfl) (K2 (K3 ?_))
  refine c_split rfl (fun hc15 => ?_) (fun hc15 => ?_)
  · simp only [Bool.not_eq_true', Bool.not_eq_false'] at hc15
    refine K0 (K1 (s_build (parts := []) (cs := [.int .i64 0, .int .i64 0]) rfl rfl (fun a ha => partsOf_sound ha _ _ rfl) (by kernel_rfl) (Y3 hO rfl rfl (fun w hO => ?_))))
    refine V2 rfl rfl rfl (K2 (K3 (K6 (K9 ?_))))
    have e : spotV A l target f = (⟨0, 0⟩, 6) := by rw [spotV, if_pos (by simpa using hc15)]
    rw [e]
    exact finC1 hO rfl rfl rfl ⟨_, ⟨rfl, rfl⟩, ((rarL_shut hF ((rstkL_shut (hO.ks [.b z, .p q])).ks [.b r, .p p, .f])).ks [.o r, .o z]).two⟩
  · simp only [Bool.not_eq_true', Bool.not_eq_false'] at hc15
    refine K5 (K3 (K0 (K1 (V1 rfl rfl rfl (s_build (parts := [(0, .tmp 17), (1, .const (.int .i64 (-1)))]) (cs := [.int .i64 target, .int .i64 (-1)]) rfl rfl (fun a ha => partsOf_sound ha _ _ rfl) (by kernel_rfl) (s_alloc (vs := [.int .i64 0, .int .i64 0]) hO rfl rfl rfl fun b10 w hO => ?_))))))
    refine Y3 hO rfl rfl (fun w hO => ?_)
    refine K2 (K3 ?_)
    refine c_cut (X := Nat) (fun b10 => [(0, .pointer (some ⟨r, 0, none⟩)), (8, .pointer (some ⟨b8, 0, none⟩)), (9, .int .i64 0), (10, .pointer (some ⟨b10, 0, none⟩))]) (fun b10 w => Own k w [rB r p R.length c, rS p c R, pool F, tB z r q l.length d, sI q d l, blk b8 135 [.int .i64 0, .int .i64 0], blk b10 135 (Api_spot.cells t0)] ∧ True) ?_ ?_
    · refine K0 (K1 (V1 rfl rfl rfl (V1 rfl rfl rfl ?_)))
      refine l_split 20 rfl (fun hg20 => ?_) (fun hg20 => ?_)
      · refine V1 rfl rfl rfl (V1 rfl rfl rfl (s_lit (parts := [(0, .const (.string ⟨#[116, 97, 98, 108, 101]⟩)), (1, .const (.string ⟨#[116, 98, 111, 100, 121]⟩)), (2, .const (.string ⟨#[116, 102, 111, 111, 116]⟩)), (3, .const (.string ⟨#[116, 104, 101, 97, 100]⟩)), (4, .const (.string ⟨#[116, 114]⟩))]) (enc := eS) [⟨#[116, 97, 98, 108, 101]⟩, ⟨#[116, 98, 111, 100, 121]⟩, ⟨#[116, 102, 111, 111, 116]⟩, ⟨#[116, 104, 101, 97, 100]⟩, ⟨#[116, 114]⟩] [.string ⟨#[116, 97, 98, 108, 101]⟩, .string ⟨#[116, 98, 111, 100, 121]⟩, .string ⟨#[116, 102, 111, 111, 116]⟩, .string ⟨#[116, 104, 101, 97, 100]⟩, .string ⟨#[116, 114]⟩] hO rfl (fun b23 w hO => ?_)))
        refine CK [.b r, .p p, .b z] hO rfl (fun k' hx hr hO' => tOf_spec (ts := tpartL) (sls_roK (p := (some ⟨b23, 0, none⟩)) hr (sls_fct (p := (some ⟨b23, 0, none⟩)) hO)) (by decide) sm hg (hO := hO')) ?_
        rintro _ _ w ⟨rfl, rfl⟩ hO
        simp only [List.cons_append, List.nil_append] at hO
        refine l_y rfl rfl (y_pick_t rfl rfl) (K2 (K3 ?_))
        refine c_split rfl (fun hc25 => ?_) (fun hc25 => ?_)
        · refine K1 (V1 rfl rfl rfl (V1 rfl rfl rfl (V1 rfl rfl rfl (CK [.b r, .p p, .b z, .p q] hO rfl (fun k' hx hr hO' => tfostered_spec sm hel hin hg hq hl (hO := hO')) ?_))))
          rintro _ _ w ⟨rfl, rfl⟩ hO
          simp only [List.cons_append, List.nil_append] at hO
          refine Y3 hO rfl rfl (fun w hO => ?_)
          refine K2 ?_
          have e0 : (atV A l target f) = if f = true ∧ (elB A target && namA A tpartL target) = true ∧ fosterV A l ≠ ⟨-1, -1⟩ then fosterV A l else ⟨target, -1⟩ := rfl
          first
          | (have e1 : t0 = fosR A l target := by
               rw [ht0, e0, fosR]
               have h9 := hc25
               by_cases h8 : fosterV A l = ⟨-1, -1⟩
               · rw [if_neg (fun h => h.2.2 h8), if_pos h8]
               · rw [if_pos ⟨hg20, hc25, h8⟩, if_neg h8]
             rw [e1])
          | (have e1 : t0 = ⟨target, -1⟩ := by
               rw [ht0, e0, if_neg]
               rintro ⟨h1, h2, h3⟩
               first | (rw [hg20] at h1; simp at h1; done) | (rw [hc25] at h2; simp at h2; done)
             rw [e1])
          exact q_cut (b10) ⟨rfl, rfl, rfl, rfl, trivial⟩ ⟨hO.only [.b r, .p p, .f, .b z, .p q, .b b8, .b b10], trivial⟩
        · refine K5 ?_
          have e0 : (atV A l target f) = if f = true ∧ (elB A target && namA A tpartL target) = true ∧ fosterV A l ≠ ⟨-1, -1⟩ then fosterV A l else ⟨target, -1⟩ := rfl
          first
          | (have e1 : t0 = fosR A l target := by
               rw [ht0, e0, fosR]
               have h9 := hc25
               by_cases h8 : fosterV A l = ⟨-1, -1⟩
               · rw [if_neg (fun h => h.2.2 h8), if_pos h8]
               · rw [if_pos ⟨hg20, hc25, h8⟩, if_neg h8]
             rw [e1])
          | (have e1 : t0 = ⟨target, -1⟩ := by
               rw [ht0, e0, if_neg]
               rintro ⟨h1, h2, h3⟩
               first | (rw [hg20] at h1; simp at h1; done) | (rw [hc25] at h2; simp at h2; done)
             rw [e1])
          exact q_cut (b10) ⟨rfl, rfl, rfl, rfl, trivial⟩ ⟨hO.only [.b r, .p p, .f, .b z, .p q, .b b8, .b b10], trivial⟩
      · repeat refine M2 ?_
        refine l_y rfl rfl (y_pick_f rfl rfl) (K2 (K3 (L9 (K5 ?_))))
        have e0 : (atV A l target f) = if f = true ∧ (elB A target && namA A tpartL target) = true ∧ fosterV A l ≠ ⟨-1, -1⟩ then fosterV A l else ⟨target, -1⟩ := rfl
        first
        | (have e1 : t0 = fosR A l target := by
             rw [ht0, e0, fosR]
             have h9 := hc25
             by_cases h8 : fosterV A l = ⟨-1, -1⟩
             · rw [if_neg (fun h => h.2.2 h8), if_pos h8]
             · rw [if_pos ⟨hg20, hc25, h8⟩, if_neg h8]
           rw [e1])
        | (have e1 : t0 = ⟨target, -1⟩ := by
             rw [ht0, e0, if_neg]
             rintro ⟨h1, h2, h3⟩
             first | (rw [hg20] at h1; simp at h1; done) | (rw [hc25] at h2; simp at h2; done)
           rw [e1])
        exact q_cut (b10) ⟨rfl, rfl, rfl, rfl, trivial⟩ ⟨hO.only [.b r, .p p, .f, .b z, .p q, .b b8, .b b10], trivial⟩
    · rintro b10 w ⟨hO, _⟩
      have hb : hasB A target = true := by simpa using hc15
      have hbt := ht0 ▸ atV_has (f := f) hfo hb
      have hbr := hasR_true (R := R) (by rw [sm.has]; exact hbt)
      have e1 := (sm.atB hbt).inner
      have e3 : spotV A l target f = (innV A t0, 0) := by rw [spotV, if_neg (by rw [hb]; simp), ht0]
      have e4 : innV A t0 = if (at_ R t0.Parent.toNat).Inner ≠ -1 then ⟨(at_ R t0.Parent.toNat).Inner, -1⟩ else t0 := by rw [e1]; rfl
      refine K0 (da_region (by intro c a d v w h; cases d <;> exact h) ?_)
      have hO := hO.drew
      refine da_phase _ [] (SO.ks [.b r, .b b10, .p p] hO) ?_
      refine dx_u 0 (by kernel_rfl) rfl rfl rfl (fun w => y_move rfl) ?_
      refine dx_u 1 (by kernel_rfl) rfl rfl rfl (fun w => y_nilCheck rfl rfl) ?_
      refine dx_u 2 (by kernel_rfl) rfl rfl rfl (fun w => y_fldb (o' := 0) rfl) ?_
      refine dx_y 3 (by kernel_rfl) rfl rfl rfl (fun w ⟨m, hw⟩ => D5 hw rfl) ?_
      refine dx_u 4 (by kernel_rfl) rfl rfl rfl (fun w => y_fldb (o' := 0) rfl) ?_
      refine dx_y 5 (by kernel_rfl) rfl rfl rfl (fun w ⟨m, hw⟩ => D5 hw rfl) ?_
      refine dx_u 6 (by kernel_rfl) rfl rfl rfl (fun w => y_idx rfl rfl) ?_
      refine dx_u 7 (by kernel_rfl) rfl rfl rfl (fun w => y_fld (j' := 6) rfl) ?_
      refine dx_y 8 (by kernel_rfl) rfl rfl rfl (fun w ⟨m, hw⟩ => y_e1 (x0 := 6) hw rfl) ?_
      refine dx_u 9 (by kernel_rfl) rfl rfl rfl (fun w => y_assign rfl) ?_
      refine dx_end (by kernel_rfl) ?_
      refine K3 (K0 (K0 (K1 (V1 rfl rfl rfl ?_))))
      refine Z1 (fun h7_1 => ?_) (fun h7_1 => ?_)
      · refine K2 (K3 (L8 (K1 (V1 rfl rfl rfl (s_build (parts := [(0, .tmp 41), (1, .const (.int .i64 (-1)))]) (cs := [.int .i64 (at_ R (t0.Parent : Int).toNat).Inner, .int .i64 (-1)]) rfl rfl (fun a ha => partsOf_sound ha _ _ rfl) (by kernel_rfl) (Y3 hO rfl rfl (fun w hO => ?_)))))))
        refine K2 (K3 (K0 (K1 (l_y rfl rfl (D8 (cs := [.int .i64 (at_ R (t0.Parent : Int).toNat).Inner, .int .i64 (-1)]) hO rfl) ?_))))
        refine Y3 hO rfl rfl (fun w hO => ?_)
        refine V2 rfl rfl rfl (K2 (K3 (K6 ?_)))
        first
        | (rw [e3, e4, if_pos h7_1]
           exact finC1 hO rfl rfl rfl ⟨_, ⟨rfl, rfl⟩, ((rarL_shut hF ((rstkL_shut (hO.ks [.b z, .p q])).ks [.b r, .p p, .f])).ks [.o r, .o z]).two⟩)
        | (rw [e3, e4, if_neg (fun h => h h7_1)]
           exact finC1 hO rfl rfl rfl ⟨_, ⟨rfl, rfl⟩, ((rarL_shut hF ((rstkL_shut (hO.ks [.b z, .p q])).ks [.b r, .p p, .f])).ks [.o r, .o z]).two⟩)
      · refine K2 (K3 (L9 (K5 (K3 (K0 (K1 (l_y rfl rfl (D8 (cs := [.int .i64 t0.Parent, .int .i64 t0.Before]) hO rfl) ?_)))))))
        refine Y3 hO rfl rfl (fun w hO => ?_)
        refine V2 rfl rfl rfl (K2 (K3 (K6 ?_)))
        first
        | (rw [e3, e4, if_pos h7_1]
           exact finC1 hO rfl rfl rfl ⟨_, ⟨rfl, rfl⟩, ((rarL_shut hF ((rstkL_shut (hO.ks [.b z, .p q])).ks [.b r, .p p, .f])).ks [.o r, .o z]).two⟩)
        | (rw [e3, e4, if_neg (fun h => h h7_1)]
           exact finC1 hO rfl rfl rfl ⟨_, ⟨rfl, rfl⟩, ((rarL_shut hF ((rstkL_shut (hO.ks [.b z, .p q])).ks [.b r, .p p, .f])).ks [.o r, .o z]).two⟩)
end
end Go.Proofs.YtoohapbaelmkcaaGreat
end
section
set_option maxRecDepth 100000
namespace Go.Proofs.YtoohapbaelmkcaaGreat
open Go Go.Hb Go.RowKit
abbrev ragB (x r z y : Nat) (fo : Bool) (errs : Int) : HP := blk x 91 [.pointer (some ⟨r, 0, none⟩), .pointer (some ⟨z, 0, none⟩), .pointer (some ⟨y, 0, none⟩), .bool fo, .int .i64 errs]
theorem Sim.upI {A : List Node_one} {K : Int → List Int} {R : List Ref01_one} (s : Sim A K R) {x : Int} (h : InA A x) : (at_ R x.toNat).Up = (nodeA A x).Parent := (s.one x h).up
section
variable {k : Ctx} {w : World} {b r z y : Nat} {fo : Bool} {errs : Int} {A : List Node_one} {K : Int → List Int} {R : List Ref01_one} {st : List Int} {L : List Api_entry}
theorem rIsC_spec {id : Int} (s : Sim A K R) (hO : Own k w [rarL r R]) : Tri Tryz.prog 65 #[.pointer (some ⟨r, 0, none⟩), .int .i64 id] k w fun v m => v = .bool (hasB A id) ∧ m = [rarL r R] :=
 lift2r hO fun k' p c hg hO => IsA_spec s hO
set_option maxHeartbeats 2000000 in
theorem rPutG_spec {want before id : Int} (t : Two A K R) (hid : InA A id) (hw : InA A want) (hbe : before = -1 ∨ InA A before) (hO : Own k w [rarL r R]) :
  Tri Tryz.prog 85 #[.pointer (some ⟨r, 0, none⟩), .agg (Api_spot.cells ⟨want, before⟩).toArray, .int .i64 id] k w fun v m => (∃ e, v = .int .i64 e) ∧ ∃ K' R', Two (putF A ⟨want, before⟩ id) K' R' ∧ m = [rarL r R'] := by
 refine enter (args := [.pointer (some ⟨r, 0, none⟩), .agg (Api_spot.cells ⟨want, before⟩).toArray, .int .i64 id]) Tryz.func85 rfl rfl ?_
 have hun := unlinkL_len (A := A) (id := id)
 obtain ⟨A1, hA1⟩ : ∃ A1, A1 = (unlinkL A id).2 := ⟨_, rfl⟩
 refine K0 (K1 (s_box (vs := [.int .i64 (Api_spot.mk want before).Parent, .int .i64 (Api_spot.mk want before).Before]) hO rfl rfl rfl (by rfl) fun b4 w hO => ?_))
 refine V2 rfl rfl rfl (K2 (K3 ?_))
 refine c_cut (X := Unit) (fun u => [(0, .pointer (some ⟨r, 0, none⟩)), (2, .int .i64 id), (4, .pointer (some ⟨b4, 0, none⟩)), (6, .int .i64 0)]) (fun u w => Own k w [rarL r R, blk b4 135 [.int .i64 want, .int .i64 before]] ∧ True) ?_ ?_
 ·refine K0 (K1 (V1 rfl rfl rfl (V1 rfl rfl rfl (CK [.o r] hO rfl (fun k' hx hr hO' => rIsC_spec (id := id) t.sim (hO := hO')) ?_))))
  rintro _ _ w ⟨rfl, rfl⟩ hO
  simp only [List.cons_append, List.nil_append] at hO
  rw [hid.b]
  refine l_y rfl rfl (y_not rfl rfl) (V1 rfl rfl rfl (V1 rfl rfl rfl (l_y rfl rfl (y_fldb (o' := 0) rfl) (l_y rfl rfl (D5 hO rfl) ?_))))
  refine CK [.o r] hO rfl (fun k' hx hr hO' => rIsC_spec (id := want) t.sim (hO := hO')) ?_
  rintro _ _ w ⟨rfl, rfl⟩ hO
  simp only [List.cons_append, List.nil_append] at hO
  rw [hw.b]
  refine l_y rfl rfl (y_not rfl rfl) (l_y rfl rfl (y_pick_f rfl rfl) (V1 rfl rfl rfl (l_y rfl rfl (y_fldb (o' := 1) rfl) (l_y rfl rfl (D5 hO rfl) ?_))))
  refine Z1 (fun h1_14 => ?_) (fun h1_14 => ?_)
  ·refine V1 rfl rfl rfl (V1 rfl rfl rfl (l_y rfl rfl (y_fldb (o' := 1) rfl) (l_y rfl rfl (D5 hO rfl) ?_)))
   refine CK [.o r] hO rfl (fun k' hx hr hO' => rIsC_spec (id := before) t.sim (hO := hO')) ?_
   rintro _ _ w ⟨rfl, rfl⟩ hO
   simp only [List.cons_append, List.nil_append] at hO
   rw [(hbe.resolve_left h1_14).b]
   refine l_y rfl rfl (y_not rfl rfl) (l_y rfl rfl (y_pick_t rfl rfl) (l_y rfl rfl (y_pick_f rfl rfl) (K2 (K3 (L9 (K5 ?_))))))
   exact q_cut (()) ⟨rfl, rfl, rfl, rfl, trivial⟩ ⟨hO.only [.o r, .b b4], trivial⟩
  ·refine V1 rfl rfl rfl ?_
   repeat refine M2 ?_
   refine l_y rfl rfl (y_pick_f rfl rfl) (l_y rfl rfl (y_pick_f rfl rfl) (K2 (K3 (L9 (K5 ?_)))))
   exact q_cut (()) ⟨rfl, rfl, rfl, rfl, trivial⟩ ⟨hO.only [.o r, .b b4], trivial⟩
 ·rintro u w ⟨hO, _⟩
  refine K0 (K1 (V1 rfl rfl rfl (V1 rfl rfl rfl (CK [.o r] hO rfl (fun k' hx hr hO' => rUnlink_spec t.tree t.sim t.max (hO := hO')) ?_))))
  rintro _ _ w ⟨rfl, Ra, rfl, s1⟩ hO
  simp only [List.cons_append, List.nil_append] at hO
  have t1 := t.unlink s1
  rw [← hA1] at t1
  obtain ⟨Ka, hKa⟩ : ∃ Ka, Ka = unlinkKs A K id := ⟨_, rfl⟩
  rw [← hKa] at t1
  have hlA : A1.length = A.length := by rw [hA1, hun]
  have hlR : Ra.length = A1.length := t1.sim.len
  have hbr : before ≠ -1 → InA A1 before := fun hne => (hbe.resolve_left hne).len hlA
  refine K2 (K3 (K0 (K1 (l_y rfl rfl (y_fldb (o' := 1) rfl) (l_y rfl rfl (D5 hO rfl) ?_)))))
  refine V2 rfl rfl rfl (K2 (K3 (K0 (K0 ?_))))
  obtain ⟨p, c, F, hg, hF, hO⟩ := rarL_open (hO.ks [.o r])
  have hbr2 : before = -1 ∨ 0 ≤ before ∧ before < Ra.length := by
   rcases hbe with h | h
   ·exact .inl h
   ·have := h.1; have := h.2; exact .inr ⟨by omega, by omega⟩
  refine da_region (by intro c a d v w h; cases d <;> exact h) ?_
  have hO := hO.drew
  refine da_phase _ [] (SO.ks [.b r, .p p, .b b4] hO) ?_
  refine dx_u 0 (by kernel_rfl) rfl rfl rfl (fun w => y_move rfl) ?_
  refine dx_u 1 (by kernel_rfl) rfl rfl rfl (fun w => y_cmpI rfl rfl rfl) ?_
  refine dx_u 2 (by kernel_rfl) rfl rfl rfl (fun w => y_move rfl) ?_
  refine dx_split 38 rfl (fun hg38 => ?_) (fun hg38 => ?_)
  ·have h5_1 := ndt hg38
   refine dx_u 3 (by kernel_rfl) rfl rfl rfl (fun w => y_move rfl) ?_
   refine dx_u 4 (by kernel_rfl) rfl rfl rfl (fun w => y_nilCheck rfl rfl) ?_
   refine dx_u 5 (by kernel_rfl) rfl rfl rfl (fun w => y_fldb (o' := 0) rfl) ?_
   refine dx_y 6 (by kernel_rfl) rfl rfl rfl (fun w ⟨m, hw⟩ => D5 hw rfl) ?_
   refine dx_u 7 (by kernel_rfl) rfl rfl rfl (fun w => y_move rfl) ?_
   refine dx_u 8 (by kernel_rfl) rfl rfl rfl (fun w => y_idx rfl rfl) ?_
   refine dx_u 9 (by kernel_rfl) rfl rfl rfl (fun w => y_fld (j' := 8) rfl) ?_
   refine dx_y 10 (by kernel_rfl) rfl rfl rfl (fun w ⟨m, hw⟩ => y_e1 (x0 := 8) hw rfl) ?_
   refine dx_u 11 (by kernel_rfl) rfl rfl rfl (fun w => y_fldb (o' := 0) rfl) ?_
   refine dx_y 12 (by kernel_rfl) rfl rfl rfl (fun w ⟨m, hw⟩ => D5 hw rfl) ?_
   refine dx_u 13 (by kernel_rfl) rfl rfl rfl (fun w => y_cmpI rfl rfl rfl) ?_
   refine dx_u 14 (by kernel_rfl) rfl rfl rfl (fun w => y_pick_t rfl rfl) ?_
   refine dx_end (by kernel_rfl) ?_
   refine K3 ?_
   refine c_split rfl (fun hc50 => ?_) (fun hc50 => ?_)
   ·refine K1 (V2 rfl rfl rfl (K2 (K3 (K0 (K0 ?_)))))
    have hO := rarL_shut hF (hO.ks [.b r, .p p, .f])
    have hbf : befF A1 want before = (-1) := by
     unfold befF
     first
     | (rw [if_pos ⟨h5_1, by rw [← t1.sim.upI (hbr h5_1)]; simpa using hc50⟩]; done)
     | (rw [if_neg (fun h => absurd (show ¬ (at_ Ra before.toNat).Up = want by rw [t1.sim.upI (hbr h.1)]; exact h.2) (by simpa using hc50))]; done)
     | (rw [if_neg (fun h => h.1 h5_1)]; done)
     | (split <;> simp_all; done)
    refine K1 (V1 rfl rfl rfl (l_y rfl rfl (y_fldb (o' := 0) rfl) (l_y rfl rfl (D5 hO rfl) ?_)))
    refine V1 rfl rfl rfl (V1 rfl rfl rfl (CK [.o r] hO rfl (fun k' hx hr hO' => rLink_spec (up := want) (id := id) (before := (-1)) t1.tree t1.sim t1.max (hO := hO')) ?_))
    rintro _ _ w ⟨rfl, Rb, rfl, s2⟩ hO
    simp only [List.cons_append, List.nil_append] at hO
    have t2 := t1.link s2
    refine Z1 (fun h7_6 => ?_) (fun h7_6 => ?_)
    ·refine K2 (K3 (L8 (K0 (K1 (V2 rfl rfl rfl (K2 (K3 (K6 (K9 ?_)))))))))
     exact fin1 rfl rfl ⟨_, ⟨⟨_, rfl⟩, _, Rb, by dsimp only [putF]; rw [← hA1, hbf]; exact t2, rfl⟩, hO.only [.o r]⟩
    ·refine K2 (K3 (L9 (K5 (K3 (K0 (K1 (V2 rfl rfl rfl (K2 (K3 (K6 ?_))))))))))
     exact fin1 rfl rfl ⟨_, ⟨⟨_, rfl⟩, _, Rb, by dsimp only [putF]; rw [← hA1, hbf]; exact t2, rfl⟩, hO.only [.o r]⟩
   ·refine K5 (K3 (K0 (K0 ?_)))
    have hO := rarL_shut hF (hO.ks [.b r, .p p, .f])
    have hbf : befF A1 want before = before := by
     unfold befF
     first
     | (rw [if_pos ⟨h5_1, by rw [← t1.sim.upI (hbr h5_1)]; simpa using hc50⟩]; done)
     | (rw [if_neg (fun h => absurd (show ¬ (at_ Ra before.toNat).Up = want by rw [t1.sim.upI (hbr h.1)]; exact h.2) (by simpa using hc50))]; done)
     | (rw [if_neg (fun h => h.1 h5_1)]; done)
     | (split <;> simp_all; done)
    refine K1 (V1 rfl rfl rfl (l_y rfl rfl (y_fldb (o' := 0) rfl) (l_y rfl rfl (D5 hO rfl) ?_)))
    refine V1 rfl rfl rfl (V1 rfl rfl rfl (CK [.o r] hO rfl (fun k' hx hr hO' => rLink_spec (up := want) (id := id) (before := before) t1.tree t1.sim t1.max (hO := hO')) ?_))
    rintro _ _ w ⟨rfl, Rb, rfl, s2⟩ hO
    simp only [List.cons_append, List.nil_append] at hO
    have t2 := t1.link s2
    refine Z1 (fun h7_6 => ?_) (fun h7_6 => ?_)
    ·refine K2 (K3 (L8 (K0 (K1 (V2 rfl rfl rfl (K2 (K3 (K6 (K9 ?_)))))))))
     exact fin1 rfl rfl ⟨_, ⟨⟨_, rfl⟩, _, Rb, by dsimp only [putF]; rw [← hA1, hbf]; exact t2, rfl⟩, hO.only [.o r]⟩
    ·refine K2 (K3 (L9 (K5 (K3 (K0 (K1 (V2 rfl rfl rfl (K2 (K3 (K6 ?_))))))))))
     exact fin1 rfl rfl ⟨_, ⟨⟨_, rfl⟩, _, Rb, by dsimp only [putF]; rw [← hA1, hbf]; exact t2, rfl⟩, hO.only [.o r]⟩
  ·have h5_1 := ndf hg38
   refine dx_pass 3 (by kernel_rfl) rfl rfl rfl ?_
   refine dx_pass 4 (by kernel_rfl) rfl rfl rfl ?_
   refine dx_pass 5 (by kernel_rfl) rfl rfl rfl ?_
   refine dx_pass 6 (by kernel_rfl) rfl rfl rfl ?_
   refine dx_pass 7 (by kernel_rfl) rfl rfl rfl ?_
   refine dx_pass 8 (by kernel_rfl) rfl rfl rfl ?_
   refine dx_pass 9 (by kernel_rfl) rfl rfl rfl ?_
   refine dx_pass 10 (by kernel_rfl) rfl rfl rfl ?_
   refine dx_pass 11 (by kernel_rfl) rfl rfl rfl ?_
   refine dx_pass 12 (by kernel_rfl) rfl rfl rfl ?_
   refine dx_pass 13 (by kernel_rfl) rfl rfl rfl ?_
   refine dx_u 14 (by kernel_rfl) rfl rfl rfl (fun w => y_pick_f rfl rfl) ?_
   refine dx_end (by kernel_rfl) ?_
   refine K3 (L9 (K5 (K3 (K0 (K0 ?_)))))
   have hO := rarL_shut hF (hO.ks [.b r, .p p, .f])
   have hbf : befF A1 want before = before := by
    unfold befF
    first
    | (rw [if_pos ⟨h5_1, by rw [← t1.sim.upI (hbr h5_1)]; simpa using hc50⟩]; done)
    | (rw [if_neg (fun h => absurd (show ¬ (at_ Ra before.toNat).Up = want by rw [t1.sim.upI (hbr h.1)]; exact h.2) (by simpa using hc50))]; done)
    | (rw [if_neg (fun h => h.1 h5_1)]; done)
    | (split <;> simp_all; done)
   refine K1 (V1 rfl rfl rfl (l_y rfl rfl (y_fldb (o' := 0) rfl) (l_y rfl rfl (D5 hO rfl) ?_)))
   refine V1 rfl rfl rfl (V1 rfl rfl rfl (CK [.o r] hO rfl (fun k' hx hr hO' => rLink_spec (up := want) (id := id) (before := before) t1.tree t1.sim t1.max (hO := hO')) ?_))
   rintro _ _ w ⟨rfl, Rb, rfl, s2⟩ hO
   simp only [List.cons_append, List.nil_append] at hO
   have t2 := t1.link s2
   refine Z1 (fun h7_6 => ?_) (fun h7_6 => ?_)
   ·refine K2 (K3 (L8 (K0 (K1 (V2 rfl rfl rfl (K2 (K3 (K6 (K9 ?_)))))))))
    exact fin1 rfl rfl ⟨_, ⟨⟨_, rfl⟩, _, Rb, by dsimp only [putF]; rw [← hA1, hbf]; exact t2, rfl⟩, hO.only [.o r]⟩
   ·refine K2 (K3 (L9 (K5 (K3 (K0 (K1 (V2 rfl rfl rfl (K2 (K3 (K6 ?_))))))))))
    exact fin1 rfl rfl ⟨_, ⟨⟨_, rfl⟩, _, Rb, by dsimp only [putF]; rw [← hA1, hbf]; exact t2, rfl⟩, hO.only [.o r]⟩
set_option maxHeartbeats 2000000 in
theorem rfresh_spec {tk : Api_token} (ht : tk.Attrs = [] ∧ tk.AttrsP = none ∧ tk.AttrsC = 0) (t : Two A K R) (q1 : Option Addr) (d1 : Nat) (hO : Own k w [ragB b r z y fo errs, rarL r R]) :
  Tri Tryz.prog 86 #[.pointer (some ⟨b, 0, none⟩), .agg (Api_token.cells tk).toArray] k w fun v m => v = .int .i64 (elementL A 0 tk.Name [] q1 d1).1 ∧ ∃ K' R', Two (elementL A 0 tk.Name [] q1 d1).2.2 K' R' ∧ m = [ragB b r z y fo errs, rarL r R'] := by
 refine enter (args := [.pointer (some ⟨b, 0, none⟩), .agg (Api_token.cells tk).toArray]) Tryz.func86 rfl rfl ?_
 obtain ⟨kd, tn, da, sy, ha, qu, ch, se, tp, ta, tc⟩ := tk
 obtain ⟨h1, h2, h3⟩ := ht
 dsimp only at h1 h2 h3
 subst h1 h2 h3
 refine K0 (K1 (s_box (vs := [.int .i64 (Api_token.mk kd tn da sy ha qu ch se none [] 0).Kind, .string (Api_token.mk kd tn da sy ha qu ch se none [] 0).Name, .string (Api_token.mk kd tn da sy ha qu ch se none [] 0).Data, .string (Api_token.mk kd tn da sy ha qu ch se none [] 0).System, .int .i64 (Api_token.mk kd tn da sy ha qu ch se none [] 0).Has, .bool (Api_token.mk kd tn da sy ha qu ch se none [] 0).Quirks, .int .i32 (Api_token.mk kd tn da sy ha qu ch se none [] 0).Char, .bool (Api_token.mk kd tn da sy ha qu ch se none [] 0).Self, .slice (Api_token.mk kd tn da sy ha qu ch se none [] 0).AttrsP (Api_token.mk kd tn da sy ha qu ch se none [] 0).Attrs.length (Api_token.mk kd tn da sy ha qu ch se none [] 0).AttrsC]) hO rfl rfl rfl (by rfl) fun b3 w hO => ?_))
 refine V2 rfl rfl rfl (K2 (K3 (K0 (da_region (by intro c a d v w h; cases d <;> exact h) ?_))))
 have hO := hO.drew
 refine da_phase _ [8] (SO.ks [.b b, .b b3] hO) ?_
 refine dx_u 0 (by kernel_rfl) rfl rfl rfl (fun w => y_move rfl) ?_
 refine dx_u 1 (by kernel_rfl) rfl rfl rfl (fun w => y_nilCheck rfl rfl) ?_
 refine dx_u 2 (by kernel_rfl) rfl rfl rfl (fun w => y_fldb (o' := 0) rfl) ?_
 refine dx_y 3 (by kernel_rfl) rfl rfl rfl (fun w ⟨m, hw⟩ => D5 hw rfl) ?_
 refine dx_u 4 (by kernel_rfl) rfl rfl rfl (fun w => y_fldb (o' := 1) rfl) ?_
 refine dx_y 5 (by kernel_rfl) rfl rfl rfl (fun w ⟨m, hw⟩ => D5 hw rfl) ?_
 refine dx_u 6 (by kernel_rfl) rfl rfl rfl (fun w => y_fldb (o' := 8) rfl) ?_
 refine dx_y 7 (by kernel_rfl) rfl rfl rfl (fun w ⟨m, hw⟩ => D5 hw rfl) ?_
 refine dx_close 8 (by kernel_rfl) rfl rfl ?_
 refine CK [.o r] hO rfl (fun k' hx hr hO' => rElement_spec (xs := []) t.rmax (Sli.nil rfl) (hO := hO')) ?_
 rintro _ _ w ⟨q2, d2, rfl, rfl⟩ hO
 simp only [List.cons_append, List.nil_append] at hO
 obtain ⟨e1, _, Kz, t9⟩ := el_both t 0 tn [] q1 q2 d1 d2
 rw [← e1]
 refine o_done (da_phase _ [] (SO.ks [] hO) ?_)
 refine dx_u 9 (by kernel_rfl) rfl rfl rfl (fun w => y_move rfl) ?_
 refine dx_u 10 (by kernel_rfl) rfl rfl rfl (fun w => y_extract rfl rfl) ?_
 refine dx_u 11 (by kernel_rfl) rfl rfl rfl (fun w => y_extract rfl rfl) ?_
 refine dx_u 12 (by kernel_rfl) rfl rfl rfl (fun w => y_assign rfl) ?_
 refine dx_u 13 (by kernel_rfl) rfl rfl rfl (fun w => y_assign rfl) ?_
 refine dx_end (by kernel_rfl) ?_
 refine K3 (K0 (K1 (V1 rfl rfl rfl (V2 rfl rfl rfl (K2 (K3 (K6 ?_)))))))
 exact fin1 rfl rfl ⟨_, ⟨rfl, Kz, _, t9, rfl⟩, hO.only [.b b, .o r]⟩
set_option maxHeartbeats 2000000 in
theorem rblock_spec {f : Int} (t : Two A K R) (hnd : st.Nodup) (hl : st.length ≤ 1000000) (hO : Own k w [ragB b r z y fo errs, rarL r R, rstkL z r st]) :
  Tri Tryz.prog 82 #[.pointer (some ⟨b, 0, none⟩), .int .i64 f] k w fun v m => v = .int .i64 (furthF A st f) ∧ m = [ragB b r z y fo errs, rarL r R, rstkL z r st] := by
 refine enter (args := [.pointer (some ⟨b, 0, none⟩), .int .i64 f]) Tryz.func82 rfl rfl ?_
 have hfb := @findI_lt st f
 have hfg := @findI_ge st f
 refine K0 (K1 (V2 rfl rfl rfl (K2 (K3 (K0 (K0 (K1 (V1 rfl rfl rfl (V3 rfl rfl rfl rfl (l_y rfl rfl (y_fldb (o' := 1) rfl) (l_y rfl rfl (D5 hO rfl) ?_)))))))))))
 refine V1 rfl rfl rfl (CK [.o z] hO rfl (fun k' hx hr hO' => tFind_spec (id := f) hnd hl (hO := hO')) ?_)
 rintro _ _ w ⟨rfl, rfl⟩ hO
 simp only [List.cons_append, List.nil_append] at hO
 refine l_y rfl rfl (D4) ?_
 refine V2 rfl rfl rfl (K2 (K3 (K4 (c_rounds (X := Int) (fun i => [(0, .pointer (some ⟨b, 0, none⟩)), (4, .int .i64 0), (5, .int .i64 i)]) (fun i w => Own k w [ragB b r z y fo errs, rarL r R, rstkL z r st] ∧ (0 ≤ i ∧ i ≤ st.length) ∧ (furthF A st f = ((st.drop i.toNat).find? (specA A)).getD (-1))) (fun i => st.length - i.toNat) (findI st f + 1) ⟨rfl, rfl, rfl, trivial⟩ ⟨hO.only [.b b, .o r, .o z], by omega, rfl⟩ ?_))))
 rintro i w m hm ⟨hO, hi, hf⟩
 refine K0 (K0 ?_)
 obtain ⟨q, d, hq, hld, hO⟩ := rstkL_open (hO.ks [.o z])
 refine K1 (V1 rfl rfl rfl (V1 rfl rfl rfl (V3 rfl rfl rfl rfl (l_y rfl rfl (y_fldb (o' := 1) rfl) (l_y rfl rfl (D5 hO rfl) ?_)))))
 refine V3 rfl rfl rfl rfl (l_y rfl rfl (y_fldb (o' := 1) rfl) (l_y rfl rfl (D5 hO rfl) ?_))
 refine l_y rfl rfl (y_lenL rfl) ?_
 refine Z0 (fun h2_9 => ?_) (fun h2_9 => ?_)
 ·have hO := rstkL_shut (hO.ks [.b z, .p q])
  refine K2 (K3 (L8 (K5 (K3 (K0 (K4 (K0 ?_)))))))
  have hdr : st.drop i.toNat = at_ st i.toNat :: st.drop (i.toNat + 1) := Go.Hb.drop_at (by omega)
  obtain ⟨q, d, hq, hld, hO⟩ := rstkL_open (hO.ks [.o z])
  refine da_region (by intro c a d v w h; cases d <;> exact h) ?_
  have hO := hO.drew
  refine da_phase _ [14] (SO.ks [.b b, .b z, .p q] hO) ?_
  refine dx_u 0 (by kernel_rfl) rfl rfl rfl (fun w => y_move rfl) ?_
  refine dx_u 1 (by kernel_rfl) rfl rfl rfl (fun w => y_nilCheck rfl rfl) ?_
  refine dx_u 2 (by kernel_rfl) rfl rfl rfl (fun w => y_fldb (o' := 1) rfl) ?_
  refine dx_y 3 (by kernel_rfl) rfl rfl rfl (fun w ⟨m, hw⟩ => D5 hw rfl) ?_
  refine dx_u 4 (by kernel_rfl) rfl rfl rfl (fun w => y_move rfl) ?_
  refine dx_u 5 (by kernel_rfl) rfl rfl rfl (fun w => y_nilCheck rfl rfl) ?_
  refine dx_u 6 (by kernel_rfl) rfl rfl rfl (fun w => y_fldb (o' := 1) rfl) ?_
  refine dx_y 7 (by kernel_rfl) rfl rfl rfl (fun w ⟨m, hw⟩ => D5 hw rfl) ?_
  refine dx_u 8 (by kernel_rfl) rfl rfl rfl (fun w => y_nilCheck rfl rfl) ?_
  refine dx_u 9 (by kernel_rfl) rfl rfl rfl (fun w => y_fldb (o' := 1) rfl) ?_
  refine dx_y 10 (by kernel_rfl) rfl rfl rfl (fun w ⟨m, hw⟩ => D5 hw rfl) ?_
  refine dx_u 11 (by kernel_rfl) rfl rfl rfl (fun w => y_move rfl) ?_
  refine dx_u 12 (by kernel_rfl) rfl rfl rfl (fun w => y_idx rfl rfl) ?_
  refine dx_y 13 (by kernel_rfl) rfl rfl rfl (fun w ⟨m, hw⟩ => y_e1 (x0 := 0) hw rfl) ?_
  refine dx_close 14 (by kernel_rfl) rfl rfl ?_
  have hO := rstkL_shut (hO.ks [.b z, .p q])
  refine CK [.o r, .o z] hO rfl (fun k' hx hr hO' => tSpecial_spec (id := at_ st i.toNat) t.sim (hO := hO')) ?_
  rintro _ _ w ⟨rfl, rfl⟩ hO
  simp only [List.cons_append, List.nil_append] at hO
  refine o_done (da_end (by kernel_rfl) ?_)
  refine K3 ?_
  refine c_split rfl (fun hc39 => ?_) (fun hc39 => ?_)
  ·refine K0 ?_
   obtain ⟨q, d, hq, hld, hO⟩ := rstkL_open (hO.ks [.o z])
   refine K1 (V1 rfl rfl rfl (V3 rfl rfl rfl rfl (l_y rfl rfl (y_fldb (o' := 1) rfl) (l_y rfl rfl (D5 hO rfl) ?_))))
   refine V3 rfl rfl rfl rfl (l_y rfl rfl (y_fldb (o' := 1) rfl) (l_y rfl rfl (D5 hO rfl) ?_))
   refine V1 rfl rfl rfl (l_y rfl rfl (y_idx rfl rfl) ?_)
   refine l_y rfl rfl (y_e1 (x0 := 0) hO rfl) ?_
   refine V2 rfl rfl rfl (K2 (K3 (K6 (L0 (K9 (K9 (L0 (K9 ?_))))))))
   have hO := rstkL_shut (hO.ks [.b z, .p q])
   exact fin1 rfl rfl ⟨_, ⟨by rw [hf, hdr, List.find?_cons, hc39]; rfl, rfl⟩, hO.ks [.b b, .o r, .o z]⟩
  ·refine K5 (K8 (K3 (K1 (V1 rfl rfl rfl (l_y rfl rfl (D4) ?_)))))
   refine V2 rfl rfl rfl (K2 ?_)
   exact q_next (i + 1) ⟨rfl, rfl, rfl, trivial⟩ ⟨hO.only [.b b, .o r, .o z], by omega, by rw [hf, hdr, List.find?_cons, hc39]; rw [show (i + 1).toNat = i.toNat + 1 by omega]⟩ (by omega)
 ·have hO := rstkL_shut (hO.ks [.b z, .p q])
  refine K2 (K3 (L9 (K7 (L1 (L1 (L2 (K3 (K0 (K1 (V2 rfl rfl rfl (K2 (K3 (K6 ?_)))))))))))))
  exact fin1 rfl rfl ⟨_, ⟨by rw [hf, List.drop_eq_nil_of_le (by omega)]; rfl, rfl⟩, hO.ks [.b b, .o r, .o z]⟩
end
end Go.Proofs.YtoohapbaelmkcaaGreat
end
section
set_option maxRecDepth 100000
namespace Go.Proofs.YtoohapbaelmkcaaGreat
open Go Go.Hb Go.RowKit
theorem InnD.atStop {f block : Int} {x y : Ag} (g : InnD f block x y) (h : atI x.st (x.at' - 1) = f) : y = x := by
 cases g with
 | stop _ _ => rfl
 | step _ q d _ h2 _ => exact absurd h h2
theorem InnD.atStep {f block : Int} {x y : Ag} (g : InnD f block x y) (h : atI x.st (x.at' - 1) ≠ f) : ∃ (q : Option Addr) (d : Nat), InnD f block (innS block q d x) y := by
 cases g with
 | stop _ h2 => exact absurd h2 h
 | step _ q d _ _ g => exact ⟨q, d, g⟩
structure Ai where
 g : Ag
 K : Int → List Int
 R : List Ref01_one
section
variable {k : Ctx} {w : World} {b r z y : Nat} {fo : Bool} {errs : Int}
set_option maxHeartbeats 4000000 in
theorem inner_spec {f block : Int} {a0 n0 ln : Nat} {A : List Node_one} {st : List Int} {L : List Api_entry} {mark : Int} {y0 : Ag} {Ki : Int → List Int} {Ri : List Ref01_one} (hI0 : AgI f a0 n0 ln ⟨A, st, L, mark, block, findI st block, 0⟩) (hn0 : n0 + 6 ≤ 32768) (hln : ln ≤ 2000000) (t0 : Two A Ki Ri) (hg0 : InnD f block ⟨A, st, L, mark, block, findI st block, 0⟩ y0) (hO : Own k w [ragB b r z y fo errs, rarL r Ri, rstkL z r st, ralL y r L]) :
  Tri Tryz.prog 83 #[.pointer (some ⟨b, 0, none⟩), .int .i64 f, .int .i64 block, .int .i64 mark] k w fun v m => v = .tuple #[.int .i64 y0.last, .int .i64 y0.mark] ∧ ∃ K' R', Two y0.A K' R' ∧ m = [ragB b r z y fo errs, rarL r R', rstkL z r y0.st, ralL y r y0.L] := by
 refine enter (args := [.pointer (some ⟨b, 0, none⟩), .int .i64 f, .int .i64 block, .int .i64 mark]) Tryz.func83 rfl rfl ?_
 have hsl : st.length ≤ 1000000 := Nat.le_trans hI0.si.len (Nat.le_trans hI0.len (by dsimp only; omega))
 have hfb := @findI_lt st block
 have hfg := @findI_ge st block
 have hnd0 : st.Nodup := hI0.si.nodup
 refine K0 (K1 (V2 rfl rfl rfl (V2 rfl rfl rfl (K2 (K3 (K0 (K1 (V1 rfl rfl rfl (V2 rfl rfl rfl (K2 (K3 (K0 (K1 (V1 rfl rfl rfl (V3 rfl rfl rfl rfl (l_y rfl rfl (y_fldb (o' := 1) rfl) (l_y rfl rfl (D5 hO rfl) ?_)))))))))))))))))
 refine V1 rfl rfl rfl (CK [.o z] hO rfl (fun k' hx hr hO' => tFind_spec (id := block) hnd0 hsl (hO := hO')) ?_)
 rintro _ _ w ⟨rfl, rfl⟩ hO
 simp only [List.cons_append, List.nil_append] at hO
 refine V2 rfl rfl rfl (K2 (K3 (K0 (K1 (V2 rfl rfl rfl (K2 (K3 (K4 (c_rounds (X := Ai) (fun x => [(0, .pointer (some ⟨b, 0, none⟩)), (1, .int .i64 f), (2, .int .i64 block), (3, .int .i64 x.g.mark), (8, .int .i64 0), (9, .int .i64 0), (10, .int .i64 x.g.last), (11, .int .i64 x.g.at'), (12, .int .i64 ((x.g.count : Int) + 1))]) (fun x w => Own k w [ragB b r z y fo errs, rarL r x.R, rstkL z r x.g.st, ralL y r x.g.L] ∧ (AgI f a0 n0 ln x.g) ∧ (Two x.g.A x.K x.R) ∧ (InnD f block x.g y0) ∧ (x.g.at' + x.g.count = findI st block)) (fun x => x.g.at'.toNat) (⟨⟨A, st, L, mark, block, findI st block, 0⟩, Ki, Ri⟩) ⟨rfl, rfl, rfl, rfl, rfl, rfl, rfl, rfl, rfl, trivial⟩ ⟨hO.only [.b b, .o r, .o z, .o y], hI0, t0, hg0, (by dsimp only; omega)⟩ ?_)))))))))
 rintro x w m hm ⟨hO, hI, t, hg, hcn⟩
 refine K0 (K4 (K0 ?_))
 have hxl : x.g.st.length ≤ 1000000 := Nat.le_trans hI.si.len (Nat.le_trans hI.len (by omega))
 have hxL : x.g.L.length ≤ 2000000 := Nat.le_trans hI.ll hln
 have hxm := hI.mkk
 have hxt := hI.lt
 refine K1 (V1 rfl rfl rfl (l_y rfl rfl (D4) ?_))
 refine V2 rfl rfl rfl (K2 (K3 (K0 ?_)))
 obtain ⟨id, hid⟩ : ∃ id, id = atI x.g.st (x.g.at' - 1) := ⟨_, rfl⟩
 have hid2 : at_ x.g.st (x.g.at' - 1).toNat = id := by rw [hid, atI, if_neg (by omega)]
 obtain ⟨q, d, hq, hld, hO⟩ := rstkL_open (hO.ks [.o z])
 refine K1 (V1 rfl rfl rfl (V3 rfl rfl rfl rfl (l_y rfl rfl (y_fldb (o' := 1) rfl) (l_y rfl rfl (D5 hO rfl) ?_))))
 refine V3 rfl rfl rfl rfl (l_y rfl rfl (y_fldb (o' := 1) rfl) (l_y rfl rfl (D5 hO rfl) ?_))
 refine V1 rfl rfl rfl (l_y rfl rfl (y_idx rfl rfl) ?_)
 refine l_y rfl rfl (y_e1 (x0 := 0) hO rfl) ?_
 have hO := rstkL_shut (hO.ks [.b z, .p q])
 rw [hid2]
 refine V2 rfl rfl rfl (K2 (K3 (K0 (K0 (K1 (V1 rfl rfl rfl (V1 rfl rfl rfl ?_)))))))
 refine Z0 (fun h7_2 => ?_) (fun h7_2 => ?_)
 ·refine K2 (K3 (L8 (K0 (K1 (V1 rfl rfl rfl (V1 rfl rfl rfl (V2 rfl rfl rfl (V2 rfl rfl rfl (K2 (K3 (K6 (K9 (L0 (K9 (K9 (L0 ?_))))))))))))))))
  have he : y0 = x.g := hg.atStop (by rw [← hid]; exact h7_2)
  rw [he]
  exact fin2 rfl rfl rfl ⟨_, ⟨rfl, x.K, x.R, t, rfl⟩, hO.ks [.b b, .o r, .o z, .o y]⟩
 ·refine K2 (K3 (L9 (K5 (K3 (K0 ?_)))))
  have hne : id ≠ f := h7_2
  have hne2 : atI x.g.st (x.g.at' - 1) ≠ f := by rw [← hid]; exact hne
  obtain ⟨q1, d1, hg1⟩ := hg.atStep hne2
  refine K1 (V1 rfl rfl rfl (V3 rfl rfl rfl rfl (l_y rfl rfl (y_fldb (o' := 2) rfl) (l_y rfl rfl (D5 hO rfl) ?_))))
  refine V1 rfl rfl rfl (CK [.o y] hO rfl (fun k' hx hr hO' => zFind_spec (x := id) (hI.li.pl k').dist hxL (hO := hO')) ?_)
  rintro _ _ w ⟨rfl, rfl⟩ hO
  simp only [List.cons_append, List.nil_append] at hO
  refine V2 rfl rfl rfl (K2 (K3 ?_))
  refine c_cut (X := List Api_entry × Int) (fun LM => [(0, .pointer (some ⟨b, 0, none⟩)), (1, .int .i64 f), (2, .int .i64 block), (3, .int .i64 LM.2), (8, .int .i64 0), (9, .int .i64 0), (10, .int .i64 x.g.last), (11, .int .i64 (x.g.at' - 1)), (12, .int .i64 ((x.g.count : Int) + 1)), (13, .int .i64 id), (14, .int .i64 (findE LM.1 id))]) (fun LM w => Own k w [ragB b r z y fo errs, rarL r x.R, rstkL z r x.g.st, ralL y r LM.1] ∧ (LM = lmF x.g id)) ?_ ?_
  ·refine K0 (K1 (V1 rfl rfl rfl ?_))
   refine Z0 (fun h10_1 => ?_) (fun h10_1 => ?_)
   ·refine V1 rfl rfl rfl (V1 rfl rfl rfl ?_)
    refine Z0 (fun h10_4 => ?_) (fun h10_4 => ?_)
    ·refine l_y rfl rfl (y_pick_t rfl rfl) (K2 (K3 (L8 (K0 (K1 (V1 rfl rfl rfl (V3 rfl rfl rfl rfl (l_y rfl rfl (y_fldb (o' := 2) rfl) (l_y rfl rfl (D5 hO rfl) ?_)))))))))
     refine V1 rfl rfl rfl (CK [.o y] hO rfl (fun k' hx hr hO' => zRemove_spec (id := id) (hI.li.pl k').dist hxL (hO := hO')) ?_)
     rintro _ _ w ⟨rfl, rfl⟩ hO
     simp only [List.cons_append, List.nil_append] at hO
     refine K2 (K3 (K0 (K0 (K1 (V1 rfl rfl rfl (V1 rfl rfl rfl ?_))))))
     refine Z0 (fun h12_2 => ?_) (fun h12_2 => ?_)
     ·refine K2 (K3 (L8 (K1 (V1 rfl rfl rfl (l_y rfl rfl (D4) ?_)))))
      refine V2 rfl rfl rfl (K2 (K3 (K1 (V2 rfl rfl rfl (K2 ?_)))))
      obtain ⟨ls9, hO, hLM9, hf9⟩ : ∃ ls9 : List Api_entry, Own k w [ragB b r z y fo errs, rarL r x.R, rstkL z r x.g.st, ralL y r ls9] ∧ ((ls9, (x.g.mark - 1)) : List Api_entry × Int) = lmF x.g id ∧ (-1) = findE ls9 id := by
       have hgn := find_gone (mark := x.g.mark) (id := id) hI.li
       rw [forget_fst] at hgn
       have hr1 : ¬ findE x.g.L id < 0 → (removeE x.g.L id).1 = 0 := fun h => by rw [removeE, if_neg h]
       first
       | exact ⟨(removeE x.g.L id).2, hO.ks [.b b, .o r, .o z, .o y], by rw [lmF, if_pos (show 3 < x.g.count + 1 by omega), forgetF, if_neg (show ¬ findE x.g.L id < 0 by omega), if_pos ⟨hr1 (by omega), by omega⟩], hgn.symm⟩
       | exact ⟨(removeE x.g.L id).2, hO.ks [.b b, .o r, .o z, .o y], by rw [lmF, if_pos (show 3 < x.g.count + 1 by omega), forgetF, if_neg (show ¬ findE x.g.L id < 0 by omega), if_neg (by omega)], hgn.symm⟩
       | exact ⟨x.g.L, hO.ks [.b b, .o r, .o z, .o y], by rw [lmF, if_neg (show ¬ 3 < x.g.count + 1 by omega)], rfl⟩
       | exact ⟨x.g.L, hO.ks [.b b, .o r, .o z, .o y], by rw [lmF, if_pos (show 3 < x.g.count + 1 by omega), forgetF, if_pos (show findE x.g.L id < 0 by omega)], rfl⟩
      rw [hf9]
      exact q_cut ((ls9, (x.g.mark - 1))) ⟨rfl, rfl, rfl, rfl, rfl, rfl, rfl, rfl, rfl, rfl, rfl, trivial⟩ ⟨hO.only [.b b, .o r, .o z, .o y], hLM9⟩
     ·refine K2 (K3 (L9 (K5 (K3 (K1 (V2 rfl rfl rfl (K2 ?_)))))))
      obtain ⟨ls9, hO, hLM9, hf9⟩ : ∃ ls9 : List Api_entry, Own k w [ragB b r z y fo errs, rarL r x.R, rstkL z r x.g.st, ralL y r ls9] ∧ ((ls9, x.g.mark) : List Api_entry × Int) = lmF x.g id ∧ (-1) = findE ls9 id := by
       have hgn := find_gone (mark := x.g.mark) (id := id) hI.li
       rw [forget_fst] at hgn
       have hr1 : ¬ findE x.g.L id < 0 → (removeE x.g.L id).1 = 0 := fun h => by rw [removeE, if_neg h]
       first
       | exact ⟨(removeE x.g.L id).2, hO.ks [.b b, .o r, .o z, .o y], by rw [lmF, if_pos (show 3 < x.g.count + 1 by omega), forgetF, if_neg (show ¬ findE x.g.L id < 0 by omega), if_pos ⟨hr1 (by omega), by omega⟩], hgn.symm⟩
       | exact ⟨(removeE x.g.L id).2, hO.ks [.b b, .o r, .o z, .o y], by rw [lmF, if_pos (show 3 < x.g.count + 1 by omega), forgetF, if_neg (show ¬ findE x.g.L id < 0 by omega), if_neg (by omega)], hgn.symm⟩
       | exact ⟨x.g.L, hO.ks [.b b, .o r, .o z, .o y], by rw [lmF, if_neg (show ¬ 3 < x.g.count + 1 by omega)], rfl⟩
       | exact ⟨x.g.L, hO.ks [.b b, .o r, .o z, .o y], by rw [lmF, if_pos (show 3 < x.g.count + 1 by omega), forgetF, if_pos (show findE x.g.L id < 0 by omega)], rfl⟩
      rw [hf9]
      exact q_cut ((ls9, x.g.mark)) ⟨rfl, rfl, rfl, rfl, rfl, rfl, rfl, rfl, rfl, rfl, rfl, trivial⟩ ⟨hO.only [.b b, .o r, .o z, .o y], hLM9⟩
    ·refine l_y rfl rfl (y_pick_t rfl rfl) (K2 (K3 (L9 (K5 ?_))))
     obtain ⟨ls9, hO, hLM9, hf9⟩ : ∃ ls9 : List Api_entry, Own k w [ragB b r z y fo errs, rarL r x.R, rstkL z r x.g.st, ralL y r ls9] ∧ ((ls9, x.g.mark) : List Api_entry × Int) = lmF x.g id ∧ (findE x.g.L id) = findE ls9 id := by
      have hgn := find_gone (mark := x.g.mark) (id := id) hI.li
      rw [forget_fst] at hgn
      have hr1 : ¬ findE x.g.L id < 0 → (removeE x.g.L id).1 = 0 := fun h => by rw [removeE, if_neg h]
      first
      | exact ⟨(removeE x.g.L id).2, hO.ks [.b b, .o r, .o z, .o y], by rw [lmF, if_pos (show 3 < x.g.count + 1 by omega), forgetF, if_neg (show ¬ findE x.g.L id < 0 by omega), if_pos ⟨hr1 (by omega), by omega⟩], hgn.symm⟩
      | exact ⟨(removeE x.g.L id).2, hO.ks [.b b, .o r, .o z, .o y], by rw [lmF, if_pos (show 3 < x.g.count + 1 by omega), forgetF, if_neg (show ¬ findE x.g.L id < 0 by omega), if_neg (by omega)], hgn.symm⟩
      | exact ⟨x.g.L, hO.ks [.b b, .o r, .o z, .o y], by rw [lmF, if_neg (show ¬ 3 < x.g.count + 1 by omega)], rfl⟩
      | exact ⟨x.g.L, hO.ks [.b b, .o r, .o z, .o y], by rw [lmF, if_pos (show 3 < x.g.count + 1 by omega), forgetF, if_pos (show findE x.g.L id < 0 by omega)], rfl⟩
     rw [hf9]
     exact q_cut ((ls9, x.g.mark)) ⟨rfl, rfl, rfl, rfl, rfl, rfl, rfl, rfl, rfl, rfl, rfl, trivial⟩ ⟨hO.only [.b b, .o r, .o z, .o y], hLM9⟩
   ·refine V1 rfl rfl rfl ?_
    repeat refine M2 ?_
    refine l_y rfl rfl (y_pick_f rfl rfl) (K2 (K3 (L9 (K5 ?_))))
    obtain ⟨ls9, hO, hLM9, hf9⟩ : ∃ ls9 : List Api_entry, Own k w [ragB b r z y fo errs, rarL r x.R, rstkL z r x.g.st, ralL y r ls9] ∧ ((ls9, x.g.mark) : List Api_entry × Int) = lmF x.g id ∧ (findE x.g.L id) = findE ls9 id := by
     have hgn := find_gone (mark := x.g.mark) (id := id) hI.li
     rw [forget_fst] at hgn
     have hr1 : ¬ findE x.g.L id < 0 → (removeE x.g.L id).1 = 0 := fun h => by rw [removeE, if_neg h]
     first
     | exact ⟨(removeE x.g.L id).2, hO.ks [.b b, .o r, .o z, .o y], by rw [lmF, if_pos (show 3 < x.g.count + 1 by omega), forgetF, if_neg (show ¬ findE x.g.L id < 0 by omega), if_pos ⟨hr1 (by omega), by omega⟩], hgn.symm⟩
     | exact ⟨(removeE x.g.L id).2, hO.ks [.b b, .o r, .o z, .o y], by rw [lmF, if_pos (show 3 < x.g.count + 1 by omega), forgetF, if_neg (show ¬ findE x.g.L id < 0 by omega), if_neg (by omega)], hgn.symm⟩
     | exact ⟨x.g.L, hO.ks [.b b, .o r, .o z, .o y], by rw [lmF, if_neg (show ¬ 3 < x.g.count + 1 by omega)], rfl⟩
     | exact ⟨x.g.L, hO.ks [.b b, .o r, .o z, .o y], by rw [lmF, if_pos (show 3 < x.g.count + 1 by omega), forgetF, if_pos (show findE x.g.L id < 0 by omega)], rfl⟩
    rw [hf9]
    exact q_cut ((ls9, x.g.mark)) ⟨rfl, rfl, rfl, rfl, rfl, rfl, rfl, rfl, rfl, rfl, rfl, trivial⟩ ⟨hO.only [.b b, .o r, .o z, .o y], hLM9⟩
  ·rintro LM w ⟨hO, hLM⟩
   refine K0 (K0 ?_)
   have hlm := hI.lm hne
   rw [← hLM] at hlm
   have hLL : LM.1.length ≤ 2000000 := Nat.le_trans hlm.2.2.2.1 hln
   refine K1 (V1 rfl rfl rfl ?_)
   refine Z0 (fun h15_1 => ?_) (fun h15_1 => ?_)
   ·refine K2 (K3 (L8 (K0 (K1 (V1 rfl rfl rfl (V3 rfl rfl rfl rfl (l_y rfl rfl (y_fldb (o' := 1) rfl) (l_y rfl rfl (D5 hO rfl) ?_))))))))
    refine V1 rfl rfl rfl (CK [.o z] hO rfl (fun k' hx hr hO' => tRemove_spec (id := id) hI.si.nodup hxl (hO := hO')) ?_)
    rintro _ _ w ⟨rfl, rfl⟩ hO
    simp only [List.cons_append, List.nil_append] at hO
    refine K2 (K3 (K7 (L1 (L2 (K3 (K1 (V1 rfl rfl rfl (l_y rfl rfl (D4) ?_))))))))
    refine V2 rfl rfl rfl (K2 ?_)
    obtain ⟨A9, st9, ls9, mk9, Kc, Rc, hO, t9, hS⟩ : ∃ A9 st9 ls9 mk9 Kc Rc, Own k w [ragB b r z y fo errs, rarL r Rc, rstkL z r st9, ralL y r ls9] ∧ Two A9 Kc Rc ∧ innS block q1 d1 x.g = (⟨A9, st9, ls9, mk9, x.g.last, x.g.at' - 1, x.g.count + 1⟩ : Ag) ∧ mk9 = LM.2 := by
     first
     | exact ⟨_, _, _, _, _, _, hO.only [.b b, .o r, .o z, .o y], t, by unfold innS; rw [← hid, ← hLM, if_pos h15_1], rfl⟩
     | exact ⟨_, _, _, _, _, _, hO.only [.b b, .o r, .o z, .o y], t3, by unfold innS; rw [← hid, ← hLM, if_neg (by omega), ← hEL, ← hmk], rfl⟩
    have hI9 := hI.step (block := block) k hn0 hne2 q1 d1
    rw [hS.1] at hI9 hg1
    rw [hS.2] at hI9 hg1
    exact q_next ((⟨⟨A9, st9, ls9, LM.2, x.g.last, x.g.at' - 1, x.g.count + 1⟩, Kc, Rc⟩ : Ai)) ⟨rfl, rfl, rfl, rfl, rfl, rfl, rfl, rfl, rfl, trivial⟩ ⟨hO.only [.b b, .o r, .o z, .o y], hI9, t9, hg1, (by dsimp only; omega)⟩ (by have := hI.lt; dsimp only; omega)
   ·refine K2 (K3 (L9 (K5 (K3 (K0 ?_)))))
    have hfa := findE_at (show 0 ≤ findE LM.1 id by omega)
    obtain ⟨q, d, hq, hld, hO⟩ := ralL_open (hO.ks [.o y])
    refine K1 (V1 rfl rfl rfl (V1 rfl rfl rfl (V3 rfl rfl rfl rfl (l_y rfl rfl (y_fldb (o' := 2) rfl) (l_y rfl rfl (D5 hO rfl) ?_)))))
    refine V3 rfl rfl rfl rfl (l_y rfl rfl (y_fldb (o' := 1) rfl) (l_y rfl rfl (D5 hO rfl) ?_))
    refine V1 rfl rfl rfl (l_y rfl rfl (y_idx rfl rfl) ?_)
    refine l_y rfl rfl (y_fld (j' := 1) rfl) ?_
    refine l_y rfl rfl (y_eA (x0 := 1) (cs := [.int .i64 (at_ LM.1 ((findE LM.1 id) : Int).toNat).Token.Kind, .string (at_ LM.1 ((findE LM.1 id) : Int).toNat).Token.Name, .string (at_ LM.1 ((findE LM.1 id) : Int).toNat).Token.Data, .string (at_ LM.1 ((findE LM.1 id) : Int).toNat).Token.System, .int .i64 (at_ LM.1 ((findE LM.1 id) : Int).toNat).Token.Has, .bool (at_ LM.1 ((findE LM.1 id) : Int).toNat).Token.Quirks, .int .i32 (at_ LM.1 ((findE LM.1 id) : Int).toNat).Token.Char, .bool (at_ LM.1 ((findE LM.1 id) : Int).toNat).Token.Self, .slice (at_ LM.1 ((findE LM.1 id) : Int).toNat).Token.AttrsP (at_ LM.1 ((findE LM.1 id) : Int).toNat).Token.Attrs.length (at_ LM.1 ((findE LM.1 id) : Int).toNat).Token.AttrsC]) hO rfl) ?_
    have hO := ralL_shut (hO.ks [.b y, .p q])
    refine CK [.b b, .o r] hO rfl (fun k' hx hr hO' => rfresh_spec (tk := (at_ LM.1 (findE LM.1 id).toNat).Token) (hlm.1.tok _ (at_mem hfa.1)) t q1 d1 (hO := hO')) ?_
    rintro _ _ w ⟨rfl, Kb, Rb, t2, rfl⟩ hO
    simp only [List.cons_append, List.nil_append] at hO
    obtain ⟨EL, hEL⟩ : ∃ EL, EL = elementL x.g.A 0 (tkF LM.1 id).Name [] q1 d1 := ⟨_, rfl⟩
    have hEL2 : elementL x.g.A 0 (at_ LM.1 (findE LM.1 id).toNat).Token.Name [] q1 d1 = EL := hEL.symm
    rw [hEL2] at t2 ⊢
    have hel := hI.elm hn0 hne2 (by rw [← hid, ← hLM]; omega) q1 d1
    rw [← hid, ← hLM] at hel
    obtain ⟨⟨hE1, hE2, hE3, hE4, hE5, hE6, hE7, hE8⟩, hcl⟩ := hel
    rw [← hEL] at hE1 hE2 hE3 hE4 hE5 hE6 hE7 hE8
    have hlst := hI.lst.keeps hE8
    have htw : InA EL.2.2 EL.1 := ⟨by omega, by omega⟩
    have hsE := hI.si.keeps hE8
    have hlE := hlm.1.keeps hE8
    refine V2 rfl rfl rfl (K2 (K3 (K0 (K1 (V1 rfl rfl rfl (V3 rfl rfl rfl rfl (l_y rfl rfl (y_fldb (o' := 2) rfl) (l_y rfl rfl (D5 hO rfl) ?_))))))))
    refine V1 rfl rfl rfl (V1 rfl rfl rfl (CK [.o r, .o y] hO rfl (fun k' hx hr hO' => zSwap_spec (old := id) (id := EL.1) t2 (hlE.pl k').dist hLL (hO := hO')) ?_))
    rintro _ _ w ⟨rfl, rfl⟩ hO
    simp only [List.cons_append, List.nil_append] at hO
    refine K2 (K3 (K0 (K1 (V1 rfl rfl rfl (V3 rfl rfl rfl rfl (l_y rfl rfl (y_fldb (o' := 1) rfl) (l_y rfl rfl (D5 hO rfl) ?_)))))))
    refine V1 rfl rfl rfl (V1 rfl rfl rfl (CK [.o r, .o z] hO rfl (fun k' hx hr hO' => tSwap_spec (old := id) (id := EL.1) t2.sim hsE.nodup hxl (hO := hO')) ?_))
    rintro _ _ w ⟨rfl, rfl⟩ hO
    simp only [List.cons_append, List.nil_append] at hO
    refine K2 (K3 ?_)
    refine c_cut (X := Int) (fun mk => [(0, .pointer (some ⟨b, 0, none⟩)), (1, .int .i64 f), (2, .int .i64 block), (3, .int .i64 mk), (8, .int .i64 0), (9, .int .i64 0), (10, .int .i64 x.g.last), (11, .int .i64 (x.g.at' - 1)), (12, .int .i64 ((x.g.count : Int) + 1)), (15, .int .i64 EL.1)]) (fun mk w => Own k w [ragB b r z y fo errs, rarL r Rb, rstkL z r (swapL EL.2.2 x.g.st id EL.1).2, ralL y r (swapE EL.2.2 LM.1 id EL.1).2] ∧ (mk = if x.g.last = block then findE LM.1 id + 1 else LM.2) ∧ (¬ findE LM.1 id < 0)) ?_ ?_
    ·refine K0 (K1 (V1 rfl rfl rfl (V1 rfl rfl rfl ?_)))
     refine Z0 (fun h20_2 => ?_) (fun h20_2 => ?_)
     ·refine K2 (K3 (L8 (K1 (V1 rfl rfl rfl (l_y rfl rfl (D4) ?_)))))
      refine V2 rfl rfl rfl (K2 ?_)
      exact q_cut (_) ⟨rfl, rfl, rfl, rfl, rfl, rfl, rfl, rfl, rfl, rfl, trivial⟩ ⟨hO.only [.b b, .o r, .o z, .o y], (by first | (rw [if_pos h20_2]; done) | (rw [if_neg h20_2]; done)), (by omega)⟩
     ·refine K2 (K3 (L9 (K5 ?_)))
      exact q_cut (_) ⟨rfl, rfl, rfl, rfl, rfl, rfl, rfl, rfl, rfl, rfl, trivial⟩ ⟨hO.only [.b b, .o r, .o z, .o y], (by first | (rw [if_pos h20_2]; done) | (rw [if_neg h20_2]; done)), (by omega)⟩
    ·rintro mk w ⟨hO, hmk, h11⟩
     refine K0 (K1 (V1 rfl rfl rfl (V3 rfl rfl rfl rfl (l_y rfl rfl (y_fldb (o' := 0) rfl) (l_y rfl rfl (D5 hO rfl) ?_)))))
     refine V1 rfl rfl rfl (s_build (parts := [(0, .tmp 109), (1, .const (.int .i64 (-1)))]) (cs := [.int .i64 EL.1, .int .i64 (-1)]) rfl rfl (fun a ha => partsOf_sound ha _ _ rfl) (by kernel_rfl) (V1 rfl rfl rfl (CK [.o r] hO rfl (fun k' hx hr hO' => rPutG_spec (want := EL.1) (before := -1) (id := x.g.last) t2 hlst htw (.inl rfl) (hO := hO')) ?_)))
     rintro _ _ w ⟨⟨e9, rfl⟩, Kd, Rd, t3, rfl⟩ hO
     simp only [List.cons_append, List.nil_append] at hO
     refine K2 (K3 (K1 (V1 rfl rfl rfl (V2 rfl rfl rfl (K2 (K8 (K3 (K1 (V1 rfl rfl rfl (l_y rfl rfl (D4) ?_))))))))))
     refine V2 rfl rfl rfl (K2 ?_)
     obtain ⟨A9, st9, ls9, mk9, Kc, Rc, hO, t9, hS⟩ : ∃ A9 st9 ls9 mk9 Kc Rc, Own k w [ragB b r z y fo errs, rarL r Rc, rstkL z r st9, ralL y r ls9] ∧ Two A9 Kc Rc ∧ innS block q1 d1 x.g = (⟨A9, st9, ls9, mk9, EL.1, x.g.at' - 1, x.g.count + 1⟩ : Ag) ∧ mk9 = mk := by
      first
      | exact ⟨_, _, _, _, _, _, hO.only [.b b, .o r, .o z, .o y], t, by unfold innS; rw [← hid, ← hLM, if_pos h15_1], rfl⟩
      | exact ⟨_, _, _, _, _, _, hO.only [.b b, .o r, .o z, .o y], t3, by unfold innS; rw [← hid, ← hLM, if_neg (by omega), ← hEL, ← hmk], rfl⟩
     have hI9 := hI.step (block := block) k hn0 hne2 q1 d1
     rw [hS.1] at hI9 hg1
     rw [hS.2] at hI9 hg1
     exact q_next ((⟨⟨A9, st9, ls9, mk, EL.1, x.g.at' - 1, x.g.count + 1⟩, Kc, Rc⟩ : Ai)) ⟨rfl, rfl, rfl, rfl, rfl, rfl, rfl, rfl, rfl, trivial⟩ ⟨hO.only [.b b, .o r, .o z, .o y], hI9, t9, hg1, (by dsimp only; omega)⟩ (by have := hI.lt; dsimp only; omega)
end
end Go.Proofs.YtoohapbaelmkcaaGreat
end
