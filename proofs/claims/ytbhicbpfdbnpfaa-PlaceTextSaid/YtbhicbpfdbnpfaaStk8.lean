/- The walks of the answer's stack beside the program's: calls; no condition. -/
import Derived.Test.YtbhicbpfdbnpfaaStk7
set_option linter.unusedVariables false
set_option linter.unusedSimpArgs false
set_option maxRecDepth 100000
namespace Go.Proofs.Ytbhicbpfdbnpfaa
open Go Go.Hb Go.RowKit
theorem findI_last {l : List Int} {x i : Int} (hnd : l.Nodup) (h0 : 0 ≤ i) (h1 : i < l.length) (h : at_ l i.toNat = x) : findI l x = i := by
  have : findI l x = (i.toNat : Int) := idx_at (i := i.toNat) (by omega) (decide_eq_true h) fun j hj => decide_eq_false fun e => by
    have h2 := (List.getElem?_inj (l := l) (i := j) (j := i.toNat) (by omega) hnd).1 (by rw [at_get (show j < l.length by omega), at_get (show i.toNat < l.length by omega), e, h])
    omega
  omega
section
variable {k : Ctx} {w : World} {r t c : Nat} {p : Option Addr} {A : List Node_one} {K : Int → List Int} {R : List Ref01_one} {l : List Int} {id kind : Int} {name : ByteArray}
theorem tFind_spec (hnd : l.Nodup) (hl : l.length ≤ 1000000) (hO : Own k w [rstkL t r l]) :
    Tri Try.prog 33 #[.pointer (some ⟨t, 0, none⟩), .int .i64 id] k w fun v m => v = .int .i64 (findI l id) ∧ m = [rstkL t r l] := by
  refine enter (args := [.pointer (some ⟨t, 0, none⟩), .int .i64 id]) Try.func33 rfl rfl ?_
  obtain ⟨q, d, hq, hld, hO⟩ := rstkL_open hO
  refine K0 (K1 ?_)
  refine l_y rfl rfl (y_assign rfl) ?_
  refine K2 (K3 (K0 (K0 (K1 ?_))))
  refine l_y rfl rfl (y_move rfl) ?_
  refine l_y rfl rfl (y_nilCheck rfl rfl) ?_
  refine l_y rfl rfl (y_fldb (o' := 1) rfl) ?_
  refine l_y rfl rfl (D5 hO rfl) ?_
  refine l_y rfl rfl (y_lenL rfl) ?_
  refine l_y rfl rfl (D4) ?_
  refine l_y rfl rfl (y_assign rfl) ?_
  refine K2 (K3 (K4 ?_))
  refine c_rounds (X := Int) (fun i => [(0, .pointer (some ⟨t, 0, none⟩)), (1, .int .i64 id), (4, .int .i64 0), (5, .int .i64 i)]) (fun i w => Own k w [tB t r q l.length d, sI q d l] ∧ (-1 ≤ i ∧ i < l.length) ∧ (∀ j : Nat, i < j → j < l.length → decide (at_ l j = id) = false)) (fun i => (i + 1).toNat) ((l.length : Int) - 1) ⟨rfl, rfl, rfl, rfl, trivial⟩ ⟨hO.only [.b t, .p q], ⟨by omega, by omega⟩, fun j h1 h2 => absurd h1 (by omega)⟩ ?_
  rintro i w m hm ⟨hO, hi, hn⟩
  refine K0 (K0 (K1 ?_))
  refine l_y rfl rfl (y_move rfl) ?_
  refine Z0 (fun h2_1 => ?_) (fun h2_1 => ?_)
  · refine K2 (K3 (L8 (K5 (K3 (K0 (K4 (K0 (K1 ?_))))))))
    refine l_y rfl rfl (y_move rfl) ?_
    refine l_y rfl rfl (y_nilCheck rfl rfl) ?_
    refine l_y rfl rfl (y_fldb (o' := 1) rfl) ?_
    refine l_y rfl rfl (D5 hO rfl) ?_
    refine l_y rfl rfl (y_move rfl) ?_
    refine l_y rfl rfl (y_idx rfl rfl) ?_
    refine l_y rfl rfl (y_e1 (x0 := 0) hO rfl) ?_
    refine l_y rfl rfl (y_move rfl) ?_
    refine Z0 (fun h4_8 => ?_) (fun h4_8 => ?_)
    · refine K2 (K3 (L8 (K0 (K1 ?_))))
      refine l_y rfl rfl (y_move rfl) ?_
      refine l_y rfl rfl (y_assign rfl) ?_
      refine K2 (K3 (K6 (L0 (K9 (K9 (L0 (K9 ?_)))))))
      rw [findI_last hnd (by omega) (by omega) h4_8]
      exact fin1 rfl rfl ⟨_, ⟨rfl, rfl⟩, (rstkL_shut (hO.ks [.b t, .p q])).one⟩
    · refine K2 (K3 (L9 (K5 (K8 (K3 (K1 ?_))))))
      refine l_y rfl rfl (y_move rfl) ?_
      refine l_y rfl rfl (D4) ?_
      refine l_y rfl rfl (y_assign rfl) ?_
      refine K2 ?_
      exact q_next (i - 1) ⟨rfl, rfl, rfl, rfl, trivial⟩ ⟨hO.only [.b t, .p q], ⟨by omega, by omega⟩, fun j h1 h2 => (by by_cases e : (j : Int) = i; (have e2 : j = i.toNat := by omega); (subst e2; exact decide_eq_false h4_8); exact hn j (by omega) h2)⟩ (by omega)
  · refine K2 (K3 (L9 (K7 (L1 (L1 (L2 (K3 (K0 (K1 ?_)))))))))
    refine l_y rfl rfl (y_assign rfl) ?_
    refine K2 (K3 (K6 ?_))
    rw [show findI l id = -1 from idx_none (fun j hj => hn j (by omega) hj)]
    exact fin1 rfl rfl ⟨_, ⟨rfl, rfl⟩, (rstkL_shut (hO.ks [.b t, .p q])).one⟩
theorem tAt_spec {i : Int} (hO : Own k w [rstkL t r l]) :
    Tri Try.prog 104 #[.pointer (some ⟨t, 0, none⟩), .int .i64 i] k w fun v m => v = .int .i64 (atI l i) ∧ m = [rstkL t r l] := by
  refine enter (args := [.pointer (some ⟨t, 0, none⟩), .int .i64 i]) Try.func104 rfl rfl ?_
  obtain ⟨q, d, hq, hld, hO⟩ := rstkL_open hO
  refine K0 (K1 ?_)
  refine l_y rfl rfl (y_assign rfl) ?_
  refine K2 (K3 (K0 (K0 (K1 ?_))))
  refine l_y rfl rfl (y_move rfl) ?_
  refine Z0 (fun h1_1 => ?_) (fun h1_1 => ?_)
  · refine l_y rfl rfl (y_move rfl) ?_
    repeat refine M2 ?_
    refine l_y rfl rfl (y_pick_t rfl rfl) ?_
    refine K2 (K3 (L8 (K0 (K1 ?_))))
    refine l_y rfl rfl (y_assign rfl) ?_
    refine K2 (K3 (K6 (K9 ?_)))
    exact fin1 rfl rfl ⟨_, ⟨by rw [atI, if_pos (by omega)], rfl⟩, (rstkL_shut (hO.ks [.b t, .p q])).one⟩
  · refine l_y rfl rfl (y_move rfl) ?_
    refine l_y rfl rfl (y_move rfl) ?_
    refine l_y rfl rfl (y_move rfl) ?_
    refine l_y rfl rfl (y_nilCheck rfl rfl) ?_
    refine l_y rfl rfl (y_fldb (o' := 1) rfl) ?_
    refine l_y rfl rfl (D5 hO rfl) ?_
    refine l_y rfl rfl (y_lenL rfl) ?_
    refine Z0 (fun h1_9 => ?_) (fun h1_9 => ?_)
    · refine l_y rfl rfl (y_pick_f rfl rfl) ?_
      refine K2 (K3 (L8 (K0 (K1 ?_))))
      refine l_y rfl rfl (y_assign rfl) ?_
      refine K2 (K3 (K6 (K9 ?_)))
      exact fin1 rfl rfl ⟨_, ⟨by rw [atI, if_pos (by omega)], rfl⟩, (rstkL_shut (hO.ks [.b t, .p q])).one⟩
    · refine l_y rfl rfl (y_pick_f rfl rfl) ?_
      refine K2 (K3 (L9 (K5 (K3 (K0 (K1 ?_))))))
      refine l_y rfl rfl (y_move rfl) ?_
      refine l_y rfl rfl (y_nilCheck rfl rfl) ?_
      refine l_y rfl rfl (y_fldb (o' := 1) rfl) ?_
      refine l_y rfl rfl (D5 hO rfl) ?_
      refine l_y rfl rfl (y_move rfl) ?_
      refine l_y rfl rfl (y_idx rfl rfl) ?_
      refine l_y rfl rfl (y_e1 (x0 := 0) hO rfl) ?_
      refine l_y rfl rfl (y_assign rfl) ?_
      refine K2 (K3 (K6 ?_))
      exact fin1 rfl rfl ⟨_, ⟨by rw [atI, if_neg (by omega)], rfl⟩, (rstkL_shut (hO.ks [.b t, .p q])).one⟩
theorem tTop_spec (hl : l.length ≤ 1000000) (hO : Own k w [rstkL t r l]) :
    Tri Try.prog 105 #[.pointer (some ⟨t, 0, none⟩)] k w fun v m => v = .int .i64 (topI l) ∧ m = [rstkL t r l] := by
  refine enter (args := [.pointer (some ⟨t, 0, none⟩)]) Try.func105 rfl rfl ?_
  obtain ⟨q, d, hq, hld, hO⟩ := rstkL_open hO
  refine K0 (K1 ?_)
  refine l_y rfl rfl (y_assign rfl) ?_
  refine K2 (K3 (K0 (K1 ?_)))
  refine l_y rfl rfl (y_move rfl) ?_
  refine l_y rfl rfl (y_move rfl) ?_
  refine l_y rfl rfl (y_nilCheck rfl rfl) ?_
  refine l_y rfl rfl (y_fldb (o' := 1) rfl) ?_
  refine l_y rfl rfl (D5 hO rfl) ?_
  refine l_y rfl rfl (y_lenL rfl) ?_
  refine l_y rfl rfl (D4) ?_
  have hO := rstkL_shut (hO.ks [.b t, .p q])
  refine CK [.o t] hO rfl (fun k' hx hr hO' => tAt_spec (hO := hO')) ?_
  rintro _ _ w ⟨rfl, rfl⟩ hO
  refine l_y rfl rfl (y_assign rfl) ?_
  refine K2 (K3 (K6 ?_))
  exact fin1 rfl rfl ⟨_, ⟨rfl, rfl⟩, hO.one⟩
theorem tPop_spec (hl : l.length ≤ 1000000) (hO : Own k w [rstkL t r l]) :
    Tri Try.prog 89 #[.pointer (some ⟨t, 0, none⟩)] k w fun v m => v = .int .i64 (topI l) ∧ m = [rstkL t r (l.take (l.length - 1))] := by
  refine enter (args := [.pointer (some ⟨t, 0, none⟩)]) Try.func89 rfl rfl ?_
  refine K0 (K1 ?_)
  refine l_y rfl rfl (y_assign rfl) ?_
  refine K2 (K3 (K0 (K1 ?_)))
  refine l_y rfl rfl (y_move rfl) ?_
  refine CK [.o t] hO rfl (fun k' hx hr hO' => tTop_spec hl (hO := hO')) ?_
  rintro _ _ w ⟨rfl, rfl⟩ hO
  obtain ⟨q, d, hq, hld, hO⟩ := rstkL_open hO
  refine l_y rfl rfl (y_assign rfl) ?_
  refine K2 (K3 (K0 (K0 (K1 ?_))))
  refine l_y rfl rfl (y_move rfl) ?_
  refine l_y rfl rfl (y_nilCheck rfl rfl) ?_
  refine l_y rfl rfl (y_fldb (o' := 1) rfl) ?_
  refine l_y rfl rfl (D5 hO rfl) ?_
  refine l_y rfl rfl (y_lenL rfl) ?_
  refine Z0 (fun h2_5 => ?_) (fun h2_5 => ?_)
  · refine K2 (K3 (L8 ?_))
    refine da_region (by intro c a d v w h; cases d <;> exact h) ?_
    have hO := hO.drew
    refine da_phase _ [14] (SO.ks [.b t] hO) ?_
    refine dx_u 0 (by kernel_rfl) rfl rfl rfl (fun w => y_move rfl) ?_
    refine dx_u 1 (by kernel_rfl) rfl rfl rfl (fun w => y_move rfl) ?_
    refine dx_u 2 (by kernel_rfl) rfl rfl rfl (fun w => y_nilCheck rfl rfl) ?_
    refine dx_u 3 (by kernel_rfl) rfl rfl rfl (fun w => y_fldb (o' := 1) rfl) ?_
    refine dx_y 4 (by kernel_rfl) rfl rfl rfl (fun w ⟨m, hw⟩ => D5 hw rfl) ?_
    refine dx_u 5 (by kernel_rfl) rfl rfl rfl (fun w => y_move rfl) ?_
    refine dx_u 6 (by kernel_rfl) rfl rfl rfl (fun w => y_nilCheck rfl rfl) ?_
    refine dx_u 7 (by kernel_rfl) rfl rfl rfl (fun w => y_fldb (o' := 1) rfl) ?_
    refine dx_y 8 (by kernel_rfl) rfl rfl rfl (fun w ⟨m, hw⟩ => D5 hw rfl) ?_
    refine dx_u 9 (by kernel_rfl) rfl rfl rfl (fun w => y_lenL rfl) ?_
    refine dx_u 10 (by kernel_rfl) rfl rfl rfl (fun w => D4) ?_
    refine dx_y 11 (by kernel_rfl) rfl rfl rfl (fun w ⟨m, hw⟩ => y_hd (l.length - 1) rfl rfl) ?_
    refine dx_u 12 (by kernel_rfl) rfl rfl rfl (fun w => y_nilCheck rfl rfl) ?_
    refine dx_u 13 (by kernel_rfl) rfl rfl rfl (fun w => y_fldb (o' := 1) rfl) ?_
    refine dx_close 14 (by kernel_rfl) rfl rfl ?_
    refine Y1 hO rfl rfl (fun w hO => ?_)
    simp only [List.set_cons_zero, List.set_cons_succ] at hO
    refine o_done ?_
    refine da_end (by kernel_rfl) ?_
    refine K3 (K0 (K1 ?_))
    refine l_y rfl rfl (y_move rfl) ?_
    refine l_y rfl rfl (y_assign rfl) ?_
    refine K2 (K3 (K6 ?_))
    have hO := sls_cut (hO.ks [.p q]) (l.length - 1) d (by omega) (by omega) (Nat.le_refl _)
    exact fin1 rfl rfl ⟨_, ⟨rfl, rfl⟩, (rstkL_shut (hO.ks [.b t, .p q]) (by first | (simp; done) | (simp; omega))).one⟩
  · refine K2 (K3 (L9 (K5 (K3 (K0 (K1 ?_))))))
    refine l_y rfl rfl (y_move rfl) ?_
    refine l_y rfl rfl (y_assign rfl) ?_
    refine K2 (K3 (K6 ?_))
    have hO := sls_cut (hO.ks [.p q]) (l.length - 1) d (by omega) (by omega) (Nat.le_refl _)
    exact fin1 rfl rfl ⟨_, ⟨rfl, rfl⟩, (rstkL_shut (hO.ks [.b t, .p q]) (by first | (simp; done) | (simp; omega))).one⟩
theorem tRemove_spec (hnd : l.Nodup) (hl : l.length ≤ 1000000) (hO : Own k w [rstkL t r l]) :
    Tri Try.prog 91 #[.pointer (some ⟨t, 0, none⟩), .int .i64 id] k w fun v m => v = .int .i64 (removeL l id).1 ∧ m = [rstkL t r (removeL l id).2] := by
  refine enter (args := [.pointer (some ⟨t, 0, none⟩), .int .i64 id]) Try.func91 rfl rfl ?_
  have hfl := findI_lt (l := l) (x := id)
  refine K0 (K1 ?_)
  refine l_y rfl rfl (y_assign rfl) ?_
  refine K2 (K3 (K0 (K1 ?_)))
  refine l_y rfl rfl (y_move rfl) ?_
  refine l_y rfl rfl (y_move rfl) ?_
  refine CK [.o t] hO rfl (fun k' hx hr hO' => tFind_spec hnd hl (hO := hO')) ?_
  rintro _ _ w ⟨rfl, rfl⟩ hO
  simp only [List.cons_append, List.nil_append] at hO
  refine l_y rfl rfl (y_assign rfl) ?_
  refine K2 (K3 (K0 (K0 (K1 ?_))))
  refine l_y rfl rfl (y_move rfl) ?_
  refine Z0 (fun h2_1 => ?_) (fun h2_1 => ?_)
  · refine K2 (K3 (L8 (K0 (K1 ?_))))
    refine l_y rfl rfl (y_assign rfl) ?_
    refine K2 (K3 (K6 (K9 ?_)))
    exact fin1 rfl rfl ⟨_, ⟨by rw [removeL, if_pos h2_1], rfl⟩, by rw [removeL, if_pos h2_1]; exact hO⟩
  · refine K2 (K3 (L9 (K5 (K3 (K0 ?_)))))
    obtain ⟨q, d, hq, hld, hO⟩ := rstkL_open hO
    have er : removeL l id = (0, l.take (findI l id).toNat ++ l.drop ((findI l id).toNat + 1)) := by rw [removeL, if_neg h2_1]
    have e9 : (findI l id + 1 : Int).toNat = (findI l id).toNat + 1 := by omega
    have htl : (l.take (findI l id).toNat).length ≤ 1000000 := by simp; omega
    have hdl : (l.drop (findI l id + 1 : Int).toNat).length ≤ 1000000 := by simp; omega
    rw [er]
    refine K1 ?_
    refine s_lit0 (eI .i64) hO (fun b12 w hO => ?_)
    refine l_y rfl rfl (y_move rfl) ?_
    refine l_y rfl rfl (y_nilCheck rfl rfl) ?_
    refine l_y rfl rfl (y_fldb (o' := 1) rfl) ?_
    refine l_y rfl rfl (D5 hO rfl) ?_
    refine l_y rfl rfl (y_move rfl) ?_
    refine l_y rfl rfl (y_hd ((findI l (id)) : Int).toNat rfl rfl) ?_
    have hv0 := sls_sli (p := q) hO
    have hv := sli_hd (cuts_holds w) hv0 (findI l id).toNat d (by omega) (by omega)
    refine s_app0 hO rfl rfl (src_sli hv) (fun p19 c19 w hO gs19 => ?_)
    refine l_y rfl rfl (y_assign rfl) ?_
    refine K2 (K3 (K0 (K1 ?_)))
    refine l_y rfl rfl (y_move rfl) ?_
    refine l_y rfl rfl (y_move rfl) ?_
    refine l_y rfl rfl (y_move rfl) ?_
    refine l_y rfl rfl (y_nilCheck rfl rfl) ?_
    refine l_y rfl rfl (y_fldb (o' := 1) rfl) ?_
    refine l_y rfl rfl (D5 hO rfl) ?_
    refine l_y rfl rfl (y_move rfl) ?_
    refine l_y rfl rfl (D4) ?_
    refine l_y rfl rfl (y_tl (((findI l (id)) + 1) : Int).toNat rfl rfl) ?_
    have hv0 := sls_sli (p := q) hO
    have hv := sli_tl (cuts_holds w) hv0 (findI l id + 1 : Int).toNat (by omega)
    refine s_app (xs := l.take (findI l id).toNat) hO rfl rfl (src_sli hv) (fun p29 c29 w hO gs29 => ?_)
    rw [e9] at hO gs29 ⊢
    refine l_y rfl rfl (y_nilCheck rfl rfl) ?_
    refine l_y rfl rfl (y_fldb (o' := 1) rfl) ?_
    refine Y1 hO rfl rfl (fun w hO => ?_)
    simp only [List.set_cons_zero, List.set_cons_succ] at hO
    refine K2 (K3 (K0 (K1 ?_)))
    refine l_y rfl rfl (y_assign rfl) ?_
    refine K2 (K3 (K6 ?_))
    exact fin1 rfl rfl ⟨_, ⟨rfl, rfl⟩, (rstkL_shut (hO.ks [.b t, .p p29])).one⟩
theorem tPush_spec (s : Sim A K R) (hnd : l.Nodup) (hl : l.length ≤ 1000000) (hO : Own k w [rarL r R, rstkL t r l]) :
    Tri Try.prog 88 #[.pointer (some ⟨t, 0, none⟩), .int .i64 id] k w fun v m => v = .int .i64 (freshE A l id) ∧ m = [rarL r R, rstkL t r (if freshE A l id = 0 then l ++ [id] else l)] := by
  refine enter (args := [.pointer (some ⟨t, 0, none⟩), .int .i64 id]) Try.func88 rfl rfl ?_
  obtain ⟨p, c, F, hg, hF, hO⟩ := rarL_open hO
  obtain ⟨q, d, hq, hld, hO⟩ := rstkL_open (hO.ks [.o t])
  have hf := freshE_cases A l id
  refine K0 (K1 ?_)
  refine l_y rfl rfl (y_assign rfl) ?_
  refine K2 (K3 (K0 (K0 (K1 ?_))))
  refine l_y rfl rfl (y_move rfl) ?_
  refine l_y rfl rfl (y_nilCheck rfl rfl) ?_
  refine l_y rfl rfl (y_fldb (o' := 0) rfl) ?_
  refine l_y rfl rfl (D5 hO rfl) ?_
  refine l_y rfl rfl (y_move rfl) ?_
  refine CK [.b r, .p p] hO rfl (fun k' hx hr hO' => tEl_spec s hg (hO := hO')) ?_
  rintro _ _ w ⟨rfl, rfl⟩ hO
  simp only [List.cons_append, List.nil_append] at hO
  refine l_y rfl rfl (y_not rfl rfl) ?_
  refine K2 (K3 ?_)
  refine c_split rfl (fun hc11 => ?_) (fun hc11 => ?_)
  · simp only [Bool.not_eq_true', Bool.not_eq_false'] at hc11
    refine K0 (K1 ?_)
    refine l_y rfl rfl (y_assign rfl) ?_
    refine K2 (K3 (K6 (K9 ?_)))
    have h0 : freshE A l id = 6 := by rcases hf with ⟨h, _⟩ | ⟨_, h, _⟩ | ⟨_, h, _⟩ <;> first | exact h | (rw [h] at hc11; simp at hc11)
    rw [h0, if_neg (by omega)]
    exact fin1 rfl rfl ⟨_, ⟨rfl, rfl⟩, ((rarL_shut hF ((rstkL_shut (hO.ks [.b t, .p q])).ks [.b r, .p p, .f])).ks [.o r, .o t]).two⟩
  · simp only [Bool.not_eq_true', Bool.not_eq_false'] at hc11
    refine K5 (K3 (K0 (K0 ?_)))
    have hO := rstkL_shut (hO.ks [.b t, .p q])
    refine K1 ?_
    refine l_y rfl rfl (y_move rfl) ?_
    refine l_y rfl rfl (y_move rfl) ?_
    refine CK [.o t] hO rfl (fun k' hx hr hO' => tFind_spec hnd hl (hO := hO')) ?_
    rintro _ _ w ⟨rfl, rfl⟩ hO
    simp only [List.cons_append, List.nil_append] at hO
    refine Z0 (fun h3_3 => ?_) (fun h3_3 => ?_)
    · refine K2 (K3 (L8 (K0 (K1 ?_))))
      refine l_y rfl rfl (y_assign rfl) ?_
      refine K2 (K3 (K6 (K9 ?_)))
      have h0 : freshE A l id = 1 := by rcases hf with ⟨_, h⟩ | ⟨h, _, _⟩ | ⟨_, _, h⟩ <;> first | exact h | omega | (rw [h] at hc11; simp at hc11)
      rw [h0, if_neg (by omega)]
      exact fin1 rfl rfl ⟨_, ⟨rfl, rfl⟩, ((rarL_shut hF (hO.ks [.b r, .p p, .f])).ks [.o r, .o t]).two⟩
    · refine K2 (K3 (L9 (K5 (K3 (K0 ?_)))))
      obtain ⟨q, d, hq, hld, hO⟩ := rstkL_open hO
      have h0 : freshE A l id = 0 := by rcases hf with ⟨_, h⟩ | ⟨_, _, h⟩ | ⟨h, _, _⟩ <;> first | exact h | omega | (rw [h] at hc11; simp at hc11)
      rw [h0, if_pos rfl]
      refine K1 ?_
      refine l_y rfl rfl (y_move rfl) ?_
      refine l_y rfl rfl (y_move rfl) ?_
      refine l_y rfl rfl (y_nilCheck rfl rfl) ?_
      refine l_y rfl rfl (y_fldb (o' := 1) rfl) ?_
      refine l_y rfl rfl (D5 hO rfl) ?_
      refine l_y rfl rfl (y_move rfl) ?_
      refine s_lit (parts := [(0, .tmp 21)]) (enc := (eI .i64)) [id] [.int .i64 id] hO rfl (fun b22 w hO => ?_)
      refine s_app hO rfl rfl (src_own hO) (fun p23 c23 w hO gs23 => ?_)
      refine l_y rfl rfl (y_nilCheck rfl rfl) ?_
      refine l_y rfl rfl (y_fldb (o' := 1) rfl) ?_
      refine Y1 hO rfl rfl (fun w hO => ?_)
      simp only [List.set_cons_zero, List.set_cons_succ] at hO
      refine K2 (K3 (K0 (K1 ?_)))
      refine l_y rfl rfl (y_assign rfl) ?_
      refine K2 (K3 (K6 ?_))
      exact fin1 rfl rfl ⟨_, ⟨rfl, rfl⟩, ((rarL_shut hF ((rstkL_shut (hO.ks [.b t, .p p23])).ks [.b r, .p p, .f])).ks [.o r, .o t]).two⟩
theorem tPut_spec {i : Int} (s : Sim A K R) (hnd : l.Nodup) (hl : l.length ≤ 1000000) (hO : Own k w [rarL r R, rstkL t r l]) :
    Tri Try.prog 93 #[.pointer (some ⟨t, 0, none⟩), .int .i64 i, .int .i64 id] k w fun v m => v = .int .i64 (putL A l i id).1 ∧ m = [rarL r R, rstkL t r (putL A l i id).2] := by
  refine enter (args := [.pointer (some ⟨t, 0, none⟩), .int .i64 i, .int .i64 id]) Try.func93 rfl rfl ?_
  obtain ⟨p, c, F, hg, hF, hO⟩ := rarL_open hO
  obtain ⟨q, d, hq, hld, hO⟩ := rstkL_open (hO.ks [.o t])
  have hf := freshE_cases A l id
  refine K0 (K1 ?_)
  refine l_y rfl rfl (y_assign rfl) ?_
  refine K2 (K3 (K0 (K0 (K1 ?_))))
  refine l_y rfl rfl (y_move rfl) ?_
  refine l_y rfl rfl (y_nilCheck rfl rfl) ?_
  refine l_y rfl rfl (y_fldb (o' := 0) rfl) ?_
  refine l_y rfl rfl (D5 hO rfl) ?_
  refine l_y rfl rfl (y_move rfl) ?_
  refine CK [.b r, .p p] hO rfl (fun k' hx hr hO' => tEl_spec s hg (hO := hO')) ?_
  rintro _ _ w ⟨rfl, rfl⟩ hO
  simp only [List.cons_append, List.nil_append] at hO
  refine l_y rfl rfl (y_not rfl rfl) ?_
  refine K2 (K3 ?_)
  refine c_split rfl (fun hc14 => ?_) (fun hc14 => ?_)
  · simp only [Bool.not_eq_true', Bool.not_eq_false'] at hc14
    refine K0 (K1 ?_)
    refine l_y rfl rfl (y_assign rfl) ?_
    refine K2 (K3 (K6 (K9 ?_)))
    have h0 : freshE A l id = 6 := by rcases hf with ⟨h, _⟩ | ⟨_, h, _⟩ | ⟨_, h, _⟩ <;> first | exact h | (rw [h] at hc14; simp at hc14)
    have er : putL A l i id = (6, l) := by rw [putL, h0, if_pos (by omega)]
    rw [er]
    exact fin1 rfl rfl ⟨_, ⟨rfl, rfl⟩, ((rarL_shut hF ((rstkL_shut (hO.ks [.b t, .p q])).ks [.b r, .p p, .f])).ks [.o r, .o t]).two⟩
  · simp only [Bool.not_eq_true', Bool.not_eq_false'] at hc14
    refine K5 (K3 (K0 (K0 (K1 ?_))))
    refine l_y rfl rfl (y_move rfl) ?_
    refine l_y rfl rfl (y_move rfl) ?_
    refine CK [.b t, .p q] hO rfl (fun k' hx hr hO' => tFind_spec hnd hl (hO := rstkL_shut hO')) ?_
    rintro _ _ w ⟨rfl, rfl⟩ hO
    simp only [List.cons_append, List.nil_append] at hO
    obtain ⟨q, d, hq, hld, hO⟩ := rstkL_open hO
    refine Z0 (fun h3_3 => ?_) (fun h3_3 => ?_)
    · refine l_y rfl rfl (y_move rfl) ?_
      repeat refine M2 ?_
      refine l_y rfl rfl (y_pick_t rfl rfl) ?_
      refine l_y rfl rfl (y_move rfl) ?_
      repeat refine M2 ?_
      refine l_y rfl rfl (y_pick_t rfl rfl) ?_
      refine K2 (K3 (L8 (K0 (K1 ?_))))
      refine l_y rfl rfl (y_assign rfl) ?_
      refine K2 (K3 (K6 (K9 ?_)))
      have er : putL A l i id = (1, l) := by
        rcases hf with ⟨_, h⟩ | ⟨h, _, _⟩ | ⟨h, _, _⟩
        · rw [h] at hc14; simp at hc14
        · rw [putL, h, if_pos (by omega)]
        · rw [putL, if_neg (by simpa using h), if_pos (by omega)]
      rw [er]
      exact fin1 rfl rfl ⟨_, ⟨rfl, rfl⟩, ((rarL_shut hF ((rstkL_shut (hO.ks [.b t, .p q])).ks [.b r, .p p, .f])).ks [.o r, .o t]).two⟩
    · refine l_y rfl rfl (y_move rfl) ?_
      refine l_y rfl rfl (y_move rfl) ?_
      refine Z0 (fun h3_6 => ?_) (fun h3_6 => ?_)
      · refine l_y rfl rfl (y_pick_f rfl rfl) ?_
        refine l_y rfl rfl (y_move rfl) ?_
        repeat refine M2 ?_
        refine l_y rfl rfl (y_pick_t rfl rfl) ?_
        refine K2 (K3 (L8 (K0 (K1 ?_))))
        refine l_y rfl rfl (y_assign rfl) ?_
        refine K2 (K3 (K6 (K9 ?_)))
        have er : putL A l i id = (1, l) := by
          rcases hf with ⟨_, h⟩ | ⟨h, _, _⟩ | ⟨h, _, _⟩
          · rw [h] at hc14; simp at hc14
          · rw [putL, h, if_pos (by omega)]
          · rw [putL, if_neg (by simpa using h), if_pos (by omega)]
        rw [er]
        exact fin1 rfl rfl ⟨_, ⟨rfl, rfl⟩, ((rarL_shut hF ((rstkL_shut (hO.ks [.b t, .p q])).ks [.b r, .p p, .f])).ks [.o r, .o t]).two⟩
      · refine l_y rfl rfl (y_pick_f rfl rfl) ?_
        refine l_y rfl rfl (y_move rfl) ?_
        refine l_y rfl rfl (y_move rfl) ?_
        refine l_y rfl rfl (y_move rfl) ?_
        refine l_y rfl rfl (y_nilCheck rfl rfl) ?_
        refine l_y rfl rfl (y_fldb (o' := 1) rfl) ?_
        refine l_y rfl rfl (D5 hO rfl) ?_
        refine l_y rfl rfl (y_lenL rfl) ?_
        refine Z0 (fun h3_15 => ?_) (fun h3_15 => ?_)
        · refine l_y rfl rfl (y_pick_f rfl rfl) ?_
          refine K2 (K3 (L8 (K0 (K1 ?_))))
          refine l_y rfl rfl (y_assign rfl) ?_
          refine K2 (K3 (K6 (K9 ?_)))
          have er : putL A l i id = (1, l) := by
            rcases hf with ⟨_, h⟩ | ⟨h, _, _⟩ | ⟨h, _, _⟩
            · rw [h] at hc14; simp at hc14
            · rw [putL, h, if_pos (by omega)]
            · rw [putL, if_neg (by simpa using h), if_pos (by omega)]
          rw [er]
          exact fin1 rfl rfl ⟨_, ⟨rfl, rfl⟩, ((rarL_shut hF ((rstkL_shut (hO.ks [.b t, .p q])).ks [.b r, .p p, .f])).ks [.o r, .o t]).two⟩
        · refine l_y rfl rfl (y_pick_f rfl rfl) ?_
          refine K2 (K3 (L9 (K5 (K3 (K0 ?_)))))
          have h0 : freshE A l id = 0 := by rcases hf with ⟨_, h⟩ | ⟨_, _, h⟩ | ⟨h, _, _⟩ <;> first | exact h | omega | (rw [h] at hc14; simp at hc14)
          have er : putL A l i id = (0, l.take i.toNat ++ [id] ++ l.drop i.toNat) := by rw [putL, if_neg (by simpa using h0), if_neg (by omega)]
          have htl : (l.take i.toNat).length ≤ 1000000 := by simp; omega
          have hdl : (l.drop i.toNat).length ≤ 1000000 := by simp; omega
          rw [er]
          refine K1 ?_
          refine s_lit0 (eI .i64) hO (fun b32 w hO => ?_)
          refine l_y rfl rfl (y_move rfl) ?_
          refine l_y rfl rfl (y_nilCheck rfl rfl) ?_
          refine l_y rfl rfl (y_fldb (o' := 1) rfl) ?_
          refine l_y rfl rfl (D5 hO rfl) ?_
          refine l_y rfl rfl (y_move rfl) ?_
          refine l_y rfl rfl (y_hd (i : Int).toNat rfl rfl) ?_
          have hv0 := sls_sli (p := q) hO
          have hv := sli_hd (cuts_holds w) hv0 i.toNat d (by omega) (by omega)
          refine s_app0 hO rfl rfl (src_sli hv) (fun p39 c39 w hO gs39 => ?_)
          refine l_y rfl rfl (y_assign rfl) ?_
          refine K2 (K3 (K0 (K1 ?_)))
          refine l_y rfl rfl (y_move rfl) ?_
          refine l_y rfl rfl (y_move rfl) ?_
          refine s_lit (parts := [(0, .tmp 41)]) (enc := (eI .i64)) [id] [.int .i64 id] hO rfl (fun b42 w hO => ?_)
          refine s_app hO rfl rfl (src_own hO) (fun p43 c43 w hO gs43 => ?_)
          refine l_y rfl rfl (y_assign rfl) ?_
          refine K2 (K3 (K0 (K1 ?_)))
          refine l_y rfl rfl (y_move rfl) ?_
          refine l_y rfl rfl (y_move rfl) ?_
          refine l_y rfl rfl (y_move rfl) ?_
          refine l_y rfl rfl (y_nilCheck rfl rfl) ?_
          refine l_y rfl rfl (y_fldb (o' := 1) rfl) ?_
          refine l_y rfl rfl (D5 hO rfl) ?_
          refine l_y rfl rfl (y_move rfl) ?_
          refine l_y rfl rfl (y_tl (i : Int).toNat rfl rfl) ?_
          have hv0 := sls_sli (p := q) hO
          have hv := sli_tl (cuts_holds w) hv0 i.toNat (by omega)
          refine s_app (xs := l.take i.toNat ++ [id]) hO rfl rfl (src_sli hv) (fun p52 c52 w hO gs52 => ?_)
          refine l_y rfl rfl (y_nilCheck rfl rfl) ?_
          refine l_y rfl rfl (y_fldb (o' := 1) rfl) ?_
          refine Y1 hO rfl rfl (fun w hO => ?_)
          simp only [List.set_cons_zero, List.set_cons_succ] at hO
          refine K2 (K3 (K0 (K1 ?_)))
          refine l_y rfl rfl (y_assign rfl) ?_
          refine K2 (K3 (K6 ?_))
          exact fin1 rfl rfl ⟨_, ⟨rfl, rfl⟩, ((rarL_shut hF ((rstkL_shut (hO.ks [.b t, .p p52])).ks [.b r, .p p, .f])).ks [.o r, .o t]).two⟩
theorem set_split {l : List Int} {i : Nat} (h : i < l.length) (x : Int) : l.set i x = l.take i ++ [x] ++ l.drop (i + 1) := by
  rw [List.set_eq_take_append_cons_drop, if_pos h]; simp
theorem tSwap_spec {old : Int} (s : Sim A K R) (hnd : l.Nodup) (hl : l.length ≤ 1000000) (hO : Own k w [rarL r R, rstkL t r l]) :
    Tri Try.prog 95 #[.pointer (some ⟨t, 0, none⟩), .int .i64 old, .int .i64 id] k w fun v m => v = .int .i64 (swapL A l old id).1 ∧ m = [rarL r R, rstkL t r (swapL A l old id).2] := by
  refine enter (args := [.pointer (some ⟨t, 0, none⟩), .int .i64 old, .int .i64 id]) Try.func95 rfl rfl ?_
  obtain ⟨p, c, F, hg, hF, hO⟩ := rarL_open hO
  have hf := freshE_cases A l id
  have hfl := findI_lt (l := l) (x := old)
  refine K0 (K1 ?_)
  refine l_y rfl rfl (y_assign rfl) ?_
  refine K2 (K3 (K0 (K1 ?_)))
  refine l_y rfl rfl (y_move rfl) ?_
  refine l_y rfl rfl (y_move rfl) ?_
  refine CK [.o t] hO rfl (fun k' hx hr hO' => tFind_spec hnd hl (hO := hO')) ?_
  rintro _ _ w ⟨rfl, rfl⟩ hO
  simp only [List.cons_append, List.nil_append] at hO
  refine l_y rfl rfl (y_assign rfl) ?_
  refine K2 (K3 (K0 (K0 ?_)))
  obtain ⟨q, d, hq, hld, hO⟩ := rstkL_open (hO.ks [.o t])
  refine K1 ?_
  refine l_y rfl rfl (y_move rfl) ?_
  refine l_y rfl rfl (y_nilCheck rfl rfl) ?_
  refine l_y rfl rfl (y_fldb (o' := 0) rfl) ?_
  refine l_y rfl rfl (D5 hO rfl) ?_
  refine l_y rfl rfl (y_move rfl) ?_
  refine CK [.b r, .p p] hO rfl (fun k' hx hr hO' => tEl_spec s hg (hO := hO')) ?_
  rintro _ _ w ⟨rfl, rfl⟩ hO
  simp only [List.cons_append, List.nil_append] at hO
  refine l_y rfl rfl (y_not rfl rfl) ?_
  refine l_y rfl rfl (y_move rfl) ?_
  refine l_split 18 rfl (fun hg18 => ?_) (fun hg18 => ?_)
  · simp only [Bool.not_eq_true', Bool.not_eq_false'] at hg18
    repeat refine M2 ?_
    refine l_y rfl rfl (y_pick_t rfl rfl) ?_
    refine K2 (K3 (L8 (K0 (K1 ?_))))
    refine l_y rfl rfl (y_assign rfl) ?_
    refine K2 (K3 (K6 (K9 ?_)))
    have er : swapL A l old id = (6, l) := by rw [swapL, if_pos (by first | exact .inl (by simpa using hg18) | exact .inr (by omega))]
    rw [er]
    exact fin1 rfl rfl ⟨_, ⟨rfl, rfl⟩, ((rarL_shut hF ((rstkL_shut (hO.ks [.b t, .p q])).ks [.b r, .p p, .f])).ks [.o r, .o t]).two⟩
  · simp only [Bool.not_eq_true', Bool.not_eq_false'] at hg18
    refine l_y rfl rfl (y_move rfl) ?_
    refine Z0 (fun h2_9 => ?_) (fun h2_9 => ?_)
    · refine l_y rfl rfl (y_pick_f rfl rfl) ?_
      refine K2 (K3 (L8 (K0 (K1 ?_))))
      refine l_y rfl rfl (y_assign rfl) ?_
      refine K2 (K3 (K6 (K9 ?_)))
      have er : swapL A l old id = (6, l) := by rw [swapL, if_pos (by first | exact .inl (by simpa using hg18) | exact .inr (by omega))]
      rw [er]
      exact fin1 rfl rfl ⟨_, ⟨rfl, rfl⟩, ((rarL_shut hF ((rstkL_shut (hO.ks [.b t, .p q])).ks [.b r, .p p, .f])).ks [.o r, .o t]).two⟩
    · refine l_y rfl rfl (y_pick_f rfl rfl) ?_
      refine K2 (K3 (L9 (K5 (K3 (K0 (K0 (K1 ?_)))))))
      refine l_y rfl rfl (y_move rfl) ?_
      refine l_y rfl rfl (y_move rfl) ?_
      refine CK [.b t, .p q] hO rfl (fun k' hx hr hO' => tFind_spec hnd hl (hO := rstkL_shut hO')) ?_
      rintro _ _ w ⟨rfl, rfl⟩ hO
      simp only [List.cons_append, List.nil_append] at hO
      obtain ⟨q, d, hq, hld, hO⟩ := rstkL_open hO
      refine Z0 (fun h4_3 => ?_) (fun h4_3 => ?_)
      · refine K2 (K3 (L8 (K0 (K1 ?_))))
        refine l_y rfl rfl (y_assign rfl) ?_
        refine K2 (K3 (K6 (K9 ?_)))
        have hel : elB A id = true := by simpa using hg18
        have h0 : freshE A l id = 1 := by rcases hf with ⟨_, h⟩ | ⟨h, _, _⟩ | ⟨_, _, h⟩ <;> first | exact h | omega | (rw [h] at hel; simp at hel)
        have er : swapL A l old id = (1, l) := by rw [swapL, if_neg (by simp [hel]; omega), if_neg (by omega)]
        rw [er]
        exact fin1 rfl rfl ⟨_, ⟨rfl, rfl⟩, ((rarL_shut hF ((rstkL_shut (hO.ks [.b t, .p q])).ks [.b r, .p p, .f])).ks [.o r, .o t]).two⟩
      · refine K2 (K3 (L9 (K5 (K3 (K0 ?_)))))
        have hel : elB A id = true := by simpa using hg18
        have h0 : freshE A l id = 0 := by rcases hf with ⟨_, h⟩ | ⟨_, _, h⟩ | ⟨h, _, _⟩ <;> first | exact h | omega | (rw [h] at hel; simp at hel)
        have er : swapL A l old id = (0, l.set (findI l old).toNat id) := by rw [swapL, if_neg (by simp [hel]; omega), if_pos h0, set_split (by omega)]
        rw [er]
        refine K1 ?_
        refine l_y rfl rfl (y_move rfl) ?_
        refine s_lit0 (eI .i64) hO (fun b27 w hO => ?_)
        refine l_y rfl rfl (y_move rfl) ?_
        refine l_y rfl rfl (y_nilCheck rfl rfl) ?_
        refine l_y rfl rfl (y_fldb (o' := 1) rfl) ?_
        refine l_y rfl rfl (D5 hO rfl) ?_
        refine s_app0 hO rfl rfl (src_own hO) (fun p32 c32 w hO gs32 => ?_)
        refine l_y rfl rfl (y_nilCheck rfl rfl) ?_
        refine l_y rfl rfl (y_fldb (o' := 1) rfl) ?_
        refine Y1 hO rfl rfl (fun w hO => ?_)
        simp only [List.set_cons_zero, List.set_cons_succ] at hO
        refine K2 (K3 (K0 (K1 ?_)))
        refine l_y rfl rfl (y_move rfl) ?_
        refine l_y rfl rfl (y_nilCheck rfl rfl) ?_
        refine l_y rfl rfl (y_fldb (o' := 1) rfl) ?_
        refine l_y rfl rfl (D5 hO rfl) ?_
        refine l_y rfl rfl (y_move rfl) ?_
        refine l_y rfl rfl (y_move rfl) ?_
        refine l_y rfl rfl (y_idx rfl rfl) ?_
        refine s_e1 (x0 := 0) hO rfl rfl (fun w hO => ?_)
        refine K2 (K3 (K0 (K1 ?_)))
        refine l_y rfl rfl (y_assign rfl) ?_
        refine K2 (K3 (K6 ?_))
        exact fin1 rfl rfl ⟨_, ⟨rfl, rfl⟩, ((rarL_shut hF ((rstkL_shut (hO.ks [.b t, .p p32]) (by simp)).ks [.b r, .p p, .f])).ks [.o r, .o t]).two⟩
end
end Go.Proofs.Ytbhicbpfdbnpfaa
