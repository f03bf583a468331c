/- The walks of the stack's calls that push, pop, put and take; no condition. -/
import Derived.Test.YtoohapbaelmkcaaGreatStk1
set_option linter.unusedVariables false
set_option linter.unusedSimpArgs false
set_option maxRecDepth 100000
namespace Go.Proofs.YtoohapbaelmkcaaGreat
open Go Go.Hb Go.RowKit
def freshE (A : List Node_one) (l : List Int) (id : Int) : Int := if elB A id = false then 6 else if 0 ≤ findI l id then 1 else 0
theorem fresh_spec {k : Ctx} {w : World} {s a c : Nat} {p : Option Addr} {l : List Int} {A : List Node_one} {id : Int} (hn : 0 < A.length) (ha : AttrsOk A) (hg : Gs p l.length) (hl : l.length ≤ 1000000) (hO : Own k w [arenaL a A, sB s a p l.length c, sI p c l]) :
    Tri Tryz.prog 56 #[.pointer (some ⟨s, 0, none⟩), .int .i64 id] k w fun v m => v = .int .i64 (freshE A l id) ∧ m = [arenaL a A, sB s a p l.length c, sI p c l] := by
  refine enter (args := [.pointer (some ⟨s, 0, none⟩), .int .i64 id]) Tryz.func56 rfl rfl ?_
  refine K0 (K1 ?_)
  refine l_y rfl rfl (y_assign rfl) ?_
  refine K2 (K3 (K0 (K0 (K1 ?_))))
  refine l_y rfl rfl (y_move rfl) ?_
  refine CK [.b s] hO rfl (fun k' hx hr hO' => snone_spec (hO := hO')) ?_
  rintro _ _ w ⟨rfl, rfl⟩ hO
  simp only [List.cons_append, List.nil_append] at hO
  refine K2 (K3 (L9 (K5 (K3 (K0 (K0 (K1 ?_)))))))
  refine l_y rfl rfl (y_move rfl) ?_
  refine l_y rfl rfl (y_move rfl) ?_
  refine CK [.o a, .b s] hO rfl (fun k' hx hr hO' => look_spec hn ha (hO := hO')) ?_
  rintro _ _ w ⟨x3_2, hx3_2, rfl, rfl⟩ hO
  simp only [List.cons_append, List.nil_append] at hO
  refine l_y rfl rfl (y_move rfl) ?_
  refine l_y rfl rfl (y_extract rfl rfl) ?_
  refine l_y rfl rfl (y_extract rfl rfl) ?_
  refine s_alloc (vs := [.int .i64 0, .int .i64 0, .string ⟨#[]⟩, .slice none 0 0, .string ⟨#[]⟩, .string ⟨#[]⟩, .int .i64 0, .int .i64 0, .int .i64 0, .int .i64 0, .int .i64 0, .int .i64 0]) hO rfl rfl rfl fun b5 w hO => ?_
  refine Y3 hO rfl rfl (fun w hO => ?_)
  refine l_y rfl rfl (y_assign rfl) ?_
  refine K2 (K3 (K0 (K1 ?_)))
  refine l_y rfl rfl (y_move rfl) ?_
  refine l_y rfl rfl (y_not rfl rfl) ?_
  refine K2 (K3 ?_)
  refine c_split rfl (fun hc16 => ?_) (fun hc16 => ?_)
  · simp only [Bool.not_eq_true', Bool.not_eq_false'] at hc16
    refine K0 (K1 ?_)
    refine l_y rfl rfl (y_assign rfl) ?_
    refine K2 (K3 (K6 (K9 ?_)))
    exact fin1 rfl rfl ⟨_, ⟨by simp [freshE, *], rfl⟩, hO.only [.o a, .b s, .p p]⟩
  · simp only [Bool.not_eq_true', Bool.not_eq_false'] at hc16
    refine K5 (K3 (K0 (K0 (K1 ?_))))
    refine l_y rfl rfl (y_move rfl) ?_
    refine l_y rfl rfl (y_nilCheck rfl rfl) ?_
    refine l_y rfl rfl (y_fldb (o' := 1) rfl) ?_
    refine l_y rfl rfl (y_move rfl) ?_
    refine CK [.b s, .p p] hO rfl (fun k' hx hr hO' => srow_find_spec hg hl (hO := hO')) ?_
    rintro _ _ w ⟨rfl, rfl⟩ hO
    simp only [List.cons_append, List.nil_append] at hO
    refine Z0 (fun h6_5 => ?_) (fun h6_5 => ?_)
    · refine K2 (K3 (L8 (K0 (K1 ?_))))
      refine l_y rfl rfl (y_assign rfl) ?_
      refine K2 (K3 (K6 (K9 ?_)))
      exact fin1 rfl rfl ⟨_, ⟨by simp [freshE, *], rfl⟩, hO.only [.o a, .b s, .p p]⟩
    · refine K2 (K3 (L9 (K5 (K3 (K0 (K1 ?_))))))
      refine l_y rfl rfl (y_assign rfl) ?_
      refine K2 (K3 (K6 ?_))
      exact fin1 rfl rfl ⟨_, ⟨by simp [freshE, *], rfl⟩, hO.only [.o a, .b s, .p p]⟩
theorem sPush_spec {k : Ctx} {w : World} {s a : Nat} {l : List Int} {A : List Node_one} {id : Int} (hn : 0 < A.length) (ha : AttrsOk A) (hl : l.length ≤ 1000000) (hO : Own k w [arenaL a A, stkL s a l]) :
    Tri Tryz.prog 20 #[.pointer (some ⟨s, 0, none⟩), .int .i64 id] k w fun v m => v = .int .i64 (freshE A l id) ∧ m = [arenaL a A, stkL s a (if freshE A l id = 0 then l ++ [id] else l)] := by
  refine enter (args := [.pointer (some ⟨s, 0, none⟩), .int .i64 id]) Tryz.func20 rfl rfl ?_
  obtain ⟨p, c, hg, hlc, hO⟩ := stkL_open (hO.ks [.o s])
  refine K0 (K1 ?_)
  refine l_y rfl rfl (y_assign rfl) ?_
  refine K2 (K3 (K0 (K1 ?_)))
  refine l_y rfl rfl (y_move rfl) ?_
  refine l_y rfl rfl (y_move rfl) ?_
  refine CK [.o a, .b s, .p p] hO rfl (fun k' hx hr hO' => fresh_spec hn ha hg hl (hO := hO')) ?_
  rintro _ _ w ⟨rfl, rfl⟩ hO
  simp only [List.cons_append, List.nil_append] at hO
  refine l_y rfl rfl (y_assign rfl) ?_
  refine K2 (K3 (K0 (K0 (K1 ?_))))
  refine l_y rfl rfl (y_move rfl) ?_
  refine Z0 (fun h2_1 => ?_) (fun h2_1 => ?_)
  · refine K2 (K3 (L8 (K1 ?_)))
    refine l_y rfl rfl (y_move rfl) ?_
    refine l_y rfl rfl (y_move rfl) ?_
    refine l_y rfl rfl (y_nilCheck rfl rfl) ?_
    refine l_y rfl rfl (y_fldb (o' := 1) rfl) ?_
    refine l_y rfl rfl (y_fldb (o' := 1) rfl) ?_
    refine l_y rfl rfl (D5 hO rfl) ?_
    refine l_y rfl rfl (y_move rfl) ?_
    refine s_lit (parts := [(0, .tmp 17)]) (enc := (eI .i64)) [id] [.int .i64 id] hO rfl (fun b18 w hO => ?_)
    refine s_app hO rfl rfl (src_own hO) (fun p19 c19 w hO gs19 => ?_)
    refine l_y rfl rfl (y_nilCheck rfl rfl) ?_
    refine l_y rfl rfl (y_fldb (o' := 1) rfl) ?_
    refine l_y rfl rfl (y_fldb (o' := 1) rfl) ?_
    refine Y1 hO rfl rfl (fun w hO => ?_)
    simp only [List.set_cons_zero, List.set_cons_succ] at hO
    refine K2 (K3 (K0 (K1 ?_)))
    refine l_y rfl rfl (y_move rfl) ?_
    refine l_y rfl rfl (y_assign rfl) ?_
    refine K2 (K3 (K6 ?_))
    rw [if_pos h2_1]
    exact fin1 rfl rfl ⟨_, ⟨rfl, rfl⟩, ((stkL_shut (hO.ks [.b s, .p p19]) rfl).ks [.o a, .o s]).two⟩
  · refine K2 (K3 (L9 (K5 (K3 (K0 (K1 ?_))))))
    refine l_y rfl rfl (y_move rfl) ?_
    refine l_y rfl rfl (y_assign rfl) ?_
    refine K2 (K3 (K6 ?_))
    rw [if_neg h2_1]
    exact fin1 rfl rfl ⟨_, ⟨rfl, rfl⟩, ((stkL_shut (hO.ks [.b s, .p p]) rfl).ks [.o a, .o s]).two⟩
theorem cut_spec {k : Ctx} {w : World} {s a c i : Nat} {p : Option Addr} {l : List Int} (hi : i ≤ l.length) (hlc : l.length ≤ c) (hO : Own k w [sB s a p l.length c, sI p c l]) :
    Tri Tryz.prog 72 #[.pointer (some ⟨s, 0, none⟩), .int .i64 ((i : Nat) : Int)] k w fun v m => v = .tuple #[] ∧ m = [sB s a p (l.take i).length i, sI p i (l.take i)] := by
  refine enter (args := [.pointer (some ⟨s, 0, none⟩), .int .i64 ((i : Nat) : Int)]) Tryz.func72 rfl rfl ?_
  have hlen : (l.take i).length = i := by simp; omega
  refine K1 ?_
  refine l_y rfl rfl (y_move rfl) ?_
  refine l_y rfl rfl (y_move rfl) ?_
  refine l_y rfl rfl (y_nilCheck rfl rfl) ?_
  refine l_y rfl rfl (y_fldb (o' := 1) rfl) ?_
  refine l_y rfl rfl (y_fldb (o' := 1) rfl) ?_
  refine l_y rfl rfl (D5 hO rfl) ?_
  refine l_y rfl rfl (y_move rfl) ?_
  refine l_y rfl rfl (y_move rfl) ?_
  refine l_y rfl rfl (y_hd3 i i rfl rfl rfl) ?_
  refine l_y rfl rfl (y_nilCheck rfl rfl) ?_
  refine l_y rfl rfl (y_fldb (o' := 1) rfl) ?_
  refine l_y rfl rfl (y_fldb (o' := 1) rfl) ?_
  refine Y1 hO rfl rfl (fun w hO => ?_)
  simp only [List.set_cons_zero, List.set_cons_succ] at hO
  refine K2 ?_
  have hO : Own k w [sB s a p i i, sI p i (l.take i)] := (sls_cut (hO.ks [.p p]) i i hi (Nat.le_refl _) (by omega)).swap
  exact fin0 rfl ⟨_, ⟨rfl, rfl⟩, by rw [hlen]; exact hO⟩
theorem sCut_spec {k : Ctx} {w : World} {s a i : Nat} {l : List Int} {z : Int} (hz : z = (i : Int)) (hi : i ≤ l.length) (hO : Own k w [stkL s a l]) :
    Tri Tryz.prog 72 #[.pointer (some ⟨s, 0, none⟩), .int .i64 z] k w fun v m => v = .tuple #[] ∧ m = [stkL s a (l.take i)] := by
  subst hz
  obtain ⟨p, c, hg, hlc, hO⟩ := stkL_open hO
  refine Ret.mono (cut_spec hi hlc hO) ?_
  rintro v w' ⟨m, ⟨rfl, rfl⟩, hO⟩
  exact ⟨_, ⟨rfl, rfl⟩, stkL_shut hO⟩
theorem sPop_spec {k : Ctx} {w : World} {s a : Nat} {l : List Int} (hl : l.length ≤ 1000000) (hne : ∀ x ∈ l, x ≠ -1) (hO : Own k w [stkL s a l]) :
    Tri Tryz.prog 37 #[.pointer (some ⟨s, 0, none⟩)] k w fun v m => v = .int .i64 (topI l) ∧ m = [stkL s a (l.take (l.length - 1))] := by
  refine enter (args := [.pointer (some ⟨s, 0, none⟩)]) Tryz.func37 rfl rfl ?_
  obtain ⟨p, c, hg, hlc, hO⟩ := stkL_open hO
  refine K0 (K1 ?_)
  refine l_y rfl rfl (y_assign rfl) ?_
  refine K2 (K3 (K0 (K1 ?_)))
  refine l_y rfl rfl (y_move rfl) ?_
  refine CK [.b s, .p p] hO rfl (fun k' hx hr hO' => sTop_spec hg hl (hO := hO')) ?_
  rintro _ _ w ⟨rfl, rfl⟩ hO
  simp only [List.cons_append, List.nil_append] at hO
  refine l_y rfl rfl (y_assign rfl) ?_
  refine K2 (K3 (K0 (K0 (K1 ?_))))
  refine l_y rfl rfl (y_move rfl) ?_
  refine Z1 (fun h2_1 => ?_) (fun h2_1 => ?_)
  · refine K2 (K3 (L8 (K1 ?_)))
    refine l_y rfl rfl (y_move rfl) ?_
    refine l_y rfl rfl (y_move rfl) ?_
    refine CK [.b s] hO rfl (fun k' hx hr hO' => sLen_spec (hO := hO')) ?_
    rintro _ _ w ⟨rfl, rfl⟩ hO
    simp only [List.cons_append, List.nil_append] at hO
    refine l_y rfl rfl (D4) ?_
    have hpos : 0 < l.length := by
      rcases Nat.eq_zero_or_pos l.length with h0 | h0
      · exact absurd (by rw [topI, atI, if_pos (by omega)]) h2_1
      · exact h0
    refine CK [.b s, .p p] hO rfl (fun k' hx hr hO' => sCut_spec (i := l.length - 1) (by omega) (by omega) (hO := stkL_shut hO')) ?_
    rintro _ _ w ⟨rfl, rfl⟩ hO
    simp only [List.cons_append, List.nil_append] at hO
    refine K2 (K3 (K0 (K1 ?_)))
    refine l_y rfl rfl (y_move rfl) ?_
    refine l_y rfl rfl (y_assign rfl) ?_
    refine K2 (K3 (K6 ?_))
    exact fin1 rfl rfl ⟨_, ⟨rfl, rfl⟩, hO.one⟩
  · refine K2 (K3 (L9 (K5 (K3 (K0 (K1 ?_))))))
    refine l_y rfl rfl (y_move rfl) ?_
    refine l_y rfl rfl (y_assign rfl) ?_
    refine K2 (K3 (K6 ?_))
    have h0 : l.length = 0 := by
      rcases Nat.eq_zero_or_pos l.length with h0 | h0
      · exact h0
      · have h21 : topI l = -1 := by simpa using h2_1
        rw [topI, atI, if_neg (by omega)] at h21
        exact absurd h21 (hne _ (at_mem (by omega)))
    rw [show l.length - 1 = l.length by omega, List.take_length]
    exact fin1 rfl rfl ⟨_, ⟨rfl, rfl⟩, (stkL_shut (hO.ks [.b s, .p p])).one⟩
theorem splice0_spec {k : Ctx} {w : World} {s a c i : Nat} {p : Option Addr} {l : List Int} (hi : i < l.length) (hg : Gs p l.length) (hlc : l.length ≤ c) (hl : l.length ≤ 1000000) (hO : Own k w [sB s a p l.length c, sI p c l]) :
    Tri Tryz.prog 131 #[.pointer (some ⟨s, 1, none⟩), .int .i64 ((i : Nat) : Int), .int .i64 1, .slice none 0 0] k w fun v m => v = .tuple #[] ∧ m = [stkL s a (l.take i ++ l.drop (i + 1))] := by
  refine enter (args := [.pointer (some ⟨s, 1, none⟩), .int .i64 ((i : Nat) : Int), .int .i64 1, .slice none 0 0]) Tryz.func131 rfl rfl ?_
  obtain ⟨b, o, rfl⟩ := hg (by omega)
  have e9 : ((i : Int) + 1).toNat = i + 1 := by omega
  refine da_region (by intro c a d v w h; cases d <;> exact h) ?_
  have hO := hO.drew
  refine da_phase _ [18] (SO.ks [.b s] hO) ?_
  refine dx_u 0 (by kernel_rfl) rfl rfl rfl (fun w => y_move rfl) ?_
  refine dx_u 1 (by kernel_rfl) rfl rfl rfl (fun w => y_move rfl) ?_
  refine dx_u 2 (by kernel_rfl) rfl rfl rfl (fun w => y_nilCheck rfl rfl) ?_
  refine dx_u 3 (by kernel_rfl) rfl rfl rfl (fun w => y_fldb (o' := 1) rfl) ?_
  refine dx_y 4 (by kernel_rfl) rfl rfl rfl (fun w ⟨m, hw⟩ => D5 hw rfl) ?_
  refine dx_u 5 (by kernel_rfl) rfl rfl rfl (fun w => y_move rfl) ?_
  refine dx_u 6 (by kernel_rfl) rfl rfl rfl (fun w => y_move rfl) ?_
  refine dx_u 7 (by kernel_rfl) rfl rfl rfl (fun w => y_hd3 i i rfl rfl rfl) ?_
  refine dx_u 8 (by kernel_rfl) rfl rfl rfl (fun w => y_move rfl) ?_
  refine dx_u 10 (by kernel_rfl) rfl rfl rfl (fun w => y_move rfl) ?_
  refine dx_u 11 (by kernel_rfl) rfl rfl rfl (fun w => y_nilCheck rfl rfl) ?_
  refine dx_u 12 (by kernel_rfl) rfl rfl rfl (fun w => y_fldb (o' := 1) rfl) ?_
  refine dx_y 13 (by kernel_rfl) rfl rfl rfl (fun w ⟨m, hw⟩ => D5 hw rfl) ?_
  refine dx_u 14 (by kernel_rfl) rfl rfl rfl (fun w => y_move rfl) ?_
  refine dx_u 15 (by kernel_rfl) rfl rfl rfl (fun w => y_move rfl) ?_
  refine dx_u 16 (by kernel_rfl) rfl rfl rfl (fun w => D4) ?_
  refine dx_y 17 (by kernel_rfl) rfl rfl rfl (fun w ⟨m, hw⟩ => y_tl (i + 1) rfl rfl) ?_
  refine dx_only 9 (by kernel_rfl) rfl rfl ?_
  refine l_y rfl rfl (y_appV (p := some ⟨b, o, none⟩) (m := i) (c := i) rfl rfl (Nat.le_refl _) (fun h => by cases h) Src.nil (fun a h => by cases h; rfl)) ?_
  refine o_done ?_
  refine ⟨SO.ks [.b s] hO, ?_⟩
  refine dx_close 18 (by kernel_rfl) rfl rfl ?_
  have hv0 := sls_sli (p := some ⟨b, o, none⟩) hO
  have hv := sli_tl (cuts_holds w) hv0 (i + 1) (by omega)
  have hdl : (l.drop (i + 1)).length ≤ 1000000 := by simp; omega
  refine s_appCut hO rfl rfl (src_sli hv) (by omega) (fun p45 c45 w hO gs45 => ?_) rfl (by omega) (by omega)
  refine o_done ?_
  refine da_phase _ [21] (SO.ks [] hO) ?_
  refine dx_u 19 (by kernel_rfl) rfl rfl rfl (fun w => y_nilCheck rfl rfl) ?_
  refine dx_u 20 (by kernel_rfl) rfl rfl rfl (fun w => y_fldb (o' := 1) rfl) ?_
  refine dx_close 21 (by kernel_rfl) rfl rfl ?_
  refine Y1 hO rfl rfl (fun w hO => ?_)
  simp only [List.set_cons_zero, List.set_cons_succ] at hO
  refine o_done ?_
  refine da_end (by kernel_rfl) ?_
  exact fin0 rfl ⟨_, ⟨rfl, rfl⟩, (stkL_shut (hO.ks [.b s, .p p45]) rfl).one⟩
theorem splice1_spec {k : Ctx} {w : World} {s a c i : Nat} {p : Option Addr} {l : List Int} {x z : Int} {n : Nat} {q : Option Addr} {d : Nat} (hx : Sli (Ro k) (.slice q [x].length d) ([x].map (eI .i64))) (hz : z = (n : Int)) (hn : n ≤ 1) (hi : i + n ≤ l.length) (hg : Gs p l.length) (hlc : l.length ≤ c) (hl : l.length ≤ 1000000) (hO : Own k w [sB s a p l.length c, sI p c l]) :
    Tri Tryz.prog 131 #[.pointer (some ⟨s, 1, none⟩), .int .i64 ((i : Nat) : Int), .int .i64 z, .slice q [x].length d] k w fun v m => v = .tuple #[] ∧ m = [stkL s a (l.take i ++ [x] ++ l.drop (i + n))] := by
  refine enter (args := [.pointer (some ⟨s, 1, none⟩), .int .i64 ((i : Nat) : Int), .int .i64 z, .slice q [x].length d]) Tryz.func131 rfl rfl ?_
  have e9 : ((i : Int) + z).toNat = i + n := by omega
  have htl : (l.take i).length ≤ 1000000 := by simp; omega
  have hdl : (l.drop (i + n)).length ≤ 1000000 := by simp; omega
  refine da_region (by intro c a d v w h; cases d <;> exact h) ?_
  have hO := hO.drew
  refine da_phase _ [18] (SO.ks [.b s] hO) ?_
  refine dx_u 0 (by kernel_rfl) rfl rfl rfl (fun w => y_move rfl) ?_
  refine dx_u 1 (by kernel_rfl) rfl rfl rfl (fun w => y_move rfl) ?_
  refine dx_u 2 (by kernel_rfl) rfl rfl rfl (fun w => y_nilCheck rfl rfl) ?_
  refine dx_u 3 (by kernel_rfl) rfl rfl rfl (fun w => y_fldb (o' := 1) rfl) ?_
  refine dx_y 4 (by kernel_rfl) rfl rfl rfl (fun w ⟨m, hw⟩ => D5 hw rfl) ?_
  refine dx_u 5 (by kernel_rfl) rfl rfl rfl (fun w => y_move rfl) ?_
  refine dx_u 6 (by kernel_rfl) rfl rfl rfl (fun w => y_move rfl) ?_
  refine dx_u 7 (by kernel_rfl) rfl rfl rfl (fun w => y_hd3 i i rfl rfl rfl) ?_
  refine dx_u 8 (by kernel_rfl) rfl rfl rfl (fun w => y_move rfl) ?_
  refine dx_u 10 (by kernel_rfl) rfl rfl rfl (fun w => y_move rfl) ?_
  refine dx_u 11 (by kernel_rfl) rfl rfl rfl (fun w => y_nilCheck rfl rfl) ?_
  refine dx_u 12 (by kernel_rfl) rfl rfl rfl (fun w => y_fldb (o' := 1) rfl) ?_
  refine dx_y 13 (by kernel_rfl) rfl rfl rfl (fun w ⟨m, hw⟩ => D5 hw rfl) ?_
  refine dx_u 14 (by kernel_rfl) rfl rfl rfl (fun w => y_move rfl) ?_
  refine dx_u 15 (by kernel_rfl) rfl rfl rfl (fun w => y_move rfl) ?_
  refine dx_u 16 (by kernel_rfl) rfl rfl rfl (fun w => D4) ?_
  refine dx_y 17 (by kernel_rfl) rfl rfl rfl (fun w ⟨m, hw⟩ => y_tl (i + n) rfl rfl) ?_
  refine dx_only 9 (by kernel_rfl) rfl rfl ?_
  have hv0 := sls_sli (p := p) hO
  have hv := sli_hd (cuts_holds w) hv0 i i (by omega) (Nat.le_refl _)
  refine s_appV hO rfl rfl hv (src_ro hO hx) (by simp) (fun p44 c44 w hO gs44 => ?_)
  refine o_done ?_
  refine ⟨SO.ks [.b s] hO, ?_⟩
  refine dx_close 18 (by kernel_rfl) rfl rfl ?_
  have hv0 := sls_sli (p := p) hO
  have hv := sli_tl (cuts_holds w) hv0 (i + n) (by omega)
  refine s_app (xs := l.take i ++ [x]) hO rfl rfl (src_sli hv) (fun p45 c45 w hO gs45 => ?_)
  refine o_done ?_
  refine da_phase _ [21] (SO.ks [] hO) ?_
  refine dx_u 19 (by kernel_rfl) rfl rfl rfl (fun w => y_nilCheck rfl rfl) ?_
  refine dx_u 20 (by kernel_rfl) rfl rfl rfl (fun w => y_fldb (o' := 1) rfl) ?_
  refine dx_close 21 (by kernel_rfl) rfl rfl ?_
  refine Y1 hO rfl rfl (fun w hO => ?_)
  simp only [List.set_cons_zero, List.set_cons_succ] at hO
  refine o_done ?_
  refine da_end (by kernel_rfl) ?_
  exact fin0 rfl ⟨_, ⟨rfl, rfl⟩, (stkL_shut (hO.ks [.b s, .p p45]) rfl).one⟩
theorem findI_lt {l : List Int} {x : Int} : findI l x < l.length := by
  rcases idx_cases (fun y => decide (y = x)) l with ⟨h, _⟩ | ⟨i, h, h2, _⟩ <;> unfold findI <;> omega
theorem findI_ge {l : List Int} {x : Int} : -1 ≤ findI l x := by
  rcases idx_cases (fun y => decide (y = x)) l with ⟨h, _⟩ | ⟨i, h, h2, _⟩ <;> unfold findI <;> omega
def removeL (l : List Int) (id : Int) : Int × List Int := if findI l id < 0 then (6, l) else (0, l.take (findI l id).toNat ++ l.drop ((findI l id).toNat + 1))
theorem sRemove_spec {k : Ctx} {w : World} {s a : Nat} {l : List Int} {id : Int} (hl : l.length ≤ 1000000) (hO : Own k w [stkL s a l]) :
    Tri Tryz.prog 106 #[.pointer (some ⟨s, 0, none⟩), .int .i64 id] k w fun v m => v = .int .i64 (removeL l id).1 ∧ m = [stkL s a (removeL l id).2] := by
  refine enter (args := [.pointer (some ⟨s, 0, none⟩), .int .i64 id]) Tryz.func106 rfl rfl ?_
  obtain ⟨p, c, hg, hlc, hO⟩ := stkL_open hO
  have hfl := findI_lt (l := l) (x := id)
  refine K0 (K1 ?_)
  refine l_y rfl rfl (y_assign rfl) ?_
  refine K2 (K3 (K0 (K1 ?_)))
  refine l_y rfl rfl (y_move rfl) ?_
  refine l_y rfl rfl (y_move rfl) ?_
  refine CK [.b s, .p p] hO rfl (fun k' hx hr hO' => sFind_spec hg hl (hO := hO')) ?_
  rintro _ _ w ⟨rfl, rfl⟩ hO
  simp only [List.cons_append, List.nil_append] at hO
  refine l_y rfl rfl (y_assign rfl) ?_
  refine K2 (K3 (K0 (K4 (K0 (K1 ?_)))))
  refine l_y rfl rfl (y_move rfl) ?_
  refine CK [.b s] hO rfl (fun k' hx hr hO' => snone_spec (hO := hO')) ?_
  rintro _ _ w ⟨rfl, rfl⟩ hO
  simp only [List.cons_append, List.nil_append] at hO
  refine l_y rfl rfl (y_assign rfl) ?_
  refine K2 (K3 (L9 (K0 (K1 ?_))))
  refine l_y rfl rfl (y_move rfl) ?_
  refine Z0 (fun h4_1 => ?_) (fun h4_1 => ?_)
  · refine l_y rfl rfl (y_assign rfl) ?_
    refine K2 (K3 (L8 (K0 (K1 ?_))))
    refine l_y rfl rfl (y_assign rfl) ?_
    refine K2 (K3 (K6 (L0 (K9 ?_))))
    exact fin1 rfl rfl ⟨_, ⟨by rw [removeL, if_pos h4_1], rfl⟩, by rw [removeL, if_pos h4_1]; exact (stkL_shut (hO.ks [.b s, .p p])).one⟩
  · refine l_y rfl rfl (y_assign rfl) ?_
    refine K2 (K3 (L9 (K5 (K8 (K3 (K0 ?_))))))
    obtain ⟨i, hi⟩ : ∃ i : Nat, findI l id = i := ⟨(findI l id).toNat, by omega⟩
    have er : removeL l id = (0, l.take i ++ l.drop (i + 1)) := by rw [removeL, if_neg h4_1, hi]; rfl
    rw [er]
    rw [hi] at hfl
    refine K1 ?_
    refine l_y rfl rfl (y_move rfl) ?_
    refine l_y rfl rfl (y_nilCheck rfl rfl) ?_
    refine l_y rfl rfl (y_fldb (o' := 1) rfl) ?_
    refine l_y rfl rfl (y_move rfl) ?_
    refine CK [.b s, .p p] hO (by rw [hi]; rfl) (fun k' hx hr hO' => splice0_spec (i := i) (by omega) hg hlc hl (hO := hO')) ?_
    rintro _ _ w ⟨rfl, rfl⟩ hO
    simp only [List.cons_append, List.nil_append] at hO
    refine K2 (K3 (K0 (K1 ?_)))
    refine l_y rfl rfl (y_assign rfl) ?_
    refine K2 (K3 (K6 ?_))
    exact fin1 rfl rfl ⟨_, ⟨rfl, rfl⟩, hO.one⟩
def putL (A : List Node_one) (l : List Int) (i id : Int) : Int × List Int := if freshE A l id ≠ 0 then (freshE A l id, l) else if i < 0 ∨ (l.length : Int) < i then (1, l) else (0, l.take i.toNat ++ [id] ++ l.drop i.toNat)
theorem sPut_spec {k : Ctx} {w : World} {s a : Nat} {l : List Int} {A : List Node_one} {i id : Int} (hn : 0 < A.length) (ha : AttrsOk A) (hl : l.length ≤ 1000000) (hO : Own k w [arenaL a A, stkL s a l]) :
    Tri Tryz.prog 107 #[.pointer (some ⟨s, 0, none⟩), .int .i64 i, .int .i64 id] k w fun v m => v = .int .i64 (putL A l i id).1 ∧ m = [arenaL a A, stkL s a (putL A l i id).2] := by
  refine enter (args := [.pointer (some ⟨s, 0, none⟩), .int .i64 i, .int .i64 id]) Tryz.func107 rfl rfl ?_
  obtain ⟨p, c, hg, hlc, hO⟩ := stkL_open (hO.ks [.o s])
  refine K0 (K1 ?_)
  refine l_y rfl rfl (y_assign rfl) ?_
  refine K2 (K3 (K0 (K0 (K1 ?_))))
  refine l_y rfl rfl (y_move rfl) ?_
  refine l_y rfl rfl (y_move rfl) ?_
  refine CK [.o a, .b s, .p p] hO rfl (fun k' hx hr hO' => fresh_spec hn ha hg hl (hO := hO')) ?_
  rintro _ _ w ⟨rfl, rfl⟩ hO
  simp only [List.cons_append, List.nil_append] at hO
  refine l_y rfl rfl (y_assign rfl) ?_
  refine K2 (K3 (K4 (K0 (K1 ?_))))
  refine l_y rfl rfl (y_move rfl) ?_
  refine Z1 (fun h2_1 => ?_) (fun h2_1 => ?_)
  · refine l_y rfl rfl (y_assign rfl) ?_
    refine K2 (K3 (L8 (K0 (K1 ?_))))
    refine l_y rfl rfl (y_move rfl) ?_
    refine l_y rfl rfl (y_assign rfl) ?_
    refine K2 (K3 (K6 (L0 (K9 ?_))))
    have er : putL A l i id = (freshE A l id, l) := by rw [putL, if_pos h2_1]
    rw [er]
    exact fin1 rfl rfl ⟨_, ⟨rfl, rfl⟩, ((stkL_shut (hO.ks [.b s, .p p])).ks [.o a, .o s]).two⟩
  · refine l_y rfl rfl (y_assign rfl) ?_
    refine K2 (K3 (L9 (K0 (K1 ?_))))
    refine l_y rfl rfl (y_move rfl) ?_
    refine Z0 (fun h4_1 => ?_) (fun h4_1 => ?_)
    · refine l_y rfl rfl (y_move rfl) ?_
      repeat refine M2 ?_
      refine l_y rfl rfl (y_pick_t rfl rfl) ?_
      refine l_y rfl rfl (y_assign rfl) ?_
      refine K2 (K3 (L8 (K0 (K1 ?_))))
      refine l_y rfl rfl (y_assign rfl) ?_
      refine K2 (K3 (K6 (L0 (K9 ?_))))
      have er : putL A l i id = (1, l) := by rw [putL, if_neg (by simpa using h2_1), if_pos (by omega)]
      rw [er]
      exact fin1 rfl rfl ⟨_, ⟨rfl, rfl⟩, ((stkL_shut (hO.ks [.b s, .p p])).ks [.o a, .o s]).two⟩
    · refine l_y rfl rfl (y_move rfl) ?_
      refine l_y rfl rfl (y_move rfl) ?_
      refine l_y rfl rfl (y_move rfl) ?_
      refine l_y rfl rfl (y_nilCheck rfl rfl) ?_
      refine l_y rfl rfl (y_fldb (o' := 1) rfl) ?_
      refine l_y rfl rfl (y_fldb (o' := 1) rfl) ?_
      refine l_y rfl rfl (D5 hO rfl) ?_
      refine l_y rfl rfl (y_lenL rfl) ?_
      refine Z0 (fun h4_10 => ?_) (fun h4_10 => ?_)
      · refine l_y rfl rfl (y_pick_f rfl rfl) ?_
        refine l_y rfl rfl (y_assign rfl) ?_
        refine K2 (K3 (L8 (K0 (K1 ?_))))
        refine l_y rfl rfl (y_assign rfl) ?_
        refine K2 (K3 (K6 (L0 (K9 ?_))))
        have er : putL A l i id = (1, l) := by rw [putL, if_neg (by simpa using h2_1), if_pos (by omega)]
        rw [er]
        exact fin1 rfl rfl ⟨_, ⟨rfl, rfl⟩, ((stkL_shut (hO.ks [.b s, .p p])).ks [.o a, .o s]).two⟩
      · refine l_y rfl rfl (y_pick_f rfl rfl) ?_
        refine l_y rfl rfl (y_assign rfl) ?_
        refine K2 (K3 (L9 (K5 (K8 (K3 (K0 ?_))))))
        obtain ⟨j, rfl⟩ : ∃ j : Nat, i = j := ⟨i.toNat, by omega⟩
        have er : putL A l j id = (0, l.take j ++ [id] ++ l.drop j) := by rw [putL, if_neg (by simpa using h2_1), if_neg (by omega)]; rfl
        rw [er]
        refine K1 ?_
        refine l_y rfl rfl (y_move rfl) ?_
        refine l_y rfl rfl (y_nilCheck rfl rfl) ?_
        refine l_y rfl rfl (y_fldb (o' := 1) rfl) ?_
        refine l_y rfl rfl (y_move rfl) ?_
        refine l_y rfl rfl (y_move rfl) ?_
        refine s_lit (parts := [(0, .tmp 32)]) (enc := (eI .i64)) [id] [.int .i64 id] hO rfl (fun b33 w hO => ?_)
        refine CK [.b s, .p p] hO rfl (fun k' hx hr hO' => splice1_spec (i := j) (n := 0) (x := id) (sls_roK (p := some ⟨b33, 0, none⟩) hr (sls_fct (p := some ⟨b33, 0, none⟩) hO)) rfl (by omega) (by omega) hg hlc hl (hO := hO')) ?_
        rintro _ _ w ⟨rfl, rfl⟩ hO
        simp only [List.cons_append, List.nil_append] at hO
        refine K2 (K3 (K0 (K1 ?_)))
        refine l_y rfl rfl (y_assign rfl) ?_
        refine K2 (K3 (K6 ?_))
        exact fin1 rfl rfl ⟨_, ⟨rfl, rfl⟩, hO.only [.o a, .o s]⟩
def swapL (A : List Node_one) (l : List Int) (old id : Int) : Int × List Int := if elB A id = false ∨ findI l old < 0 then (6, l) else if freshE A l id = 0 then (0, l.take (findI l old).toNat ++ [id] ++ l.drop ((findI l old).toNat + 1)) else (1, l)
theorem freshE_cases (A : List Node_one) (l : List Int) (id : Int) : (freshE A l id = 6 ∧ elB A id = false) ∨ (freshE A l id = 1 ∧ elB A id = true ∧ 0 ≤ findI l id) ∨ (freshE A l id = 0 ∧ elB A id = true ∧ findI l id < 0) := by
  unfold freshE
  cases h : elB A id with
  | false => exact .inl ⟨rfl, rfl⟩
  | true =>
    right
    by_cases h2 : 0 ≤ findI l id
    · exact .inl ⟨by rw [if_neg (by simp), if_pos h2], rfl, h2⟩
    · exact .inr ⟨by rw [if_neg (by simp), if_neg h2], rfl, by omega⟩
theorem sSwap_spec {k : Ctx} {w : World} {s a : Nat} {l : List Int} {A : List Node_one} {old id : Int} (hn : 0 < A.length) (ha : AttrsOk A) (hl : l.length ≤ 1000000) (hO : Own k w [arenaL a A, stkL s a l]) :
    Tri Tryz.prog 124 #[.pointer (some ⟨s, 0, none⟩), .int .i64 old, .int .i64 id] k w fun v m => v = .int .i64 (swapL A l old id).1 ∧ m = [arenaL a A, stkL s a (swapL A l old id).2] := by
  refine enter (args := [.pointer (some ⟨s, 0, none⟩), .int .i64 old, .int .i64 id]) Tryz.func124 rfl rfl ?_
  obtain ⟨p, c, hg, hlc, hO⟩ := stkL_open (hO.ks [.o s])
  have hfl := findI_lt (l := l) (x := old)
  have hf := freshE_cases A l id
  refine K0 (K1 ?_)
  refine l_y rfl rfl (y_assign rfl) ?_
  refine K2 (K3 (K0 (K1 ?_)))
  refine l_y rfl rfl (y_move rfl) ?_
  refine l_y rfl rfl (y_move rfl) ?_
  refine CK [.o a, .b s, .p p] hO rfl (fun k' hx hr hO' => fresh_spec hn ha hg hl (hO := hO')) ?_
  rintro _ _ w ⟨rfl, rfl⟩ hO
  simp only [List.cons_append, List.nil_append] at hO
  refine l_y rfl rfl (y_assign rfl) ?_
  refine K2 (K3 (K0 (K1 ?_)))
  refine l_y rfl rfl (y_move rfl) ?_
  refine l_y rfl rfl (y_move rfl) ?_
  refine CK [.b s, .p p] hO rfl (fun k' hx hr hO' => sFind_spec hg hl (hO := hO')) ?_
  rintro _ _ w ⟨rfl, rfl⟩ hO
  simp only [List.cons_append, List.nil_append] at hO
  refine l_y rfl rfl (y_assign rfl) ?_
  refine K2 (K3 (K0 (K4 (K0 (K1 ?_)))))
  refine l_y rfl rfl (y_move rfl) ?_
  refine N3 ?_
  refine l_y rfl rfl (y_move rfl) ?_
  refine l_y rfl rfl (y_move rfl) ?_
  refine Z0 (fun h3_4 => ?_) (fun h3_4 => ?_)
  · refine l_y rfl rfl (y_pick_f rfl rfl) ?_
    refine l_y rfl rfl (y_assign rfl) ?_
    refine K2 (K3 (L8 (K0 (K1 ?_))))
    refine l_y rfl rfl (y_move rfl) ?_
    refine l_y rfl rfl (y_assign rfl) ?_
    refine K2 (K3 (K6 (L0 (K9 ?_))))
    have hel : elB A id = false := by rcases hf with ⟨_, h⟩ | ⟨h, _, _⟩ | ⟨h, _, _⟩ <;> first | exact h | omega
    have er : swapL A l old id = (6, l) := by rw [swapL, if_pos (.inl hel)]
    rw [er]
    exact fin1 rfl rfl ⟨_, ⟨by simp [*], rfl⟩, ((stkL_shut (hO.ks [.b s, .p p])).ks [.o a, .o s]).two⟩
  · refine l_y rfl rfl (y_pick_f rfl rfl) ?_
    refine l_y rfl rfl (y_assign rfl) ?_
    refine K2 (K3 (L9 (K0 (K1 ?_))))
    refine l_y rfl rfl (y_move rfl) ?_
    refine Z0 (fun h5_1 => ?_) (fun h5_1 => ?_)
    · refine l_y rfl rfl (y_assign rfl) ?_
      refine K2 (K3 (L8 (K0 (K1 ?_))))
      refine l_y rfl rfl (y_assign rfl) ?_
      refine K2 (K3 (K6 (L0 (K9 ?_))))
      have er : swapL A l old id = (6, l) := by rw [swapL, if_pos (.inr h5_1)]
      rw [er]
      exact fin1 rfl rfl ⟨_, ⟨rfl, rfl⟩, ((stkL_shut (hO.ks [.b s, .p p])).ks [.o a, .o s]).two⟩
    · refine l_y rfl rfl (y_assign rfl) ?_
      refine K2 (K3 (L9 (K0 (K1 ?_))))
      refine l_y rfl rfl (y_move rfl) ?_
      refine Z0 (fun h7_1 => ?_) (fun h7_1 => ?_)
      · refine l_y rfl rfl (y_assign rfl) ?_
        refine K2 (K3 (L8 ?_))
        obtain ⟨i, hi⟩ : ∃ i : Nat, findI l old = i := ⟨(findI l old).toNat, by omega⟩
        have hel : elB A id = true := by rcases hf with ⟨h, _⟩ | ⟨h, _, _⟩ | ⟨_, h, _⟩ <;> first | exact h | omega
        have er : swapL A l old id = (0, l.take i ++ [id] ++ l.drop (i + 1)) := by rw [swapL, if_neg (by simp [hel]; omega), if_pos h7_1, hi]; rfl
        rw [er]
        rw [hi] at hfl
        refine K1 ?_
        refine l_y rfl rfl (y_move rfl) ?_
        refine l_y rfl rfl (y_nilCheck rfl rfl) ?_
        refine l_y rfl rfl (y_fldb (o' := 1) rfl) ?_
        refine l_y rfl rfl (y_move rfl) ?_
        refine l_y rfl rfl (y_move rfl) ?_
        refine s_lit (parts := [(0, .tmp 33)]) (enc := (eI .i64)) [id] [.int .i64 id] hO rfl (fun b34 w hO => ?_)
        refine CK [.b s, .p p] hO (by rw [hi]; rfl) (fun k' hx hr hO' => splice1_spec (i := i) (n := 1) (x := id) (sls_roK (p := some ⟨b34, 0, none⟩) hr (sls_fct (p := some ⟨b34, 0, none⟩) hO)) rfl (by omega) (by omega) hg hlc hl (hO := hO')) ?_
        rintro _ _ w ⟨rfl, rfl⟩ hO
        simp only [List.cons_append, List.nil_append] at hO
        refine K2 (K8 (K3 (K0 (K1 ?_))))
        refine l_y rfl rfl (y_move rfl) ?_
        refine l_y rfl rfl (y_assign rfl) ?_
        refine K2 (K3 (K6 ?_))
        exact fin1 rfl rfl ⟨_, ⟨by rw [h7_1], rfl⟩, hO.only [.o a, .o s]⟩
      · refine l_y rfl rfl (y_assign rfl) ?_
        refine K2 (K3 (L9 (K5 (K8 (K3 (K0 (K1 ?_)))))))
        refine l_y rfl rfl (y_move rfl) ?_
        refine l_y rfl rfl (y_assign rfl) ?_
        refine K2 (K3 (K6 ?_))
        have hel : elB A id = true ∧ freshE A l id = 1 := by rcases hf with ⟨h, _⟩ | ⟨h, h2, _⟩ | ⟨h, _, _⟩ <;> first | exact ⟨h2, h⟩ | omega
        have er : swapL A l old id = (1, l) := by rw [swapL, if_neg (by simp [hel.1]; omega), if_neg h7_1]
        rw [er]
        exact fin1 rfl rfl ⟨_, ⟨by rw [hel.2], rfl⟩, ((stkL_shut (hO.ks [.b s, .p p])).ks [.o a, .o s]).two⟩
theorem sNew_spec {k : Ctx} {w : World} {a : Nat} {A : List Node_one} (hn : 0 < A.length) (hO : Own k w [arenaL a A]) :
    Tri Tryz.prog 23 #[.pointer (some ⟨a, 0, none⟩)] k w fun v m => ∃ s, v = .tuple #[.pointer (some ⟨s, 0, none⟩), .int .i64 0] ∧ m = [arenaL a A, stkL s a []] := by
  refine enter (args := [.pointer (some ⟨a, 0, none⟩)]) Tryz.func23 rfl rfl ?_
  refine K0 (K1 ?_)
  refine l_y rfl rfl (y_assign rfl) ?_
  refine l_y rfl rfl (y_assign rfl) ?_
  refine K2 (K3 (K0 (K0 (K1 ?_))))
  refine l_y rfl rfl (y_move rfl) ?_
  refine CK [.o a] hO rfl (fun k' hx hr hO' => LenC_spec hn (hO := hO')) ?_
  rintro _ _ w ⟨rfl, rfl⟩ hO
  simp only [List.cons_append, List.nil_append] at hO
  refine N3 ?_
  refine K2 (K3 (L9 (K5 (K3 (K0 (K1 ?_))))))
  refine l_y rfl rfl (y_move rfl) ?_
  refine s_build (parts := [(0, .tmp 7)]) (cs := [.pointer (some ⟨a, 0, none⟩), .slice none 0 0]) rfl rfl (fun a ha => partsOf_sound ha _ _ rfl) (by kernel_rfl) ?_
  refine s_box (vs := [.pointer (some ⟨a, 0, none⟩), .slice none 0 0]) hO rfl rfl rfl (by rfl) fun b9 w hO => ?_
  refine l_y rfl rfl (y_assign rfl) ?_
  refine l_y rfl rfl (y_assign rfl) ?_
  refine K2 (K3 (K6 ?_))
  have hO : Own k w (sls none 0 3 1 (eI .i64) ([] : List Int) :: _) := sl_nil 3 1 hO
  exact fin2 rfl rfl rfl ⟨_, ⟨_, rfl, rfl⟩, ((stkL_shut (l := []) (hO.ks [.b b9, .p none]) rfl).ks [.o a, .o b9]).two⟩
end Go.Proofs.YtoohapbaelmkcaaGreat
