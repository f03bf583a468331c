/- The walk of the answer's Implied beside the program's; no condition. -/
import Derived.Test.YtbhicbpfdbnpfaaStk9
set_option linter.unusedVariables false
set_option linter.unusedSimpArgs false
set_option maxRecDepth 100000
namespace Go.Proofs.Ytbhicbpfdbnpfaa
open Go Go.Hb Go.RowKit
section
variable {k : Ctx} {w : World} {r t c : Nat} {p : Option Addr} {A : List Node_one} {K : Int → List Int} {R : List Ref01_one} {l : List Int} {id kind : Int} {name : ByteArray}
theorem tAtO_spec {i : Int} {q : Option Addr} {d : Nat} (hq : Gs q l.length) (hO : Own k w [tB t r q l.length d, sI q d l]) :
    Tri Try.prog 104 #[.pointer (some ⟨t, 0, none⟩), .int .i64 i] k w fun v m => v = .int .i64 (atI l i) ∧ m = [tB t r q l.length d, sI q d l] := by
  refine enter (args := [.pointer (some ⟨t, 0, none⟩), .int .i64 i]) Try.func104 rfl rfl ?_
  refine K0 (K1 ?_)
  refine l_y rfl rfl (y_assign rfl) ?_
  refine K2 (K3 (K0 (K0 (K1 ?_))))
  refine l_y rfl rfl (y_move rfl) ?_
  refine Z0 (fun h1_1 => ?_) (fun h1_1 => ?_)
  · refine l_y rfl rfl (y_move rfl) ?_
    repeat refine M2 ?_
    refine l_y rfl rfl (y_pick_t rfl rfl) ?_
    refine K2 (K3 (L8 (K0 (K1 ?_))))
    refine l_y rfl rfl (y_assign rfl) ?_
    refine K2 (K3 (K6 (K9 ?_)))
    exact fin1 rfl rfl ⟨_, ⟨by rw [atI, if_pos (by omega)], rfl⟩, hO⟩
  · refine l_y rfl rfl (y_move rfl) ?_
    refine l_y rfl rfl (y_move rfl) ?_
    refine l_y rfl rfl (y_move rfl) ?_
    refine l_y rfl rfl (y_nilCheck rfl rfl) ?_
    refine l_y rfl rfl (y_fldb (o' := 1) rfl) ?_
    refine l_y rfl rfl (D5 hO rfl) ?_
    refine l_y rfl rfl (y_lenL rfl) ?_
    refine Z0 (fun h1_9 => ?_) (fun h1_9 => ?_)
    · refine l_y rfl rfl (y_pick_f rfl rfl) ?_
      refine K2 (K3 (L8 (K0 (K1 ?_))))
      refine l_y rfl rfl (y_assign rfl) ?_
      refine K2 (K3 (K6 (K9 ?_)))
      exact fin1 rfl rfl ⟨_, ⟨by rw [atI, if_pos (by omega)], rfl⟩, hO⟩
    · refine l_y rfl rfl (y_pick_f rfl rfl) ?_
      refine K2 (K3 (L9 (K5 (K3 (K0 (K1 ?_))))))
      refine l_y rfl rfl (y_move rfl) ?_
      refine l_y rfl rfl (y_nilCheck rfl rfl) ?_
      refine l_y rfl rfl (y_fldb (o' := 1) rfl) ?_
      refine l_y rfl rfl (D5 hO rfl) ?_
      refine l_y rfl rfl (y_move rfl) ?_
      refine l_y rfl rfl (y_idx rfl rfl) ?_
      refine l_y rfl rfl (y_e1 (x0 := 0) hO rfl) ?_
      refine l_y rfl rfl (y_assign rfl) ?_
      refine K2 (K3 (K6 ?_))
      exact fin1 rfl rfl ⟨_, ⟨by rw [atI, if_neg (by omega)], rfl⟩, hO⟩
theorem tTopO_spec {q : Option Addr} {d : Nat} (hq : Gs q l.length) (hl : l.length ≤ 1000000) (hO : Own k w [tB t r q l.length d, sI q d l]) :
    Tri Try.prog 105 #[.pointer (some ⟨t, 0, none⟩)] k w fun v m => v = .int .i64 (topI l) ∧ m = [tB t r q l.length d, sI q d l] := by
  refine enter (args := [.pointer (some ⟨t, 0, none⟩)]) Try.func105 rfl rfl ?_
  refine K0 (K1 ?_)
  refine l_y rfl rfl (y_assign rfl) ?_
  refine K2 (K3 (K0 (K1 ?_)))
  refine l_y rfl rfl (y_move rfl) ?_
  refine l_y rfl rfl (y_move rfl) ?_
  refine l_y rfl rfl (y_nilCheck rfl rfl) ?_
  refine l_y rfl rfl (y_fldb (o' := 1) rfl) ?_
  refine l_y rfl rfl (D5 hO rfl) ?_
  refine l_y rfl rfl (y_lenL rfl) ?_
  refine l_y rfl rfl (D4) ?_
  refine CK [.b t, .p q] hO rfl (fun k' hx hr hO' => tAtO_spec hq (hO := hO')) ?_
  rintro _ _ w ⟨rfl, rfl⟩ hO
  simp only [List.cons_append, List.nil_append] at hO
  refine l_y rfl rfl (y_assign rfl) ?_
  refine K2 (K3 (K6 ?_))
  exact fin1 rfl rfl ⟨_, ⟨rfl, rfl⟩, hO⟩
theorem tib {ts : List ByteArray} {x : Int} (s : Sim A K R) (h : (elB A x && namA A ts x) = true) : 0 ≤ x ∧ x < R.length := by
  rw [Bool.and_eq_true] at h
  exact hasR_true (by rw [s.has]; exact elB_has h.1)
set_option maxHeartbeats 4000000 in
theorem tImplied_spec {but : ByteArray} (s : Sim A K R) (hel : AllEl A l) (hl : l.length ≤ 1000000) (hO : Own k w [rarL r R, rstkL t r l]) :
    Tri Try.prog 100 #[.pointer (some ⟨t, 0, none⟩), .string but] k w fun v m => v = .int .i64 ((l.length : Int) - ((dropL (implA A but) l).length : Int)) ∧ m = [rarL r R, rstkL t r (dropL (implA A but) l)] := by
  refine enter (args := [.pointer (some ⟨t, 0, none⟩), .string but]) Try.func100 rfl rfl ?_
  obtain ⟨p, c, F, hg, hF, hO⟩ := rarL_open hO
  have hdl := dropL_len (implA A but) l
  have hi0 : ∀ x, implA A but x = (namA A implL x && !decide ((at_ A x.toNat).Node.Name = but)) := fun x => rfl
  refine K0 (K1 ?_)
  refine l_y rfl rfl (y_assign rfl) ?_
  refine K2 (K3 (K0 (K1 ?_)))
  refine l_y rfl rfl (y_assign rfl) ?_
  refine K2 (K3 (K0 (K4 ?_)))
  refine c_rounds (X := List Int × Int) (fun x => [(0, .pointer (some ⟨t, 0, none⟩)), (1, .string but), (4, .int .i64 0), (5, .int .i64 x.2)]) (fun x w => Own k w [rB r p R.length c, rS p c R, pool F, rstkL t r x.1] ∧ (AllEl A x.1 ∧ x.1.length ≤ l.length) ∧ (dropL (implA A but) l = dropL (implA A but) x.1) ∧ (x.2 = (l.length : Int) - (x.1.length : Int))) (fun x => x.1.length) ((l, 0)) ⟨rfl, rfl, rfl, rfl, trivial⟩ ⟨hO.only [.b r, .p p, .f, .o t], ⟨hel, Nat.le_refl _⟩, rfl, by simp⟩ ?_
  rintro x w m hm ⟨hO, he, hs, hz⟩
  refine K0 (K0 ?_)
  obtain ⟨q, d, hq, hld, hO⟩ := rstkL_open (hO.ks [.o t])
  refine da_region (by intro c a d v w h; cases d <;> exact h) ?_
  have hO := hO.drew
  refine da_phase _ [4] (SO.ks [] hO) ?_
  refine dx_u 0 (by kernel_rfl) rfl rfl rfl (fun w => y_move rfl) ?_
  refine dx_u 1 (by kernel_rfl) rfl rfl rfl (fun w => y_move rfl) ?_
  refine dx_two 2 3 (by kernel_rfl) rfl rfl rfl rfl ?_ ?_
  · refine CK [.b t, .p q] hO rfl (fun k' hx hr hO' => tTopO_spec hq (by omega) (hO := hO')) ?_
    rintro _ _ w ⟨rfl, rfl⟩ hO
    simp only [List.cons_append, List.nil_append] at hO
    refine o_done ?_
    refine ⟨SO.ks [] hO, ?_⟩
    refine dx_only 3 (by kernel_rfl) rfl rfl ?_
    refine s_lit (parts := [(0, .const (.string ⟨#[100, 100]⟩)), (1, .const (.string ⟨#[100, 116]⟩)), (2, .const (.string ⟨#[108, 105]⟩)), (3, .const (.string ⟨#[111, 112, 116, 103, 114, 111, 117, 112]⟩)), (4, .const (.string ⟨#[111, 112, 116, 105, 111, 110]⟩)), (5, .const (.string ⟨#[112]⟩)), (6, .const (.string ⟨#[114, 98]⟩)), (7, .const (.string ⟨#[114, 112]⟩)), (8, .const (.string ⟨#[114, 116]⟩)), (9, .const (.string ⟨#[114, 116, 99]⟩))]) (enc := eS) [⟨#[100, 100]⟩, ⟨#[100, 116]⟩, ⟨#[108, 105]⟩, ⟨#[111, 112, 116, 103, 114, 111, 117, 112]⟩, ⟨#[111, 112, 116, 105, 111, 110]⟩, ⟨#[112]⟩, ⟨#[114, 98]⟩, ⟨#[114, 112]⟩, ⟨#[114, 116]⟩, ⟨#[114, 116, 99]⟩] [.string ⟨#[100, 100]⟩, .string ⟨#[100, 116]⟩, .string ⟨#[108, 105]⟩, .string ⟨#[111, 112, 116, 103, 114, 111, 117, 112]⟩, .string ⟨#[111, 112, 116, 105, 111, 110]⟩, .string ⟨#[112]⟩, .string ⟨#[114, 98]⟩, .string ⟨#[114, 112]⟩, .string ⟨#[114, 116]⟩, .string ⟨#[114, 116, 99]⟩] hO rfl (fun b9 w hO => ?_)
    refine o_done ?_
    refine ⟨SO.ks [] hO, ?_⟩
    refine dx_close 4 (by kernel_rfl) rfl rfl ?_
    refine CK [.b r, .p p, .b t] hO rfl (fun k' hx hr hO' => tOf_spec (ts := implL) (sls_roK (p := (some ⟨b9, 0, none⟩)) hr (sls_fct (p := (some ⟨b9, 0, none⟩)) hO)) (by decide) s hg (hO := hO')) ?_
    rintro _ _ w ⟨rfl, rfl⟩ hO
    simp only [List.cons_append, List.nil_append] at hO
    refine o_done ?_
    refine da_phase _ [] (SO.ks [.b t, .b r, .p p] hO) ?_
    refine dx_u 5 (by kernel_rfl) rfl rfl rfl (fun w => y_move rfl) ?_
    refine dx_split 11 rfl (fun hg11 => ?_) (fun hg11 => ?_)
    · refine dx_u 6 (by kernel_rfl) rfl rfl rfl (fun w => y_move rfl) ?_
      refine dx_u 7 (by kernel_rfl) rfl rfl rfl (fun w => y_nilCheck rfl rfl) ?_
      refine dx_u 8 (by kernel_rfl) rfl rfl rfl (fun w => y_fldb (o' := 0) rfl) ?_
      refine dx_y 9 (by kernel_rfl) rfl rfl rfl (fun w ⟨m, hw⟩ => D5 hw rfl) ?_
      refine dx_u 10 (by kernel_rfl) rfl rfl rfl (fun w => y_nilCheck rfl rfl) ?_
      refine dx_u 11 (by kernel_rfl) rfl rfl rfl (fun w => y_fldb (o' := 0) rfl) ?_
      refine dx_y 12 (by kernel_rfl) rfl rfl rfl (fun w ⟨m, hw⟩ => D5 hw rfl) ?_
      refine dx_u 13 (by kernel_rfl) rfl rfl rfl (fun w => y_move rfl) ?_
      refine dx_u 18 (by kernel_rfl) rfl rfl rfl (fun w => y_move rfl) ?_
      refine dx_only 14 (by kernel_rfl) rfl rfl ?_
      have htib := tib s hg11
      refine CK [.b t, .p q] hO rfl (fun k' hx hr hO' => tTopO_spec hq (by omega) (hO := hO')) ?_
      rintro _ _ w ⟨rfl, rfl⟩ hO
      simp only [List.cons_append, List.nil_append] at hO
      refine o_done ?_
      refine ⟨SO.ks [.b t, .b r, .p p] hO, ?_⟩
      refine dx_u 15 (by kernel_rfl) rfl rfl rfl (fun w => y_idx rfl rfl) ?_
      refine dx_u 16 (by kernel_rfl) rfl rfl rfl (fun w => y_fld (j' := 2) rfl) ?_
      refine dx_y 17 (by kernel_rfl) rfl rfl rfl (fun w ⟨m, hw⟩ => y_e1 (x0 := 2) hw rfl) ?_
      refine dx_u 19 (by kernel_rfl) rfl rfl rfl (fun w => y_neS rfl rfl rfl) ?_
      refine dx_u 20 (by kernel_rfl) rfl rfl rfl (fun w => y_pick_t rfl rfl) ?_
      refine dx_end (by kernel_rfl) ?_
      refine K3 ?_
      refine c_split rfl (fun hc26 => ?_) (fun hc26 => ?_)
      · refine K5 (K3 (K4 (K0 ?_)))
        have hO := rstkL_shut (hO.ks [.b t, .p q])
        have hg12 : elB A (topI x.1) = true ∧ namA A implL (topI x.1) = true := by rw [Bool.and_eq_true] at hg11; exact hg11
        have e2 := (s.atB (elB_has hg12.1)).name
        have hyes : implA A but (topI x.1) = true := by rw [hi0, hg12.2, ← e2, Bool.true_and]; exact hc26
        have hpos : 0 < x.1.length := by
          rcases Nat.eq_zero_or_pos x.1.length with h0 | h0
          · have := hg12.1; rw [topI_nil h0, elB_none] at this; cases this
          · exact h0
        have hs3 : dropL (implA A but) l = if implA A but (topI x.1) = true then dropL (implA A but) (x.1.take (x.1.length - 1)) else x.1 := by
          rw [hs]; conv => lhs; rw [take_top hpos]
          rw [dropL_snoc, ← take_top hpos]
        refine K1 ?_
        refine l_y rfl rfl (y_move rfl) ?_
        refine CK [.o t] hO rfl (fun k' hx hr hO' => tPop_spec (by omega) (hO := hO')) ?_
        rintro _ _ w ⟨rfl, rfl⟩ hO
        simp only [List.cons_append, List.nil_append] at hO
        refine K2 (K3 (K1 ?_))
        refine l_y rfl rfl (y_move rfl) ?_
        refine l_y rfl rfl (D4) ?_
        refine l_y rfl rfl (y_assign rfl) ?_
        refine K2 (K8 ?_)
        exact q_next ((x.1.take (x.1.length - 1), x.2 + 1)) ⟨rfl, rfl, rfl, rfl, trivial⟩ ⟨hO.only [.b r, .p p, .f, .o t], ⟨he.1.take _, by simp; omega⟩, by rw [hs3, if_pos hyes], by simp; omega⟩ (by simp; omega)
      · refine K7 (L1 (L1 (L2 (K3 (K0 (K1 ?_))))))
        refine l_y rfl rfl (y_move rfl) ?_
        refine l_y rfl rfl (y_assign rfl) ?_
        refine K2 (K3 (K6 ?_))
        have hfin : dropL (implA A but) l = x.1 := by
          rcases Nat.eq_zero_or_pos x.1.length with h0 | h0
          · rw [hs, List.eq_nil_of_length_eq_zero h0]; rfl
          · have hxe : elB A (topI x.1) = true := he.1 _ (by rw [topI_at h0]; exact at_mem (by omega))
            have hno : implA A but (topI x.1) = false := by
              rw [hi0]
              rw [hxe, Bool.true_and] at hg11
              rw [hg11]
              first | rfl | (rw [← (s.atB (elB_has hxe)).name, Bool.true_and]; exact hc26)
            rw [hs]; conv => lhs; rw [take_top h0]
            rw [dropL_snoc, if_neg (by rw [hno]; simp), ← take_top h0]
        rw [hfin, ← hz]
        have hO := rstkL_shut (hO.ks [.b t, .p q])
        exact fin1 rfl rfl ⟨_, ⟨rfl, rfl⟩, ((rarL_shut hF (hO.ks [.b r, .p p, .f])).ks [.o r, .o t]).two⟩
    · refine dx_pass 6 (by kernel_rfl) rfl rfl rfl ?_
      refine dx_pass 7 (by kernel_rfl) rfl rfl rfl ?_
      refine dx_pass 8 (by kernel_rfl) rfl rfl rfl ?_
      refine dx_pass 9 (by kernel_rfl) rfl rfl rfl ?_
      refine dx_pass 10 (by kernel_rfl) rfl rfl rfl ?_
      refine dx_pass 11 (by kernel_rfl) rfl rfl rfl ?_
      refine dx_pass 12 (by kernel_rfl) rfl rfl rfl ?_
      refine dx_pass 13 (by kernel_rfl) rfl rfl rfl ?_
      refine dx_pass 14 (by kernel_rfl) rfl rfl rfl ?_
      refine dx_pass 15 (by kernel_rfl) rfl rfl rfl ?_
      refine dx_pass 16 (by kernel_rfl) rfl rfl rfl ?_
      refine dx_pass 17 (by kernel_rfl) rfl rfl rfl ?_
      refine dx_pass 18 (by kernel_rfl) rfl rfl rfl ?_
      refine dx_pass 19 (by kernel_rfl) rfl rfl rfl ?_
      refine dx_u 20 (by kernel_rfl) rfl rfl rfl (fun w => y_pick_f rfl rfl) ?_
      refine dx_end (by kernel_rfl) ?_
      refine K3 (L9 (K7 (L1 (L1 (L2 (K3 (K0 (K1 ?_))))))))
      refine l_y rfl rfl (y_move rfl) ?_
      refine l_y rfl rfl (y_assign rfl) ?_
      refine K2 (K3 (K6 ?_))
      have hfin : dropL (implA A but) l = x.1 := by
        rcases Nat.eq_zero_or_pos x.1.length with h0 | h0
        · rw [hs, List.eq_nil_of_length_eq_zero h0]; rfl
        · have hxe : elB A (topI x.1) = true := he.1 _ (by rw [topI_at h0]; exact at_mem (by omega))
          have hno : implA A but (topI x.1) = false := by
            rw [hi0]
            rw [hxe, Bool.true_and] at hg11
            rw [hg11]
            first | rfl | (rw [← (s.atB (elB_has hxe)).name, Bool.true_and]; exact hc26)
          rw [hs]; conv => lhs; rw [take_top h0]
          rw [dropL_snoc, if_neg (by rw [hno]; simp), ← take_top h0]
      rw [hfin, ← hz]
      have hO := rstkL_shut (hO.ks [.b t, .p q])
      exact fin1 rfl rfl ⟨_, ⟨rfl, rfl⟩, ((rarL_shut hF (hO.ks [.b r, .p p, .f])).ks [.o r, .o t]).two⟩
  · refine s_lit (parts := [(0, .const (.string ⟨#[100, 100]⟩)), (1, .const (.string ⟨#[100, 116]⟩)), (2, .const (.string ⟨#[108, 105]⟩)), (3, .const (.string ⟨#[111, 112, 116, 103, 114, 111, 117, 112]⟩)), (4, .const (.string ⟨#[111, 112, 116, 105, 111, 110]⟩)), (5, .const (.string ⟨#[112]⟩)), (6, .const (.string ⟨#[114, 98]⟩)), (7, .const (.string ⟨#[114, 112]⟩)), (8, .const (.string ⟨#[114, 116]⟩)), (9, .const (.string ⟨#[114, 116, 99]⟩))]) (enc := eS) [⟨#[100, 100]⟩, ⟨#[100, 116]⟩, ⟨#[108, 105]⟩, ⟨#[111, 112, 116, 103, 114, 111, 117, 112]⟩, ⟨#[111, 112, 116, 105, 111, 110]⟩, ⟨#[112]⟩, ⟨#[114, 98]⟩, ⟨#[114, 112]⟩, ⟨#[114, 116]⟩, ⟨#[114, 116, 99]⟩] [.string ⟨#[100, 100]⟩, .string ⟨#[100, 116]⟩, .string ⟨#[108, 105]⟩, .string ⟨#[111, 112, 116, 103, 114, 111, 117, 112]⟩, .string ⟨#[111, 112, 116, 105, 111, 110]⟩, .string ⟨#[112]⟩, .string ⟨#[114, 98]⟩, .string ⟨#[114, 112]⟩, .string ⟨#[114, 116]⟩, .string ⟨#[114, 116, 99]⟩] hO rfl (fun b9 w hO => ?_)
    refine o_done ?_
    refine ⟨SO.ks [] hO, ?_⟩
    refine dx_only 2 (by kernel_rfl) rfl rfl ?_
    refine CK [.b t, .p q] hO rfl (fun k' hx hr hO' => tTopO_spec hq (by omega) (hO := hO')) ?_
    rintro _ _ w ⟨rfl, rfl⟩ hO
    simp only [List.cons_append, List.nil_append] at hO
    refine o_done ?_
    refine ⟨SO.ks [] hO, ?_⟩
    refine dx_close 4 (by kernel_rfl) rfl rfl ?_
    refine CK [.b r, .p p, .b t] hO rfl (fun k' hx hr hO' => tOf_spec (ts := implL) (sls_roK (p := (some ⟨b9, 0, none⟩)) hr (sls_fct (p := (some ⟨b9, 0, none⟩)) hO)) (by decide) s hg (hO := hO')) ?_
    rintro _ _ w ⟨rfl, rfl⟩ hO
    simp only [List.cons_append, List.nil_append] at hO
    refine o_done ?_
    refine da_phase _ [] (SO.ks [.b t, .b r, .p p] hO) ?_
    refine dx_u 5 (by kernel_rfl) rfl rfl rfl (fun w => y_move rfl) ?_
    refine dx_split 11 rfl (fun hg11 => ?_) (fun hg11 => ?_)
    · refine dx_u 6 (by kernel_rfl) rfl rfl rfl (fun w => y_move rfl) ?_
      refine dx_u 7 (by kernel_rfl) rfl rfl rfl (fun w => y_nilCheck rfl rfl) ?_
      refine dx_u 8 (by kernel_rfl) rfl rfl rfl (fun w => y_fldb (o' := 0) rfl) ?_
      refine dx_y 9 (by kernel_rfl) rfl rfl rfl (fun w ⟨m, hw⟩ => D5 hw rfl) ?_
      refine dx_u 10 (by kernel_rfl) rfl rfl rfl (fun w => y_nilCheck rfl rfl) ?_
      refine dx_u 11 (by kernel_rfl) rfl rfl rfl (fun w => y_fldb (o' := 0) rfl) ?_
      refine dx_y 12 (by kernel_rfl) rfl rfl rfl (fun w ⟨m, hw⟩ => D5 hw rfl) ?_
      refine dx_u 13 (by kernel_rfl) rfl rfl rfl (fun w => y_move rfl) ?_
      refine dx_u 18 (by kernel_rfl) rfl rfl rfl (fun w => y_move rfl) ?_
      refine dx_only 14 (by kernel_rfl) rfl rfl ?_
      have htib := tib s hg11
      refine CK [.b t, .p q] hO rfl (fun k' hx hr hO' => tTopO_spec hq (by omega) (hO := hO')) ?_
      rintro _ _ w ⟨rfl, rfl⟩ hO
      simp only [List.cons_append, List.nil_append] at hO
      refine o_done ?_
      refine ⟨SO.ks [.b t, .b r, .p p] hO, ?_⟩
      refine dx_u 15 (by kernel_rfl) rfl rfl rfl (fun w => y_idx rfl rfl) ?_
      refine dx_u 16 (by kernel_rfl) rfl rfl rfl (fun w => y_fld (j' := 2) rfl) ?_
      refine dx_y 17 (by kernel_rfl) rfl rfl rfl (fun w ⟨m, hw⟩ => y_e1 (x0 := 2) hw rfl) ?_
      refine dx_u 19 (by kernel_rfl) rfl rfl rfl (fun w => y_neS rfl rfl rfl) ?_
      refine dx_u 20 (by kernel_rfl) rfl rfl rfl (fun w => y_pick_t rfl rfl) ?_
      refine dx_end (by kernel_rfl) ?_
      refine K3 ?_
      refine c_split rfl (fun hc26 => ?_) (fun hc26 => ?_)
      · refine K5 (K3 (K4 (K0 ?_)))
        have hO := rstkL_shut (hO.ks [.b t, .p q])
        have hg12 : elB A (topI x.1) = true ∧ namA A implL (topI x.1) = true := by rw [Bool.and_eq_true] at hg11; exact hg11
        have e2 := (s.atB (elB_has hg12.1)).name
        have hyes : implA A but (topI x.1) = true := by rw [hi0, hg12.2, ← e2, Bool.true_and]; exact hc26
        have hpos : 0 < x.1.length := by
          rcases Nat.eq_zero_or_pos x.1.length with h0 | h0
          · have := hg12.1; rw [topI_nil h0, elB_none] at this; cases this
          · exact h0
        have hs3 : dropL (implA A but) l = if implA A but (topI x.1) = true then dropL (implA A but) (x.1.take (x.1.length - 1)) else x.1 := by
          rw [hs]; conv => lhs; rw [take_top hpos]
          rw [dropL_snoc, ← take_top hpos]
        refine K1 ?_
        refine l_y rfl rfl (y_move rfl) ?_
        refine CK [.o t] hO rfl (fun k' hx hr hO' => tPop_spec (by omega) (hO := hO')) ?_
        rintro _ _ w ⟨rfl, rfl⟩ hO
        simp only [List.cons_append, List.nil_append] at hO
        refine K2 (K3 (K1 ?_))
        refine l_y rfl rfl (y_move rfl) ?_
        refine l_y rfl rfl (D4) ?_
        refine l_y rfl rfl (y_assign rfl) ?_
        refine K2 (K8 ?_)
        exact q_next ((x.1.take (x.1.length - 1), x.2 + 1)) ⟨rfl, rfl, rfl, rfl, trivial⟩ ⟨hO.only [.b r, .p p, .f, .o t], ⟨he.1.take _, by simp; omega⟩, by rw [hs3, if_pos hyes], by simp; omega⟩ (by simp; omega)
      · refine K7 (L1 (L1 (L2 (K3 (K0 (K1 ?_))))))
        refine l_y rfl rfl (y_move rfl) ?_
        refine l_y rfl rfl (y_assign rfl) ?_
        refine K2 (K3 (K6 ?_))
        have hfin : dropL (implA A but) l = x.1 := by
          rcases Nat.eq_zero_or_pos x.1.length with h0 | h0
          · rw [hs, List.eq_nil_of_length_eq_zero h0]; rfl
          · have hxe : elB A (topI x.1) = true := he.1 _ (by rw [topI_at h0]; exact at_mem (by omega))
            have hno : implA A but (topI x.1) = false := by
              rw [hi0]
              rw [hxe, Bool.true_and] at hg11
              rw [hg11]
              first | rfl | (rw [← (s.atB (elB_has hxe)).name, Bool.true_and]; exact hc26)
            rw [hs]; conv => lhs; rw [take_top h0]
            rw [dropL_snoc, if_neg (by rw [hno]; simp), ← take_top h0]
        rw [hfin, ← hz]
        have hO := rstkL_shut (hO.ks [.b t, .p q])
        exact fin1 rfl rfl ⟨_, ⟨rfl, rfl⟩, ((rarL_shut hF (hO.ks [.b r, .p p, .f])).ks [.o r, .o t]).two⟩
    · refine dx_pass 6 (by kernel_rfl) rfl rfl rfl ?_
      refine dx_pass 7 (by kernel_rfl) rfl rfl rfl ?_
      refine dx_pass 8 (by kernel_rfl) rfl rfl rfl ?_
      refine dx_pass 9 (by kernel_rfl) rfl rfl rfl ?_
      refine dx_pass 10 (by kernel_rfl) rfl rfl rfl ?_
      refine dx_pass 11 (by kernel_rfl) rfl rfl rfl ?_
      refine dx_pass 12 (by kernel_rfl) rfl rfl rfl ?_
      refine dx_pass 13 (by kernel_rfl) rfl rfl rfl ?_
      refine dx_pass 14 (by kernel_rfl) rfl rfl rfl ?_
      refine dx_pass 15 (by kernel_rfl) rfl rfl rfl ?_
      refine dx_pass 16 (by kernel_rfl) rfl rfl rfl ?_
      refine dx_pass 17 (by kernel_rfl) rfl rfl rfl ?_
      refine dx_pass 18 (by kernel_rfl) rfl rfl rfl ?_
      refine dx_pass 19 (by kernel_rfl) rfl rfl rfl ?_
      refine dx_u 20 (by kernel_rfl) rfl rfl rfl (fun w => y_pick_f rfl rfl) ?_
      refine dx_end (by kernel_rfl) ?_
      refine K3 (L9 (K7 (L1 (L1 (L2 (K3 (K0 (K1 ?_))))))))
      refine l_y rfl rfl (y_move rfl) ?_
      refine l_y rfl rfl (y_assign rfl) ?_
      refine K2 (K3 (K6 ?_))
      have hfin : dropL (implA A but) l = x.1 := by
        rcases Nat.eq_zero_or_pos x.1.length with h0 | h0
        · rw [hs, List.eq_nil_of_length_eq_zero h0]; rfl
        · have hxe : elB A (topI x.1) = true := he.1 _ (by rw [topI_at h0]; exact at_mem (by omega))
          have hno : implA A but (topI x.1) = false := by
            rw [hi0]
            rw [hxe, Bool.true_and] at hg11
            rw [hg11]
            first | rfl | (rw [← (s.atB (elB_has hxe)).name, Bool.true_and]; exact hc26)
          rw [hs]; conv => lhs; rw [take_top h0]
          rw [dropL_snoc, if_neg (by rw [hno]; simp), ← take_top h0]
      rw [hfin, ← hz]
      have hO := rstkL_shut (hO.ks [.b t, .p q])
      exact fin1 rfl rfl ⟨_, ⟨rfl, rfl⟩, ((rarL_shut hF (hO.ks [.b r, .p p, .f])).ks [.o r, .o t]).two⟩
end
end Go.Proofs.Ytbhicbpfdbnpfaa
