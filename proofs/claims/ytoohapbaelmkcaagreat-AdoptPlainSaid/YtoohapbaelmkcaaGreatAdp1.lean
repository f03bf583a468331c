/- The walks of the agency's inner functions: forget, furthest. -/
import Derived.Test.YtoohapbaelmkcaaGreatStk5
import Derived.Test.YtoohapbaelmkcaaGreatAct7
set_option linter.unusedVariables false
set_option linter.unusedSimpArgs false
set_option maxRecDepth 100000
namespace Go.Proofs.YtoohapbaelmkcaaGreat
open Go Go.Hb Go.RowKit
abbrev agB (g a s l : Nat) (nm : ByteArray) (fo : Bool) (errs mark : Int) : HP := blk g 82 [.pointer (some ⟨a, 0, none⟩), .pointer (some ⟨s, 0, none⟩), .pointer (some ⟨l, 0, none⟩), .string nm, .bool fo, .int .i64 errs, .int .i64 mark]
def forgetF (L : List Api_entry) (mark id : Int) : List Api_entry × Int :=
  if findE L id < 0 then (L, mark) else if (removeE L id).1 = 0 ∧ findE L id < mark then ((removeE L id).2, mark - 1) else ((removeE L id).2, mark)
def furthF (A : List Node_one) (st : List Int) (f : Int) : Int := ((st.drop (findI st f + 1).toNat).find? (specA A)).getD (-1)
section
variable {k : Ctx} {w : World} {g a s l : Nat} {nm : ByteArray} {fo : Bool} {errs mark : Int} {A : List Node_one} {st : List Int} {L : List Api_entry}
set_option maxHeartbeats 1000000 in
theorem forget_spec {id : Int} (hm : -1000000000 ≤ mark ∧ mark ≤ 1000000000) (hl : L.length ≤ 2000000) (hO : Own k w [agB g a s l nm fo errs mark, actL l a L]) :
    Tri Tryz.prog 77 #[.pointer (some ⟨g, 0, none⟩), .int .i64 id] k w fun v m => m = [agB g a s l nm fo errs (forgetF L mark id).2, actL l a (forgetF L mark id).1] := by
  refine enter (args := [.pointer (some ⟨g, 0, none⟩), .int .i64 id]) Tryz.func77 rfl rfl ?_
  refine K0 (K1 ?_)
  refine l_y rfl rfl (y_move rfl) ?_
  refine l_y rfl rfl (y_nilCheck rfl rfl) ?_
  refine l_y rfl rfl (y_fldb (o' := 2) rfl) ?_
  refine l_y rfl rfl (D5 hO rfl) ?_
  refine l_y rfl rfl (y_move rfl) ?_
  refine CK [.o l] hO rfl (fun k' hx hr hO' => aFind_spec hl (hO := hO')) ?_
  rintro _ _ w ⟨rfl, rfl⟩ hO
  simp only [List.cons_append, List.nil_append] at hO
  refine l_y rfl rfl (y_assign rfl) ?_
  refine K2 (K3 (K0 (K1 ?_)))
  refine l_y rfl rfl (y_move rfl) ?_
  refine Z0 (fun h1_1 => ?_) (fun h1_1 => ?_)
  · refine l_y rfl rfl (y_move rfl) ?_
    refine l_y rfl rfl (y_move rfl) ?_
    refine l_y rfl rfl (y_nilCheck rfl rfl) ?_
    refine l_y rfl rfl (y_fldb (o' := 2) rfl) ?_
    refine l_y rfl rfl (D5 hO rfl) ?_
    refine l_y rfl rfl (y_move rfl) ?_
    refine CK [.o l] hO rfl (fun k' hx hr hO' => aRemove_spec (id := id) hl (hO := hO')) ?_
    rintro _ _ w ⟨rfl, rfl⟩ hO
    simp only [List.cons_append, List.nil_append] at hO
    refine Z0 (fun h1_9 => ?_) (fun h1_9 => ?_)
    · refine l_y rfl rfl (y_pick_t rfl rfl) ?_
      refine l_y rfl rfl (y_move rfl) ?_
      refine l_y rfl rfl (y_move rfl) ?_
      refine l_y rfl rfl (y_move rfl) ?_
      refine l_y rfl rfl (y_nilCheck rfl rfl) ?_
      refine l_y rfl rfl (y_fldb (o' := 6) rfl) ?_
      refine l_y rfl rfl (D5 hO rfl) ?_
      refine Z0 (fun h1_17 => ?_) (fun h1_17 => ?_)
      · refine l_y rfl rfl (y_pick_t rfl rfl) ?_
        refine K2 (K3 (L8 (K1 ?_)))
        refine l_y rfl rfl (y_move rfl) ?_
        refine l_y rfl rfl (y_nilCheck rfl rfl) ?_
        refine l_y rfl rfl (y_fldb (o' := 6) rfl) ?_
        refine l_y rfl rfl (D5 hO rfl) ?_
        refine l_y rfl rfl (D4) ?_
        refine l_y rfl rfl (y_nilCheck rfl rfl) ?_
        refine l_y rfl rfl (y_fldb (o' := 6) rfl) ?_
        refine Y1 hO rfl rfl (fun w hO => ?_)
        simp only [List.set_cons_zero, List.set_cons_succ] at hO
        refine K2 ?_
        first
          | (have e : forgetF L mark id = ((removeE L id).2, mark - 1) := by rw [forgetF, if_neg (by omega), if_pos ⟨by omega, by omega⟩]
             rw [e]; exact fin0 rfl ⟨_, rfl, (hO.ks [.b g, .o l])⟩)
          | (have e : forgetF L mark id = (L, mark) := by rw [forgetF, if_pos (by omega)]
             rw [e]; exact fin0 rfl ⟨_, rfl, (hO.ks [.b g, .o l])⟩)
          | (have e : forgetF L mark id = ((removeE L id).2, mark) := by rw [forgetF, if_neg (by omega), if_neg (by omega)]
             rw [e]; exact fin0 rfl ⟨_, rfl, (hO.ks [.b g, .o l])⟩)
      · refine l_y rfl rfl (y_pick_t rfl rfl) ?_
        refine K2 (K3 (L9 (K5 ?_)))
        first
          | (have e : forgetF L mark id = ((removeE L id).2, mark - 1) := by rw [forgetF, if_neg (by omega), if_pos ⟨by omega, by omega⟩]
             rw [e]; exact fin0 rfl ⟨_, rfl, (hO.ks [.b g, .o l])⟩)
          | (have e : forgetF L mark id = (L, mark) := by rw [forgetF, if_pos (by omega)]
             rw [e]; exact fin0 rfl ⟨_, rfl, (hO.ks [.b g, .o l])⟩)
          | (have e : forgetF L mark id = ((removeE L id).2, mark) := by rw [forgetF, if_neg (by omega), if_neg (by omega)]
             rw [e]; exact fin0 rfl ⟨_, rfl, (hO.ks [.b g, .o l])⟩)
    · refine l_y rfl rfl (y_pick_t rfl rfl) ?_
      refine l_y rfl rfl (y_move rfl) ?_
      repeat refine M2 ?_
      refine l_y rfl rfl (y_pick_f rfl rfl) ?_
      refine K2 (K3 (L9 (K5 ?_)))
      first
        | (have e : forgetF L mark id = ((removeE L id).2, mark - 1) := by rw [forgetF, if_neg (by omega), if_pos ⟨by omega, by omega⟩]
           rw [e]; exact fin0 rfl ⟨_, rfl, (hO.ks [.b g, .o l])⟩)
        | (have e : forgetF L mark id = (L, mark) := by rw [forgetF, if_pos (by omega)]
           rw [e]; exact fin0 rfl ⟨_, rfl, (hO.ks [.b g, .o l])⟩)
        | (have e : forgetF L mark id = ((removeE L id).2, mark) := by rw [forgetF, if_neg (by omega), if_neg (by omega)]
           rw [e]; exact fin0 rfl ⟨_, rfl, (hO.ks [.b g, .o l])⟩)
  · refine l_y rfl rfl (y_move rfl) ?_
    repeat refine M2 ?_
    refine l_y rfl rfl (y_pick_f rfl rfl) ?_
    refine l_y rfl rfl (y_move rfl) ?_
    repeat refine M2 ?_
    refine l_y rfl rfl (y_pick_f rfl rfl) ?_
    refine K2 (K3 (L9 (K5 ?_)))
    first
      | (have e : forgetF L mark id = ((removeE L id).2, mark - 1) := by rw [forgetF, if_neg (by omega), if_pos ⟨by omega, by omega⟩]
         rw [e]; exact fin0 rfl ⟨_, rfl, (hO.ks [.b g, .o l])⟩)
      | (have e : forgetF L mark id = (L, mark) := by rw [forgetF, if_pos (by omega)]
         rw [e]; exact fin0 rfl ⟨_, rfl, (hO.ks [.b g, .o l])⟩)
      | (have e : forgetF L mark id = ((removeE L id).2, mark) := by rw [forgetF, if_neg (by omega), if_neg (by omega)]
         rw [e]; exact fin0 rfl ⟨_, rfl, (hO.ks [.b g, .o l])⟩)
set_option maxHeartbeats 1000000 in
theorem furthest_spec {f : Int} (hn : 0 < A.length) (ha : AttrsOk A) (hl : st.length ≤ 1000000) (hO : Own k w [agB g a s l nm fo errs mark, arenaL a A, stkL s a st]) :
    Tri Tryz.prog 76 #[.pointer (some ⟨g, 0, none⟩), .int .i64 f] k w fun v m => v = .int .i64 (furthF A st f) ∧ m = [agB g a s l nm fo errs mark, arenaL a A, stkL s a st] := by
  refine enter (args := [.pointer (some ⟨g, 0, none⟩), .int .i64 f]) Tryz.func76 rfl rfl ?_
  have hfb := @findI_lt st f
  have hfg := @findI_ge st f
  refine K0 (K1 ?_)
  refine l_y rfl rfl (y_assign rfl) ?_
  refine K2 (K3 (K0 (K0 (K1 ?_))))
  refine l_y rfl rfl (y_move rfl) ?_
  refine l_y rfl rfl (y_nilCheck rfl rfl) ?_
  refine l_y rfl rfl (y_fldb (o' := 1) rfl) ?_
  refine l_y rfl rfl (D5 hO rfl) ?_
  refine l_y rfl rfl (y_move rfl) ?_
  refine CK [.o s] hO rfl (fun k' hx hr hO' => sFindC_spec hl (hO := hO')) ?_
  rintro _ _ w ⟨rfl, rfl⟩ hO
  simp only [List.cons_append, List.nil_append] at hO
  refine l_y rfl rfl (D4) ?_
  refine l_y rfl rfl (y_assign rfl) ?_
  refine K2 (K3 (K4 ?_))
  refine c_rounds (X := Int) (fun i => [(0, .pointer (some ⟨g, 0, none⟩)), (4, .int .i64 0), (5, .int .i64 i)]) (fun i w => Own k w [agB g a s l nm fo errs mark, arenaL a A, stkL s a st] ∧ (0 ≤ i ∧ i ≤ st.length) ∧ (furthF A st f = ((st.drop i.toNat).find? (specA A)).getD (-1))) (fun i => st.length - i.toNat) (findI st f + 1) ⟨rfl, rfl, rfl, trivial⟩ ⟨hO.only [.b g, .o a, .o s], by omega, rfl⟩ ?_
  rintro i w m hm ⟨hO, hi, hf⟩
  refine K0 (K0 (K1 ?_))
  refine l_y rfl rfl (y_move rfl) ?_
  refine l_y rfl rfl (y_move rfl) ?_
  refine l_y rfl rfl (y_nilCheck rfl rfl) ?_
  refine l_y rfl rfl (y_fldb (o' := 1) rfl) ?_
  refine l_y rfl rfl (D5 hO rfl) ?_
  refine CK [.o s] hO rfl (fun k' hx hr hO' => sLenC_spec (hO := hO')) ?_
  rintro _ _ w ⟨rfl, rfl⟩ hO
  simp only [List.cons_append, List.nil_append] at hO
  refine Z0 (fun h2_6 => ?_) (fun h2_6 => ?_)
  · refine K2 (K3 (L8 (K5 (K3 (K0 (K4 (K0 ?_)))))))
    have hdr : st.drop i.toNat = at_ st i.toNat :: st.drop (i.toNat + 1) := Go.Hb.drop_at (by omega)
    have hat : atI st i = at_ st i.toNat := by rw [atI, if_neg (by omega)]
    refine da_region (by intro c a d v w h; cases d <;> exact h) ?_
    have hO := hO.drew
    refine da_phase _ [10] (SO.ks [.b g] hO) ?_
    refine dx_u 0 (by kernel_rfl) rfl rfl rfl (fun w => y_move rfl) ?_
    refine dx_u 1 (by kernel_rfl) rfl rfl rfl (fun w => y_nilCheck rfl rfl) ?_
    refine dx_u 2 (by kernel_rfl) rfl rfl rfl (fun w => y_fldb (o' := 1) rfl) ?_
    refine dx_y 3 (by kernel_rfl) rfl rfl rfl (fun w ⟨m, hw⟩ => D5 hw rfl) ?_
    refine dx_u 4 (by kernel_rfl) rfl rfl rfl (fun w => y_move rfl) ?_
    refine dx_u 5 (by kernel_rfl) rfl rfl rfl (fun w => y_nilCheck rfl rfl) ?_
    refine dx_u 6 (by kernel_rfl) rfl rfl rfl (fun w => y_fldb (o' := 1) rfl) ?_
    refine dx_y 7 (by kernel_rfl) rfl rfl rfl (fun w ⟨m, hw⟩ => D5 hw rfl) ?_
    refine dx_u 8 (by kernel_rfl) rfl rfl rfl (fun w => y_move rfl) ?_
    refine dx_only 9 (by kernel_rfl) rfl rfl ?_
    refine CK [.o s] hO rfl (fun k' hx hr hO' => sAtC_spec hl (hO := hO')) ?_
    rintro _ _ w ⟨rfl, rfl⟩ hO
    simp only [List.cons_append, List.nil_append] at hO
    refine o_done ?_
    refine ⟨SO.ks [.b g] hO, ?_⟩
    refine dx_close 10 (by kernel_rfl) rfl rfl ?_
    refine CK [.o a, .o s] hO rfl (fun k' hx hr hO' => sSpecial_spec hn ha (hO := hO')) ?_
    rintro _ _ w ⟨rfl, rfl⟩ hO
    simp only [List.cons_append, List.nil_append] at hO
    rw [hat]
    refine o_done ?_
    refine da_end (by kernel_rfl) ?_
    refine K3 ?_
    refine c_split rfl (fun hc32 => ?_) (fun hc32 => ?_)
    · refine K0 (K1 ?_)
      refine l_y rfl rfl (y_move rfl) ?_
      refine l_y rfl rfl (y_nilCheck rfl rfl) ?_
      refine l_y rfl rfl (y_fldb (o' := 1) rfl) ?_
      refine l_y rfl rfl (D5 hO rfl) ?_
      refine l_y rfl rfl (y_move rfl) ?_
      refine CK [.o s] hO rfl (fun k' hx hr hO' => sAtC_spec hl (hO := hO')) ?_
      rintro _ _ w ⟨rfl, rfl⟩ hO
      simp only [List.cons_append, List.nil_append] at hO
      rw [hat]
      refine l_y rfl rfl (y_assign rfl) ?_
      refine K2 (K3 (K6 (L0 (K9 (K9 (L0 (K9 ?_)))))))
      exact fin1 rfl rfl ⟨_, ⟨by rw [hf, hdr, List.find?_cons, hc32]; rfl, rfl⟩, hO.ks [.b g, .o a, .o s]⟩
    · refine K5 (K8 (K3 (K1 ?_)))
      refine l_y rfl rfl (y_move rfl) ?_
      refine l_y rfl rfl (D4) ?_
      refine l_y rfl rfl (y_assign rfl) ?_
      refine K2 ?_
      exact q_next (i + 1) ⟨rfl, rfl, rfl, trivial⟩ ⟨hO.only [.b g, .o a, .o s], by omega, by rw [hf, hdr, List.find?_cons, hc32]; rw [show (i + 1).toNat = i.toNat + 1 by omega]⟩ (by omega)
  · refine K2 (K3 (L9 (K7 (L1 (L1 (L2 (K3 (K0 (K1 ?_)))))))))
    refine l_y rfl rfl (y_assign rfl) ?_
    refine K2 (K3 (K6 ?_))
    exact fin1 rfl rfl ⟨_, ⟨by rw [hf, List.drop_eq_nil_of_le (by omega)]; rfl, rfl⟩, hO.ks [.b g, .o a, .o s]⟩
end
end Go.Proofs.YtoohapbaelmkcaaGreat
