/- The walk of a round of the agency where there is no block above the formatting element. -/
import Derived.Test.YtoohapbaelmkcaaGreatAdp1
set_option linter.unusedVariables false
set_option linter.unusedSimpArgs false
set_option maxRecDepth 100000
namespace Go.Proofs.YtoohapbaelmkcaaGreat
open Go Go.Hb Go.RowKit
section
variable {k : Ctx} {w : World} {g a s l : Nat} {nm : ByteArray} {fo : Bool} {errs mark : Int} {A : List Node_one} {st : List Int} {L : List Api_entry}
set_option maxHeartbeats 2000000 in
theorem roundP_spec {f at' : Int} (hn : 0 < A.length) (ha : AttrsOk A) (hl : st.length ≤ 1000000) (hL : L.length ≤ 2000000) (hmk : -1000000000 ≤ mark ∧ mark ≤ 1000000000) (hel : AllEl A st) (hne : ∀ x ∈ st, x ≠ -1) (hb : ∀ e ∈ L, e.Node ≠ -1 → hasB A e.Node = true)
    (hf : lastE A L nm (bk L L.length) = f) (hf1 : f ≠ -1) (hat : findI st f = at') (hat0 : 0 ≤ at') (hsc : scopeL A (fun x => decide (x = f)) 0 st = true) (htop : topI st = f) (hfu : furthF A st f = -1)
    (hO : Own k w [agB g a s l nm fo errs mark, arenaL a A, stkL s a st, actL l a L]) :
    Tri Tryz.prog 38 #[.pointer (some ⟨g, 0, none⟩)] k w fun v m => v = .tuple #[.bool true, .bool false] ∧ m = [agB g a s l nm fo errs (forgetF L mark f).2, arenaL a A, stkL s a (st.take at'.toNat), actL l a (forgetF L mark f).1] := by
  refine enter (args := [.pointer (some ⟨g, 0, none⟩)]) Tryz.func38 rfl rfl ?_
  have hlt := @findI_lt st f
  refine K0 (K1 ?_)
  refine l_y rfl rfl (y_assign rfl) ?_
  refine l_y rfl rfl (y_assign rfl) ?_
  refine K2 (K3 (L6 (K0 ?_)))
  refine da_region (by intro c a d v w h; cases d <;> exact h) ?_
  have hO := hO.drew
  refine da_phase _ [8] (SO.ks [.b g] hO) ?_
  refine dx_u 0 (by kernel_rfl) rfl rfl rfl (fun w => y_move rfl) ?_
  refine dx_u 1 (by kernel_rfl) rfl rfl rfl (fun w => y_nilCheck rfl rfl) ?_
  refine dx_u 2 (by kernel_rfl) rfl rfl rfl (fun w => y_fldb (o' := 2) rfl) ?_
  refine dx_y 3 (by kernel_rfl) rfl rfl rfl (fun w ⟨m, hw⟩ => D5 hw rfl) ?_
  refine dx_u 4 (by kernel_rfl) rfl rfl rfl (fun w => y_move rfl) ?_
  refine dx_u 5 (by kernel_rfl) rfl rfl rfl (fun w => y_nilCheck rfl rfl) ?_
  refine dx_u 6 (by kernel_rfl) rfl rfl rfl (fun w => y_fldb (o' := 3) rfl) ?_
  refine dx_y 7 (by kernel_rfl) rfl rfl rfl (fun w ⟨m, hw⟩ => D5 hw rfl) ?_
  refine dx_close 8 (by kernel_rfl) rfl rfl ?_
  refine CK [.o a, .o l] hO rfl (fun k' hx hr hO' => aLast_spec (nm := nm) hn ha hL hb (hO := hO')) ?_
  rintro _ _ w ⟨rfl, rfl⟩ hO
  simp only [List.cons_append, List.nil_append] at hO
  rw [hf]
  refine o_done ?_
  refine da_phase _ [] (SO.ks [] hO) ?_
  refine dx_u 9 (by kernel_rfl) rfl rfl rfl (fun w => y_assign rfl) ?_
  refine dx_end (by kernel_rfl) ?_
  refine K3 (K0 (K0 (K1 ?_)))
  refine l_y rfl rfl (y_move rfl) ?_
  refine N3 (hp := hf1) ?_
  refine K2 (K3 (L9 (K5 (K3 (K0 (K1 ?_))))))
  refine l_y rfl rfl (y_move rfl) ?_
  refine l_y rfl rfl (y_nilCheck rfl rfl) ?_
  refine l_y rfl rfl (y_fldb (o' := 1) rfl) ?_
  refine l_y rfl rfl (D5 hO rfl) ?_
  refine l_y rfl rfl (y_move rfl) ?_
  refine CK [.o s] hO rfl (fun k' hx hr hO' => sFindC_spec hl (hO := hO')) ?_
  rintro _ _ w ⟨rfl, rfl⟩ hO
  simp only [List.cons_append, List.nil_append] at hO
  rw [hat]
  refine l_y rfl rfl (y_assign rfl) ?_
  refine K2 (K3 (K0 (K1 ?_)))
  refine l_y rfl rfl (y_assign rfl) ?_
  refine K2 (K3 (K0 (K0 (K1 ?_))))
  refine l_y rfl rfl (y_move rfl) ?_
  refine N3 (hp := (by omega)) ?_
  refine K2 (K3 (L9 (K5 (K3 (K0 (K0 (K1 ?_)))))))
  refine l_y rfl rfl (y_move rfl) ?_
  refine l_y rfl rfl (y_nilCheck rfl rfl) ?_
  refine l_y rfl rfl (y_fldb (o' := 1) rfl) ?_
  refine l_y rfl rfl (D5 hO rfl) ?_
  refine l_y rfl rfl (y_move rfl) ?_
  refine CK [.o a, .o s] hO rfl (fun k' hx hr hO' => sNodeScope_spec hn ha hel hl (hO := hO')) ?_
  rintro _ _ w ⟨rfl, rfl⟩ hO
  simp only [List.cons_append, List.nil_append] at hO
  rw [hsc]
  refine l_y rfl rfl (y_not rfl rfl) ?_
  refine K2 (K3 (L9 (K5 (K3 (K0 (K0 (K1 ?_)))))))
  refine l_y rfl rfl (y_move rfl) ?_
  refine l_y rfl rfl (y_nilCheck rfl rfl) ?_
  refine l_y rfl rfl (y_fldb (o' := 1) rfl) ?_
  refine l_y rfl rfl (D5 hO rfl) ?_
  refine CK [.o s] hO rfl (fun k' hx hr hO' => sTopC_spec (x := 0) hl (hO := hO')) ?_
  rintro _ _ w ⟨rfl, rfl⟩ hO
  simp only [List.cons_append, List.nil_append] at hO
  rw [htop]
  refine l_y rfl rfl (y_move rfl) ?_
  refine N4 (hp := rfl) ?_
  refine K2 (K3 (L9 (K5 (K3 (K0 (K0 (K1 ?_)))))))
  refine l_y rfl rfl (y_move rfl) ?_
  refine l_y rfl rfl (y_move rfl) ?_
  refine CK [.b g, .o a, .o s] hO rfl (fun k' hx hr hO' => furthest_spec (f := f) hn ha hl (hO := hO')) ?_
  rintro _ _ w ⟨rfl, rfl⟩ hO
  simp only [List.cons_append, List.nil_append] at hO
  rw [hfu]
  have hO : Own k w [agB g a s l nm fo errs mark, arenaL a A, stkL s a (st.take st.length), actL l a L] := by rw [List.take_length]; exact hO.ks [.b g, .o a, .o s, .o l]
  refine l_y rfl rfl (y_assign rfl) ?_
  refine K2 (K3 (K0 (K1 ?_)))
  refine l_y rfl rfl (y_move rfl) ?_
  refine N2 (hp := rfl) ?_
  refine K2 (K3 (L8 (K0 (K4 ?_))))
  refine c_rounds (X := Nat) (fun n => [(0, .pointer (some ⟨g, 0, none⟩)), (2, .bool false), (3, .bool false), (4, .int .i64 f), (5, .int .i64 at'), (6, .int .i64 (-1))]) (fun n w => Own k w [agB g a s l nm fo errs mark, arenaL a A, stkL s a (st.take n), actL l a L] ∧ (at' ≤ n ∧ n ≤ st.length)) (fun n => n) (st.length) ⟨rfl, rfl, rfl, rfl, rfl, rfl, trivial⟩ ⟨hO.only [.b g, .o a, .o s, .o l], ⟨by omega, Nat.le_refl _⟩⟩ ?_
  rintro n w m hm ⟨hO, hi⟩
  refine K0 (K0 (K1 ?_))
  refine l_y rfl rfl (y_move rfl) ?_
  refine l_y rfl rfl (y_nilCheck rfl rfl) ?_
  refine l_y rfl rfl (y_fldb (o' := 1) rfl) ?_
  refine l_y rfl rfl (D5 hO rfl) ?_
  have hln : (st.take n).length = n := by simp; omega
  refine CK [.o s] hO rfl (fun k' hx hr hO' => sLenC_spec (hO := hO')) ?_
  rintro _ _ w ⟨rfl, rfl⟩ hO
  simp only [List.cons_append, List.nil_append] at hO
  refine l_y rfl rfl (y_move rfl) ?_
  refine Z0 (fun h14_6 => ?_) (fun h14_6 => ?_)
  · refine K2 (K3 (L8 (K5 (K3 (K4 (K1 ?_))))))
    refine l_y rfl rfl (y_move rfl) ?_
    refine l_y rfl rfl (y_nilCheck rfl rfl) ?_
    refine l_y rfl rfl (y_fldb (o' := 1) rfl) ?_
    refine l_y rfl rfl (D5 hO rfl) ?_
    refine CK [.o s] hO rfl (fun k' hx hr hO' => sPop_spec (by omega) (fun x hx => hne x (List.mem_of_mem_take hx)) (hO := hO')) ?_
    rintro _ _ w ⟨rfl, rfl⟩ hO
    simp only [List.cons_append, List.nil_append] at hO
    rw [hln, List.take_take, show min (n - 1) n = n - 1 by omega] at hO
    refine K2 (K8 ?_)
    exact q_next (n - 1) ⟨rfl, rfl, rfl, rfl, rfl, rfl, trivial⟩ ⟨hO.only [.b g, .o a, .o s, .o l], by omega⟩ (by omega)
  · refine K2 (K3 (L9 (K7 (L1 (L1 (L2 (K3 (K0 (K1 ?_)))))))))
    refine l_y rfl rfl (y_move rfl) ?_
    refine l_y rfl rfl (y_move rfl) ?_
    refine CK [.b g, .o l] hO rfl (fun k' hx hr hO' => forget_spec (id := f) hmk hL (hO := hO')) ?_
    rintro _ _ w rfl hO
    simp only [List.cons_append, List.nil_append] at hO
    refine K2 (K3 (K0 (K1 ?_)))
    refine l_y rfl rfl (y_assign rfl) ?_
    refine l_y rfl rfl (y_assign rfl) ?_
    refine K2 (K3 (K6 (K9 (L4 ?_))))
    have hnn : n = at'.toNat := by omega
    rw [hnn] at hO
    exact fin2 rfl rfl rfl ⟨_, ⟨rfl, rfl⟩, hO.ks [.b g, .o a, .o s, .o l]⟩
end
end Go.Proofs.YtoohapbaelmkcaaGreat
