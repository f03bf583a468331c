/- The walks of the laws of the stack. -/
import Derived.Test.YtbhicbpfdbnpfaaStk11
set_option linter.unusedVariables false
set_option linter.unusedSimpArgs false
set_option maxRecDepth 100000
namespace Go.Proofs.Ytbhicbpfdbnpfaa
open Go Go.Hb Go.RowKit Go.ChangeShapes Go.WideShapes Go.ChangeAt
section
variable {k : Ctx} {w : World} {a r s z : Nat} {A : List Node_one} {K : Int → List Int} {R : List Ref01_one} {l : List Int}
set_option maxHeartbeats 4000000 in
theorem play12_spec {o : Law12_op} (t : Two A K R) (hsp : SpOk A) (hI : StkI A l) (hO : Own k w [arenaL a A, rarL r R, stkL s a l, rstkL z r l]) :
    Tri Try.prog 32 #[.pointer (some ⟨s, 0, none⟩), .pointer (some ⟨z, 0, none⟩), .agg (Law12_op.cells o).toArray] k w fun v m => v = .bool true ∧ ∃ l', StkI A l' ∧ m = [arenaL a A, rarL r R, stkL s a l', rstkL z r l'] := by
  refine enter (args := [.pointer (some ⟨s, 0, none⟩), .pointer (some ⟨z, 0, none⟩), .agg (Law12_op.cells o).toArray]) Try.func32 rfl rfl ?_
  have hl1 : l.length ≤ 1000000 := Nat.le_trans hI.len (Nat.le_trans t.max (by decide))
  refine K0 (K1 ?_)
  refine s_box (vs := [.int .i64 o.What, .int .i64 o.A, .int .i64 o.B, .int .i64 o.N, .string o.Text]) hO rfl rfl rfl (by rfl) fun b5 w hO => ?_
  refine l_y rfl rfl (y_assign rfl) ?_
  refine K2 (K3 (K0 (K0 (K1 ?_))))
  refine l_y rfl rfl (y_fldb (o' := 0) rfl) ?_
  refine l_y rfl rfl (D5 hO rfl) ?_
  refine K2 (K3 (K4 (K0 (K1 ?_))))
  refine Z0 (fun h2_0 => ?_) (fun h2_0 => ?_)
  · refine l_y rfl rfl (y_assign rfl) ?_
    refine K2 (K3 (L8 (K0 ?_)))
    refine da_region (by intro c a d v w h; cases d <;> exact h) ?_
    have hO := hO.drew
    refine da_phase _ [7] (SO.ks [.b b5] hO) ?_
    refine dx_u 0 (by kernel_rfl) rfl rfl rfl (fun w => y_move rfl) ?_
    refine dx_u 1 (by kernel_rfl) rfl rfl rfl (fun w => y_fldb (o' := 1) rfl) ?_
    refine dx_y 2 (by kernel_rfl) rfl rfl rfl (fun w ⟨m, hw⟩ => D5 hw rfl) ?_
    refine dx_u 4 (by kernel_rfl) rfl rfl rfl (fun w => y_move rfl) ?_
    refine dx_u 5 (by kernel_rfl) rfl rfl rfl (fun w => y_fldb (o' := 1) rfl) ?_
    refine dx_y 6 (by kernel_rfl) rfl rfl rfl (fun w ⟨m, hw⟩ => D5 hw rfl) ?_
    refine dx_only 3 (by kernel_rfl) rfl rfl ?_
    refine CK [.o a, .o s] hO rfl (fun k' hx hr hO' => sPush_spec t.pos t.tree.attrs hl1 (hO := hO')) ?_
    rintro _ _ w ⟨rfl, rfl⟩ hO
    simp only [List.cons_append, List.nil_append] at hO
    refine o_done ?_
    refine ⟨SO.ks [.b b5] hO, ?_⟩
    refine dx_close 7 (by kernel_rfl) rfl rfl ?_
    refine CK [.o r, .o z] hO rfl (fun k' hx hr hO' => tPush_spec t.sim hI.nodup hl1 (hO := hO')) ?_
    rintro _ _ w ⟨rfl, rfl⟩ hO
    simp only [List.cons_append, List.nil_append] at hO
    refine o_done ?_
    refine da_phase _ [] (SO.ks [] hO) ?_
    refine dx_y 8 (by kernel_rfl) rfl rfl rfl (fun w ⟨m, hw⟩ => D0 (hp := rfl)) ?_
    refine dx_u 9 (by kernel_rfl) rfl rfl rfl (fun w => y_assign rfl) ?_
    refine dx_end (by kernel_rfl) ?_
    refine K3 (K6 (L0 (K9 ?_)))
    refine fin1 rfl rfl ⟨_, ⟨rfl, _, ?_, rfl⟩, hO.only [.o a, .o r, .o s, .o z]⟩
    first | exact hI | exact hI.push | exact hI.take _ | exact hI.remove | exact hI.put | exact hI.swap | exact hI.popTo | exact hI.drop
  · refine l_y rfl rfl (y_assign rfl) ?_
    refine K2 (K3 (L9 (K0 (K1 ?_))))
    refine Z0 (fun h4_0 => ?_) (fun h4_0 => ?_)
    · refine l_y rfl rfl (y_assign rfl) ?_
      refine K2 (K3 (L8 (K0 (K1 ?_))))
      refine l_y rfl rfl (y_move rfl) ?_
      refine CK [.o s] hO rfl (fun k' hx hr hO' => sPop_spec hl1 hI.el.ne (hO := hO')) ?_
      rintro _ _ w ⟨rfl, rfl⟩ hO
      simp only [List.cons_append, List.nil_append] at hO
      refine l_y rfl rfl (y_move rfl) ?_
      refine CK [.o z] hO rfl (fun k' hx hr hO' => tPop_spec hl1 (hO := hO')) ?_
      rintro _ _ w ⟨rfl, rfl⟩ hO
      simp only [List.cons_append, List.nil_append] at hO
      refine N2 (hp := rfl) ?_
      refine l_y rfl rfl (y_assign rfl) ?_
      refine K2 (K3 (K6 (L0 (K9 ?_))))
      refine fin1 rfl rfl ⟨_, ⟨rfl, _, ?_, rfl⟩, hO.only [.o a, .o r, .o s, .o z]⟩
      first | exact hI | exact hI.push | exact hI.take _ | exact hI.remove | exact hI.put | exact hI.swap | exact hI.popTo | exact hI.drop
    · refine l_y rfl rfl (y_assign rfl) ?_
      refine K2 (K3 (L9 (K0 (K1 ?_))))
      refine Z0 (fun h6_0 => ?_) (fun h6_0 => ?_)
      · refine l_y rfl rfl (y_assign rfl) ?_
        refine K2 (K3 (L8 (K0 ?_)))
        refine da_region (by intro c a d v w h; cases d <;> exact h) ?_
        have hO := hO.drew
        refine da_phase _ [7] (SO.ks [.b b5] hO) ?_
        refine dx_u 0 (by kernel_rfl) rfl rfl rfl (fun w => y_move rfl) ?_
        refine dx_u 1 (by kernel_rfl) rfl rfl rfl (fun w => y_fldb (o' := 1) rfl) ?_
        refine dx_y 2 (by kernel_rfl) rfl rfl rfl (fun w ⟨m, hw⟩ => D5 hw rfl) ?_
        refine dx_u 4 (by kernel_rfl) rfl rfl rfl (fun w => y_move rfl) ?_
        refine dx_u 5 (by kernel_rfl) rfl rfl rfl (fun w => y_fldb (o' := 1) rfl) ?_
        refine dx_y 6 (by kernel_rfl) rfl rfl rfl (fun w ⟨m, hw⟩ => D5 hw rfl) ?_
        refine dx_only 3 (by kernel_rfl) rfl rfl ?_
        refine CK [.o s] hO rfl (fun k' hx hr hO' => sRemove_spec hl1 (hO := hO')) ?_
        rintro _ _ w ⟨rfl, rfl⟩ hO
        simp only [List.cons_append, List.nil_append] at hO
        refine o_done ?_
        refine ⟨SO.ks [.b b5] hO, ?_⟩
        refine dx_close 7 (by kernel_rfl) rfl rfl ?_
        refine CK [.o z] hO rfl (fun k' hx hr hO' => tRemove_spec hI.nodup hl1 (hO := hO')) ?_
        rintro _ _ w ⟨rfl, rfl⟩ hO
        simp only [List.cons_append, List.nil_append] at hO
        refine o_done ?_
        refine da_phase _ [] (SO.ks [] hO) ?_
        refine dx_y 8 (by kernel_rfl) rfl rfl rfl (fun w ⟨m, hw⟩ => D0 (hp := rfl)) ?_
        refine dx_u 9 (by kernel_rfl) rfl rfl rfl (fun w => y_assign rfl) ?_
        refine dx_end (by kernel_rfl) ?_
        refine K3 (K6 (L0 (K9 ?_)))
        refine fin1 rfl rfl ⟨_, ⟨rfl, _, ?_, rfl⟩, hO.only [.o a, .o r, .o s, .o z]⟩
        first | exact hI | exact hI.push | exact hI.take _ | exact hI.remove | exact hI.put | exact hI.swap | exact hI.popTo | exact hI.drop
      · refine l_y rfl rfl (y_assign rfl) ?_
        refine K2 (K3 (L9 (K0 (K1 ?_))))
        refine Z0 (fun h8_0 => ?_) (fun h8_0 => ?_)
        · refine l_y rfl rfl (y_assign rfl) ?_
          refine K2 (K3 (L8 (K0 ?_)))
          refine da_region (by intro c a d v w h; cases d <;> exact h) ?_
          have hO := hO.drew
          refine da_phase _ [11] (SO.ks [.b b5] hO) ?_
          refine dx_u 0 (by kernel_rfl) rfl rfl rfl (fun w => y_move rfl) ?_
          refine dx_u 1 (by kernel_rfl) rfl rfl rfl (fun w => y_fldb (o' := 3) rfl) ?_
          refine dx_y 2 (by kernel_rfl) rfl rfl rfl (fun w ⟨m, hw⟩ => D5 hw rfl) ?_
          refine dx_u 3 (by kernel_rfl) rfl rfl rfl (fun w => y_fldb (o' := 1) rfl) ?_
          refine dx_y 4 (by kernel_rfl) rfl rfl rfl (fun w ⟨m, hw⟩ => D5 hw rfl) ?_
          refine dx_u 6 (by kernel_rfl) rfl rfl rfl (fun w => y_move rfl) ?_
          refine dx_u 7 (by kernel_rfl) rfl rfl rfl (fun w => y_fldb (o' := 3) rfl) ?_
          refine dx_y 8 (by kernel_rfl) rfl rfl rfl (fun w ⟨m, hw⟩ => D5 hw rfl) ?_
          refine dx_u 9 (by kernel_rfl) rfl rfl rfl (fun w => y_fldb (o' := 1) rfl) ?_
          refine dx_y 10 (by kernel_rfl) rfl rfl rfl (fun w ⟨m, hw⟩ => D5 hw rfl) ?_
          refine dx_only 5 (by kernel_rfl) rfl rfl ?_
          refine CK [.o a, .o s] hO rfl (fun k' hx hr hO' => sPut_spec t.pos t.tree.attrs hl1 (hO := hO')) ?_
          rintro _ _ w ⟨rfl, rfl⟩ hO
          simp only [List.cons_append, List.nil_append] at hO
          refine o_done ?_
          refine ⟨SO.ks [.b b5] hO, ?_⟩
          refine dx_close 11 (by kernel_rfl) rfl rfl ?_
          refine CK [.o r, .o z] hO rfl (fun k' hx hr hO' => tPut_spec t.sim hI.nodup hl1 (hO := hO')) ?_
          rintro _ _ w ⟨rfl, rfl⟩ hO
          simp only [List.cons_append, List.nil_append] at hO
          refine o_done ?_
          refine da_phase _ [] (SO.ks [] hO) ?_
          refine dx_y 12 (by kernel_rfl) rfl rfl rfl (fun w ⟨m, hw⟩ => D0 (hp := rfl)) ?_
          refine dx_u 13 (by kernel_rfl) rfl rfl rfl (fun w => y_assign rfl) ?_
          refine dx_end (by kernel_rfl) ?_
          refine K3 (K6 (L0 (K9 ?_)))
          refine fin1 rfl rfl ⟨_, ⟨rfl, _, ?_, rfl⟩, hO.only [.o a, .o r, .o s, .o z]⟩
          first | exact hI | exact hI.push | exact hI.take _ | exact hI.remove | exact hI.put | exact hI.swap | exact hI.popTo | exact hI.drop
        · refine l_y rfl rfl (y_assign rfl) ?_
          refine K2 (K3 (L9 (K0 (K1 ?_))))
          refine Z0 (fun h10_0 => ?_) (fun h10_0 => ?_)
          · refine l_y rfl rfl (y_assign rfl) ?_
            refine K2 (K3 (L8 (K0 ?_)))
            refine da_region (by intro c a d v w h; cases d <;> exact h) ?_
            have hO := hO.drew
            refine da_phase _ [11] (SO.ks [.b b5] hO) ?_
            refine dx_u 0 (by kernel_rfl) rfl rfl rfl (fun w => y_move rfl) ?_
            refine dx_u 1 (by kernel_rfl) rfl rfl rfl (fun w => y_fldb (o' := 2) rfl) ?_
            refine dx_y 2 (by kernel_rfl) rfl rfl rfl (fun w ⟨m, hw⟩ => D5 hw rfl) ?_
            refine dx_u 3 (by kernel_rfl) rfl rfl rfl (fun w => y_fldb (o' := 1) rfl) ?_
            refine dx_y 4 (by kernel_rfl) rfl rfl rfl (fun w ⟨m, hw⟩ => D5 hw rfl) ?_
            refine dx_u 6 (by kernel_rfl) rfl rfl rfl (fun w => y_move rfl) ?_
            refine dx_u 7 (by kernel_rfl) rfl rfl rfl (fun w => y_fldb (o' := 2) rfl) ?_
            refine dx_y 8 (by kernel_rfl) rfl rfl rfl (fun w ⟨m, hw⟩ => D5 hw rfl) ?_
            refine dx_u 9 (by kernel_rfl) rfl rfl rfl (fun w => y_fldb (o' := 1) rfl) ?_
            refine dx_y 10 (by kernel_rfl) rfl rfl rfl (fun w ⟨m, hw⟩ => D5 hw rfl) ?_
            refine dx_only 5 (by kernel_rfl) rfl rfl ?_
            refine CK [.o a, .o s] hO rfl (fun k' hx hr hO' => sSwap_spec t.pos t.tree.attrs hl1 (hO := hO')) ?_
            rintro _ _ w ⟨rfl, rfl⟩ hO
            simp only [List.cons_append, List.nil_append] at hO
            refine o_done ?_
            refine ⟨SO.ks [.b b5] hO, ?_⟩
            refine dx_close 11 (by kernel_rfl) rfl rfl ?_
            refine CK [.o r, .o z] hO rfl (fun k' hx hr hO' => tSwap_spec t.sim hI.nodup hl1 (hO := hO')) ?_
            rintro _ _ w ⟨rfl, rfl⟩ hO
            simp only [List.cons_append, List.nil_append] at hO
            refine o_done ?_
            refine da_phase _ [] (SO.ks [] hO) ?_
            refine dx_y 12 (by kernel_rfl) rfl rfl rfl (fun w ⟨m, hw⟩ => D0 (hp := rfl)) ?_
            refine dx_u 13 (by kernel_rfl) rfl rfl rfl (fun w => y_assign rfl) ?_
            refine dx_end (by kernel_rfl) ?_
            refine K3 (K6 (L0 (K9 ?_)))
            refine fin1 rfl rfl ⟨_, ⟨rfl, _, ?_, rfl⟩, hO.only [.o a, .o r, .o s, .o z]⟩
            first | exact hI | exact hI.push | exact hI.take _ | exact hI.remove | exact hI.put | exact hI.swap | exact hI.popTo | exact hI.drop
          · refine l_y rfl rfl (y_assign rfl) ?_
            refine K2 (K3 (L9 (K0 (K1 ?_))))
            refine Z0 (fun h12_0 => ?_) (fun h12_0 => ?_)
            · refine l_y rfl rfl (y_assign rfl) ?_
              refine K2 (K3 (L8 (K0 ?_)))
              refine da_region (by intro c a d v w h; cases d <;> exact h) ?_
              have hO := hO.drew
              refine da_phase _ [11] (SO.ks [.b b5] hO) ?_
              refine dx_u 0 (by kernel_rfl) rfl rfl rfl (fun w => y_move rfl) ?_
              refine dx_u 1 (by kernel_rfl) rfl rfl rfl (fun w => y_fldb (o' := 4) rfl) ?_
              refine dx_y 2 (by kernel_rfl) rfl rfl rfl (fun w ⟨m, hw⟩ => D5 hw rfl) ?_
              refine dx_u 3 (by kernel_rfl) rfl rfl rfl (fun w => y_fldb (o' := 3) rfl) ?_
              refine dx_y 4 (by kernel_rfl) rfl rfl rfl (fun w ⟨m, hw⟩ => D5 hw rfl) ?_
              refine dx_u 6 (by kernel_rfl) rfl rfl rfl (fun w => y_move rfl) ?_
              refine dx_u 7 (by kernel_rfl) rfl rfl rfl (fun w => y_fldb (o' := 4) rfl) ?_
              refine dx_y 8 (by kernel_rfl) rfl rfl rfl (fun w ⟨m, hw⟩ => D5 hw rfl) ?_
              refine dx_u 9 (by kernel_rfl) rfl rfl rfl (fun w => y_fldb (o' := 3) rfl) ?_
              refine dx_y 10 (by kernel_rfl) rfl rfl rfl (fun w ⟨m, hw⟩ => D5 hw rfl) ?_
              refine dx_only 5 (by kernel_rfl) rfl rfl ?_
              refine CK [.o a, .o s] hO rfl (fun k' hx hr hO' => sScope_spec t.pos t.tree.attrs hI.el hl1 (hO := hO')) ?_
              rintro _ _ w ⟨rfl, rfl⟩ hO
              simp only [List.cons_append, List.nil_append] at hO
              refine o_done ?_
              refine ⟨SO.ks [.b b5] hO, ?_⟩
              refine dx_close 11 (by kernel_rfl) rfl rfl ?_
              refine CK [.o r, .o z] hO rfl (fun k' hx hr hO' => tScope_spec t.sim hsp hI.el hl1 (hO := hO')) ?_
              rintro _ _ w ⟨rfl, rfl⟩ hO
              simp only [List.cons_append, List.nil_append] at hO
              refine o_done ?_
              refine da_phase _ [] (SO.ks [] hO) ?_
              refine dx_y 12 (by kernel_rfl) rfl rfl rfl (fun w ⟨m, hw⟩ => y_eqB (c := true) rfl rfl (by simp)) ?_
              refine dx_u 13 (by kernel_rfl) rfl rfl rfl (fun w => y_assign rfl) ?_
              refine dx_end (by kernel_rfl) ?_
              refine K3 (K6 (L0 (K9 ?_)))
              refine fin1 rfl rfl ⟨_, ⟨rfl, _, ?_, rfl⟩, hO.only [.o a, .o r, .o s, .o z]⟩
              first | exact hI | exact hI.push | exact hI.take _ | exact hI.remove | exact hI.put | exact hI.swap | exact hI.popTo | exact hI.drop
            · refine l_y rfl rfl (y_assign rfl) ?_
              refine K2 (K3 (L9 (K0 (K1 ?_))))
              refine Z0 (fun h14_0 => ?_) (fun h14_0 => ?_)
              · refine l_y rfl rfl (y_assign rfl) ?_
                refine K2 (K3 (L8 (K0 ?_)))
                refine da_region (by intro c a d v w h; cases d <;> exact h) ?_
                have hO := hO.drew
                refine da_phase _ [11] (SO.ks [.b b5] hO) ?_
                refine dx_u 0 (by kernel_rfl) rfl rfl rfl (fun w => y_move rfl) ?_
                refine dx_u 1 (by kernel_rfl) rfl rfl rfl (fun w => y_fldb (o' := 1) rfl) ?_
                refine dx_y 2 (by kernel_rfl) rfl rfl rfl (fun w ⟨m, hw⟩ => D5 hw rfl) ?_
                refine dx_u 3 (by kernel_rfl) rfl rfl rfl (fun w => y_fldb (o' := 3) rfl) ?_
                refine dx_y 4 (by kernel_rfl) rfl rfl rfl (fun w ⟨m, hw⟩ => D5 hw rfl) ?_
                refine dx_u 6 (by kernel_rfl) rfl rfl rfl (fun w => y_move rfl) ?_
                refine dx_u 7 (by kernel_rfl) rfl rfl rfl (fun w => y_fldb (o' := 1) rfl) ?_
                refine dx_y 8 (by kernel_rfl) rfl rfl rfl (fun w ⟨m, hw⟩ => D5 hw rfl) ?_
                refine dx_u 9 (by kernel_rfl) rfl rfl rfl (fun w => y_fldb (o' := 3) rfl) ?_
                refine dx_y 10 (by kernel_rfl) rfl rfl rfl (fun w ⟨m, hw⟩ => D5 hw rfl) ?_
                refine dx_only 5 (by kernel_rfl) rfl rfl ?_
                refine CK [.o a, .o s] hO rfl (fun k' hx hr hO' => sNodeScope_spec t.pos t.tree.attrs hI.el hl1 (hO := hO')) ?_
                rintro _ _ w ⟨rfl, rfl⟩ hO
                simp only [List.cons_append, List.nil_append] at hO
                refine o_done ?_
                refine ⟨SO.ks [.b b5] hO, ?_⟩
                refine dx_close 11 (by kernel_rfl) rfl rfl ?_
                refine CK [.o r, .o z] hO rfl (fun k' hx hr hO' => tNodeScope_spec t.sim hsp hI.el hl1 (hO := hO')) ?_
                rintro _ _ w ⟨rfl, rfl⟩ hO
                simp only [List.cons_append, List.nil_append] at hO
                refine o_done ?_
                refine da_phase _ [] (SO.ks [] hO) ?_
                refine dx_y 12 (by kernel_rfl) rfl rfl rfl (fun w ⟨m, hw⟩ => y_eqB (c := true) rfl rfl (by simp)) ?_
                refine dx_u 13 (by kernel_rfl) rfl rfl rfl (fun w => y_assign rfl) ?_
                refine dx_end (by kernel_rfl) ?_
                refine K3 (K6 (L0 (K9 ?_)))
                refine fin1 rfl rfl ⟨_, ⟨rfl, _, ?_, rfl⟩, hO.only [.o a, .o r, .o s, .o z]⟩
                first | exact hI | exact hI.push | exact hI.take _ | exact hI.remove | exact hI.put | exact hI.swap | exact hI.popTo | exact hI.drop
              · refine l_y rfl rfl (y_assign rfl) ?_
                refine K2 (K3 (L9 (K0 (K1 ?_))))
                refine Z0 (fun h16_0 => ?_) (fun h16_0 => ?_)
                · refine l_y rfl rfl (y_assign rfl) ?_
                  refine K2 (K3 (L8 (K0 ?_)))
                  refine da_region (by intro c a d v w h; cases d <;> exact h) ?_
                  have hO := hO.drew
                  refine da_phase _ [7] (SO.ks [.b b5] hO) ?_
                  refine dx_u 0 (by kernel_rfl) rfl rfl rfl (fun w => y_move rfl) ?_
                  refine dx_u 1 (by kernel_rfl) rfl rfl rfl (fun w => y_fldb (o' := 4) rfl) ?_
                  refine dx_y 2 (by kernel_rfl) rfl rfl rfl (fun w ⟨m, hw⟩ => D5 hw rfl) ?_
                  refine dx_u 4 (by kernel_rfl) rfl rfl rfl (fun w => y_move rfl) ?_
                  refine dx_u 5 (by kernel_rfl) rfl rfl rfl (fun w => y_fldb (o' := 4) rfl) ?_
                  refine dx_y 6 (by kernel_rfl) rfl rfl rfl (fun w ⟨m, hw⟩ => D5 hw rfl) ?_
                  refine dx_only 3 (by kernel_rfl) rfl rfl ?_
                  refine CK [.o a, .o s] hO rfl (fun k' hx hr hO' => sPopTo_spec t.pos t.tree.attrs hI.el hl1 (hO := hO')) ?_
                  rintro _ _ w ⟨rfl, rfl⟩ hO
                  simp only [List.cons_append, List.nil_append] at hO
                  refine o_done ?_
                  refine ⟨SO.ks [.b b5] hO, ?_⟩
                  refine dx_close 7 (by kernel_rfl) rfl rfl ?_
                  refine CK [.o r, .o z] hO rfl (fun k' hx hr hO' => tPopTo_spec t.sim hI.el hl1 (hO := hO')) ?_
                  rintro _ _ w ⟨rfl, rfl⟩ hO
                  simp only [List.cons_append, List.nil_append] at hO
                  refine o_done ?_
                  refine da_phase _ [] (SO.ks [] hO) ?_
                  refine dx_y 8 (by kernel_rfl) rfl rfl rfl (fun w ⟨m, hw⟩ => y_eqB (c := true) rfl rfl (by simp)) ?_
                  refine dx_u 9 (by kernel_rfl) rfl rfl rfl (fun w => y_assign rfl) ?_
                  refine dx_end (by kernel_rfl) ?_
                  refine K3 (K6 (L0 (K9 ?_)))
                  refine fin1 rfl rfl ⟨_, ⟨rfl, _, ?_, rfl⟩, hO.only [.o a, .o r, .o s, .o z]⟩
                  first | exact hI | exact hI.push | exact hI.take _ | exact hI.remove | exact hI.put | exact hI.swap | exact hI.popTo | exact hI.drop
                · refine l_y rfl rfl (y_assign rfl) ?_
                  refine K2 (K3 (L9 (K0 (K1 ?_))))
                  refine Z0 (fun h18_0 => ?_) (fun h18_0 => ?_)
                  · refine l_y rfl rfl (y_assign rfl) ?_
                    refine K2 (K3 (L8 (K0 ?_)))
                    refine da_region (by intro c a d v w h; cases d <;> exact h) ?_
                    have hO := hO.drew
                    refine da_phase _ [7] (SO.ks [.b b5] hO) ?_
                    refine dx_u 0 (by kernel_rfl) rfl rfl rfl (fun w => y_move rfl) ?_
                    refine dx_u 1 (by kernel_rfl) rfl rfl rfl (fun w => y_fldb (o' := 4) rfl) ?_
                    refine dx_y 2 (by kernel_rfl) rfl rfl rfl (fun w ⟨m, hw⟩ => D5 hw rfl) ?_
                    refine dx_u 4 (by kernel_rfl) rfl rfl rfl (fun w => y_move rfl) ?_
                    refine dx_u 5 (by kernel_rfl) rfl rfl rfl (fun w => y_fldb (o' := 4) rfl) ?_
                    refine dx_y 6 (by kernel_rfl) rfl rfl rfl (fun w ⟨m, hw⟩ => D5 hw rfl) ?_
                    refine dx_only 3 (by kernel_rfl) rfl rfl ?_
                    refine CK [.o a, .o s] hO rfl (fun k' hx hr hO' => sImplied_spec t.pos t.tree.attrs hI.el hl1 (hO := hO')) ?_
                    rintro _ _ w ⟨rfl, rfl⟩ hO
                    simp only [List.cons_append, List.nil_append] at hO
                    refine o_done ?_
                    refine ⟨SO.ks [.b b5] hO, ?_⟩
                    refine dx_close 7 (by kernel_rfl) rfl rfl ?_
                    refine CK [.o r, .o z] hO rfl (fun k' hx hr hO' => tImplied_spec t.sim hI.el hl1 (hO := hO')) ?_
                    rintro _ _ w ⟨rfl, rfl⟩ hO
                    simp only [List.cons_append, List.nil_append] at hO
                    refine o_done ?_
                    refine da_phase _ [] (SO.ks [] hO) ?_
                    refine dx_y 8 (by kernel_rfl) rfl rfl rfl (fun w ⟨m, hw⟩ => D0 (hp := rfl)) ?_
                    refine dx_u 9 (by kernel_rfl) rfl rfl rfl (fun w => y_assign rfl) ?_
                    refine dx_end (by kernel_rfl) ?_
                    refine K3 (K6 (L0 (K9 ?_)))
                    refine fin1 rfl rfl ⟨_, ⟨rfl, _, ?_, rfl⟩, hO.only [.o a, .o r, .o s, .o z]⟩
                    first | exact hI | exact hI.push | exact hI.take _ | exact hI.remove | exact hI.put | exact hI.swap | exact hI.popTo | exact hI.drop
                  · refine l_y rfl rfl (y_assign rfl) ?_
                    refine K2 (K3 (L9 (K0 (K1 ?_))))
                    refine Z0 (fun h20_0 => ?_) (fun h20_0 => ?_)
                    · refine l_y rfl rfl (y_assign rfl) ?_
                      refine K2 (K3 (L8 (K0 (K1 ?_))))
                      refine l_y rfl rfl (y_move rfl) ?_
                      refine CK [.o a, .o s] hO rfl (fun k' hx hr hO' => sThorough_spec t.pos t.tree.attrs hI.el hl1 (hO := hO')) ?_
                      rintro _ _ w ⟨rfl, rfl⟩ hO
                      simp only [List.cons_append, List.nil_append] at hO
                      refine l_y rfl rfl (y_move rfl) ?_
                      refine CK [.o r, .o z] hO rfl (fun k' hx hr hO' => tThorough_spec t.sim hI.el hl1 (hO := hO')) ?_
                      rintro _ _ w ⟨rfl, rfl⟩ hO
                      simp only [List.cons_append, List.nil_append] at hO
                      refine N2 (hp := rfl) ?_
                      refine l_y rfl rfl (y_assign rfl) ?_
                      refine K2 (K3 (K6 (L0 (K9 ?_))))
                      refine fin1 rfl rfl ⟨_, ⟨rfl, _, ?_, rfl⟩, hO.only [.o a, .o r, .o s, .o z]⟩
                      first | exact hI | exact hI.push | exact hI.take _ | exact hI.remove | exact hI.put | exact hI.swap | exact hI.popTo | exact hI.drop
                    · refine l_y rfl rfl (y_assign rfl) ?_
                      refine K2 (K3 (L9 (K5 (K8 (K3 (K0 ?_))))))
                      refine da_region (by intro c a d v w h; cases d <;> exact h) ?_
                      have hO := hO.drew
                      refine da_phase _ [7] (SO.ks [.b b5] hO) ?_
                      refine dx_u 0 (by kernel_rfl) rfl rfl rfl (fun w => y_move rfl) ?_
                      refine dx_u 1 (by kernel_rfl) rfl rfl rfl (fun w => y_fldb (o' := 1) rfl) ?_
                      refine dx_y 2 (by kernel_rfl) rfl rfl rfl (fun w ⟨m, hw⟩ => D5 hw rfl) ?_
                      refine dx_u 4 (by kernel_rfl) rfl rfl rfl (fun w => y_move rfl) ?_
                      refine dx_u 5 (by kernel_rfl) rfl rfl rfl (fun w => y_fldb (o' := 1) rfl) ?_
                      refine dx_y 6 (by kernel_rfl) rfl rfl rfl (fun w ⟨m, hw⟩ => D5 hw rfl) ?_
                      refine dx_only 3 (by kernel_rfl) rfl rfl ?_
                      refine CK [.o a, .o s] hO rfl (fun k' hx hr hO' => sSpecial_spec t.pos t.tree.attrs (hO := hO')) ?_
                      rintro _ _ w ⟨rfl, rfl⟩ hO
                      simp only [List.cons_append, List.nil_append] at hO
                      refine o_done ?_
                      refine ⟨SO.ks [.b b5] hO, ?_⟩
                      refine dx_close 7 (by kernel_rfl) rfl rfl ?_
                      refine CK [.o r, .o z] hO rfl (fun k' hx hr hO' => tSpecial_spec t.sim (hO := hO')) ?_
                      rintro _ _ w ⟨rfl, rfl⟩ hO
                      simp only [List.cons_append, List.nil_append] at hO
                      refine o_done ?_
                      refine da_phase _ [] (SO.ks [] hO) ?_
                      refine dx_y 8 (by kernel_rfl) rfl rfl rfl (fun w ⟨m, hw⟩ => y_eqB (c := true) rfl rfl (by simp)) ?_
                      refine dx_u 9 (by kernel_rfl) rfl rfl rfl (fun w => y_assign rfl) ?_
                      refine dx_end (by kernel_rfl) ?_
                      refine K3 (K6 ?_)
                      refine fin1 rfl rfl ⟨_, ⟨rfl, _, ?_, rfl⟩, hO.only [.o a, .o r, .o s, .o z]⟩
                      first | exact hI | exact hI.push | exact hI.take _ | exact hI.remove | exact hI.put | exact hI.swap | exact hI.popTo | exact hI.drop
theorem same12_spec (hl1 : l.length ≤ 1000000) (hO : Own k w [stkL s a l, rstkL z r l]) :
    Tri Try.prog 34 #[.pointer (some ⟨s, 0, none⟩), .pointer (some ⟨z, 0, none⟩)] k w fun v m => v = .bool true ∧ m = [stkL s a l, rstkL z r l] := by
  refine enter (args := [.pointer (some ⟨s, 0, none⟩), .pointer (some ⟨z, 0, none⟩)]) Try.func34 rfl rfl ?_
  obtain ⟨p, c, hg, hlc, hO⟩ := stkL_open hO
  obtain ⟨q, d, hq, hld, hO⟩ := rstkL_open (hO.ks [.o z])
  refine K0 (K1 ?_)
  refine l_y rfl rfl (y_assign rfl) ?_
  refine K2 (K3 (K0 (K0 (K1 ?_))))
  refine l_y rfl rfl (y_assign rfl) ?_
  refine K2 (K3 (K4 ?_))
  refine c_rounds (X := Int) (fun i => [(0, .pointer (some ⟨s, 0, none⟩)), (1, .pointer (some ⟨z, 0, none⟩)), (4, .bool false), (5, .int .i64 i)]) (fun i w => Own k w [sB s a p l.length c, sI p c l, tB z r q l.length d, sI q d l] ∧ (-1 ≤ i ∧ i ≤ (l.length : Int) + 1)) (fun i => ((l.length : Int) + 1 - i).toNat) (-1) ⟨rfl, rfl, rfl, rfl, trivial⟩ ⟨hO.only [.b s, .p p, .b z, .p q], ⟨by omega, by omega⟩⟩ ?_
  rintro i w m hm ⟨hO, hi⟩
  refine K0 (K0 (K1 ?_))
  refine l_y rfl rfl (y_move rfl) ?_
  refine l_y rfl rfl (y_move rfl) ?_
  refine l_y rfl rfl (y_nilCheck rfl rfl) ?_
  refine l_y rfl rfl (y_fldb (o' := 1) rfl) ?_
  refine l_y rfl rfl (D5 hO rfl) ?_
  refine l_y rfl rfl (y_lenL rfl) ?_
  refine Z0 (fun h2_6 => ?_) (fun h2_6 => ?_)
  · refine K2 (K3 (L8 (K5 (K3 (K0 (K4 (K0 (K1 ?_))))))))
    refine l_y rfl rfl (y_move rfl) ?_
    refine l_y rfl rfl (y_move rfl) ?_
    refine CK [.b s, .p p] hO rfl (fun k' hx hr hO' => sAt_spec hg (hO := hO')) ?_
    rintro _ _ w ⟨rfl, rfl⟩ hO
    simp only [List.cons_append, List.nil_append] at hO
    refine l_y rfl rfl (y_move rfl) ?_
    refine l_y rfl rfl (y_move rfl) ?_
    refine CK [.b z, .p q] hO rfl (fun k' hx hr hO' => tAtO_spec hq (hO := hO')) ?_
    rintro _ _ w ⟨rfl, rfl⟩ hO
    simp only [List.cons_append, List.nil_append] at hO
    refine N4 (hp := rfl) ?_
    refine K2 (K3 (L9 (K5 (K8 (K3 (K1 ?_))))))
    refine l_y rfl rfl (y_move rfl) ?_
    refine l_y rfl rfl (D4) ?_
    refine l_y rfl rfl (y_assign rfl) ?_
    refine K2 ?_
    exact q_next (i + 1) ⟨rfl, rfl, rfl, rfl, trivial⟩ ⟨hO.only [.b s, .p p, .b z, .p q], ⟨by omega, by omega⟩⟩ (by omega)
  · refine K2 (K3 (L9 (K7 (L1 (L1 (L2 (K3 (K0 ?_))))))))
    refine da_region (by intro c a d v w h; cases d <;> exact h) ?_
    have hO := hO.drew
    refine da_phase _ [10] (SO.ks [.b z] hO) ?_
    refine dx_u 0 (by kernel_rfl) rfl rfl rfl (fun w => y_move rfl) ?_
    refine dx_u 2 (by kernel_rfl) rfl rfl rfl (fun w => y_move rfl) ?_
    refine dx_u 3 (by kernel_rfl) rfl rfl rfl (fun w => y_nilCheck rfl rfl) ?_
    refine dx_u 4 (by kernel_rfl) rfl rfl rfl (fun w => y_fldb (o' := 1) rfl) ?_
    refine dx_y 5 (by kernel_rfl) rfl rfl rfl (fun w ⟨m, hw⟩ => D5 hw rfl) ?_
    refine dx_u 6 (by kernel_rfl) rfl rfl rfl (fun w => y_lenL rfl) ?_
    refine dx_only 1 (by kernel_rfl) rfl rfl ?_
    refine CK [.b s] hO rfl (fun k' hx hr hO' => sLen_spec (hO := hO')) ?_
    rintro _ _ w ⟨rfl, rfl⟩ hO
    simp only [List.cons_append, List.nil_append] at hO
    refine o_done ?_
    refine ⟨SO.ks [.b z] hO, ?_⟩
    refine dx_y 7 (by kernel_rfl) rfl rfl rfl (fun w ⟨m, hw⟩ => D0 (hp := rfl)) ?_
    refine dx_u 8 (by kernel_rfl) rfl rfl rfl (fun w => y_move rfl) ?_
    refine dx_u 9 (by kernel_rfl) rfl rfl rfl (fun w => y_move rfl) ?_
    refine dx_u 11 (by kernel_rfl) rfl rfl rfl (fun w => y_move rfl) ?_
    refine dx_close 10 (by kernel_rfl) rfl rfl ?_
    refine CK [.b s, .p p] hO rfl (fun k' hx hr hO' => sTop_spec hg hl1 (hO := hO')) ?_
    rintro _ _ w ⟨rfl, rfl⟩ hO
    simp only [List.cons_append, List.nil_append] at hO
    refine o_done ?_
    refine da_only 12 (by kernel_rfl) rfl ?_
    refine CK [.b z, .p q] hO rfl (fun k' hx hr hO' => tTopO_spec hq hl1 (hO := hO')) ?_
    rintro _ _ w ⟨rfl, rfl⟩ hO
    simp only [List.cons_append, List.nil_append] at hO
    refine o_done ?_
    refine da_phase _ [] (SO.ks [] hO) ?_
    refine dx_y 13 (by kernel_rfl) rfl rfl rfl (fun w ⟨m, hw⟩ => D0 (hp := rfl)) ?_
    refine dx_u 14 (by kernel_rfl) rfl rfl rfl (fun w => y_pick_t rfl rfl) ?_
    refine dx_u 15 (by kernel_rfl) rfl rfl rfl (fun w => y_assign rfl) ?_
    refine dx_end (by kernel_rfl) ?_
    refine K3 (K6 ?_)
    have hO := stkL_shut (hO.ks [.b s, .p p])
    exact fin1 rfl rfl ⟨_, ⟨rfl, rfl⟩, ((rstkL_shut (hO.ks [.b z, .p q])).ks [.o s, .o z]).two⟩
theorem awake12_spec (hO : Own k w []) : Tri Try.prog 23 #[] k w fun v m => v = .bool true ∧ m = [] := by
  refine enter (args := []) Try.func23 rfl rfl ?_
  have hpos : 0 < [docD].length := by decide
  refine K0 (K1 ?_)
  refine l_y rfl rfl (y_assign rfl) ?_
  refine K2 (K3 (K0 (K1 ?_)))
  refine CK [] hO rfl (fun k' hx hr hO' => New_spec (hO := hO')) ?_
  rintro _ _ w ⟨a4, rfl, rfl⟩ hO
  simp only [List.cons_append, List.nil_append] at hO
  refine l_y rfl rfl (y_assign rfl) ?_
  refine K2 (K3 (K0 (K1 ?_)))
  refine l_y rfl rfl (y_move rfl) ?_
  refine CK [.o a4] hO rfl (fun k' hx hr hO' => sNew_spec hpos (hO := hO')) ?_
  rintro _ _ w ⟨s7, rfl, rfl⟩ hO
  simp only [List.cons_append, List.nil_append] at hO
  refine l_y rfl rfl (y_move rfl) ?_
  refine l_y rfl rfl (y_extract rfl rfl) ?_
  refine l_y rfl rfl (y_extract rfl rfl) ?_
  refine l_y rfl rfl (y_assign rfl) ?_
  refine l_y rfl rfl (y_assign rfl) ?_
  refine K2 (K3 (K0 (K1 ?_)))
  refine l_y rfl rfl (y_move rfl) ?_
  refine l_y rfl rfl (y_nePnil rfl rfl rfl) ?_
  refine l_y rfl rfl (y_move rfl) ?_
  refine l_y rfl rfl (y_move rfl) ?_
  refine l_y rfl rfl (y_nePnil rfl rfl rfl) ?_
  refine l_y rfl rfl (y_pick_t rfl rfl) ?_
  refine l_y rfl rfl (y_move rfl) ?_
  refine l_y rfl rfl (y_move rfl) ?_
  refine N2 ?_
  refine l_y rfl rfl (y_pick_t rfl rfl) ?_
  refine l_y rfl rfl (y_move rfl) ?_
  refine l_y rfl rfl (y_move rfl) ?_
  refine CK [.o s7] hO rfl (fun k' hx hr hO' => sTopC_spec (x := 0) (by decide) (hO := hO')) ?_
  rintro _ _ w ⟨rfl, rfl⟩ hO
  simp only [List.cons_append, List.nil_append] at hO
  refine N2 (hp := rfl) ?_
  refine l_y rfl rfl (y_pick_t rfl rfl) ?_
  refine l_y rfl rfl (y_assign rfl) ?_
  refine K2 (K3 (K6 ?_))
  exact fin1 rfl rfl ⟨_, ⟨rfl, rfl⟩, hO.none⟩
set_option maxHeartbeats 4000000 in
theorem StackPlays_spec {lp sp : Option Addr} {lc sc : Nat} {L : List Law12_elem} {S : List Law12_op} (hs : Sli (Ro k) (.slice lp L.length lc) (L.map Law12_elem.cells)) (hS : Sli (Ro k) (.slice sp S.length sc) (S.map Law12_op.cells)) (hSl : S.length ≤ 9223372036854775807) (hO : Own k w []) :
    Tri Try.prog 6 #[.slice lp L.length lc, .slice sp S.length sc] k w fun v m => v = .bool true := by
  refine enter (args := [.slice lp L.length lc, .slice sp S.length sc]) Try.func6 rfl rfl ?_
  have hgS := sli_gs hS
  refine K0 (K1 ?_)
  refine l_y rfl rfl (y_assign rfl) ?_
  refine K2 (K3 (K0 (K1 ?_)))
  refine l_y rfl rfl (y_move rfl) ?_
  refine CK [] hO rfl (fun k' hx hr hO' => arenas_spec (hs.ext hO hx) (hO := hO')) ?_
  rintro _ _ w ⟨a, r, A, K, R, rfl, rfl, t, hsp⟩ hO
  simp only [List.cons_append, List.nil_append] at hO
  have hpos := t.pos
  have hlA : A.length ≤ 1000000 := Nat.le_trans t.max (by decide)
  refine l_y rfl rfl (y_move rfl) ?_
  refine l_y rfl rfl (y_extract rfl rfl) ?_
  refine l_y rfl rfl (y_extract rfl rfl) ?_
  refine l_y rfl rfl (y_assign rfl) ?_
  refine l_y rfl rfl (y_assign rfl) ?_
  refine K2 (K3 (K0 (K0 (K1 ?_))))
  refine l_y rfl rfl (y_move rfl) ?_
  refine l_y rfl rfl (y_eqPnil rfl rfl rfl) ?_
  refine K2 (K3 (L9 (K5 (K3 (K0 (K1 ?_))))))
  refine l_y rfl rfl (y_move rfl) ?_
  refine CK [.o a] hO rfl (fun k' hx hr hO' => sNew_spec hpos (hO := hO')) ?_
  rintro _ _ w ⟨s20, rfl, rfl⟩ hO
  simp only [List.cons_append, List.nil_append] at hO
  refine l_y rfl rfl (y_move rfl) ?_
  refine l_y rfl rfl (y_extract rfl rfl) ?_
  refine l_y rfl rfl (y_extract rfl rfl) ?_
  refine l_y rfl rfl (y_assign rfl) ?_
  refine l_y rfl rfl (y_assign rfl) ?_
  refine K2 (K3 (K0 (K0 (K1 ?_))))
  refine l_y rfl rfl (y_move rfl) ?_
  refine l_y rfl rfl (y_eqPnil rfl rfl rfl) ?_
  refine l_y rfl rfl (y_move rfl) ?_
  refine l_y rfl rfl (y_move rfl) ?_
  refine N4 ?_
  refine l_y rfl rfl (y_pick_f rfl rfl) ?_
  refine K2 (K3 (L9 (K5 (K3 (K0 (K1 ?_))))))
  refine l_y rfl rfl (y_move rfl) ?_
  refine CK [.o r] hO rfl (fun k' hx hr hO' => tNew_spec (hO := hO')) ?_
  rintro _ _ w ⟨z, rfl, rfl⟩ hO
  simp only [List.cons_append, List.nil_append] at hO
  refine l_y rfl rfl (y_assign rfl) ?_
  refine K2 (K3 (K0 (K0 (K1 ?_))))
  refine l_y rfl rfl (y_assign rfl) ?_
  refine K2 (K3 (K4 ?_))
  refine c_rounds (X := Nat × List Int) (fun x => [(1, .slice sp S.length sc), (4, .bool false), (7, .pointer (some ⟨s20, 0, none⟩)), (9, .pointer (some ⟨z, 0, none⟩)), (10, .int .i64 (x.1 : Int))]) (fun x w => Own k w [arenaL a A, rarL r R, stkL s20 a x.2, rstkL z r x.2] ∧ (x.1 ≤ S.length) ∧ (StkI A x.2)) (fun x => S.length - x.1) ((0, [])) ⟨rfl, rfl, rfl, rfl, rfl, trivial⟩ ⟨hO.only [.o a, .o r, .o s20, .o z], Nat.zero_le _, StkI.nil⟩ ?_
  rintro x w m hm ⟨hO, hi, hI⟩
  refine K0 (K0 (K1 ?_))
  refine l_y rfl rfl (y_move rfl) ?_
  refine l_y rfl rfl (y_move rfl) ?_
  refine l_y rfl rfl (y_lenL rfl) ?_
  refine Z0 (fun h9_3 => ?_) (fun h9_3 => ?_)
  · refine K2 (K3 (L8 (K5 (K3 (K0 (K4 (K0 ?_)))))))
    refine da_region (by intro c a d v w h; cases d <;> exact h) ?_
    have hO := hO.drew
    refine da_phase _ [6] (SO.ks [] hO) ?_
    refine dx_u 0 (by kernel_rfl) rfl rfl rfl (fun w => y_move rfl) ?_
    refine dx_u 1 (by kernel_rfl) rfl rfl rfl (fun w => y_move rfl) ?_
    refine dx_u 2 (by kernel_rfl) rfl rfl rfl (fun w => y_move rfl) ?_
    refine dx_u 3 (by kernel_rfl) rfl rfl rfl (fun w => y_move rfl) ?_
    refine dx_u 4 (by kernel_rfl) rfl rfl rfl (fun w => y_idx rfl rfl) ?_
    refine dx_y 5 (by kernel_rfl) rfl rfl rfl (fun w ⟨m, hw⟩ => y_rA (x0 := 0) (enc := Law12_op.cells) (xs := S) (cs := [.int .i64 (at_ S ((x.1 : Int) : Int).toNat).What, .int .i64 (at_ S ((x.1 : Int) : Int).toNat).A, .int .i64 (at_ S ((x.1 : Int) : Int).toNat).B, .int .i64 (at_ S ((x.1 : Int) : Int).toNat).N, .string (at_ S ((x.1 : Int) : Int).toNat).Text]) hw rfl) ?_
    refine dx_close 6 (by kernel_rfl) rfl rfl ?_
    refine CK [.o a, .o r, .o s20, .o z] hO rfl (fun k' hx hr hO' => play12_spec (o := at_ S x.1) t hsp hI (hO := hO')) ?_
    rintro _ _ w ⟨rfl, l', hI', rfl⟩ hO
    simp only [List.cons_append, List.nil_append] at hO
    have hl1 : l'.length ≤ 1000000 := Nat.le_trans hI'.len hlA
    refine o_done ?_
    refine da_phase _ [22] (SO.ks [] hO) ?_
    refine dx_u 7 (by kernel_rfl) rfl rfl rfl (fun w => y_not rfl rfl) ?_
    refine dx_u 8 (by kernel_rfl) rfl rfl rfl (fun w => y_move rfl) ?_
    refine dx_u 9 (by kernel_rfl) rfl rfl rfl (fun w => y_move rfl) ?_
    refine dx_u 10 (by kernel_rfl) rfl rfl rfl (fun w => y_move rfl) ?_
    refine dx_u 11 (by kernel_rfl) rfl rfl rfl (fun w => y_move rfl) ?_
    refine dx_u 12 (by kernel_rfl) rfl rfl rfl (fun w => y_idx rfl rfl) ?_
    refine dx_u 13 (by kernel_rfl) rfl rfl rfl (fun w => y_fld (j' := 1) rfl) ?_
    refine dx_y 14 (by kernel_rfl) rfl rfl rfl (fun w ⟨m, hw⟩ => y_r1 (x0 := 1) (enc := Law12_op.cells) (xs := S) hw rfl) ?_
    refine dx_u 16 (by kernel_rfl) rfl rfl rfl (fun w => y_move rfl) ?_
    refine dx_u 17 (by kernel_rfl) rfl rfl rfl (fun w => y_move rfl) ?_
    refine dx_u 18 (by kernel_rfl) rfl rfl rfl (fun w => y_move rfl) ?_
    refine dx_u 19 (by kernel_rfl) rfl rfl rfl (fun w => y_idx rfl rfl) ?_
    refine dx_u 20 (by kernel_rfl) rfl rfl rfl (fun w => y_fld (j' := 1) rfl) ?_
    refine dx_y 21 (by kernel_rfl) rfl rfl rfl (fun w ⟨m, hw⟩ => y_r1 (x0 := 1) (enc := Law12_op.cells) (xs := S) hw rfl) ?_
    refine dx_only 15 (by kernel_rfl) rfl rfl ?_
    refine CK [.o s20] hO rfl (fun k' hx hr hO' => sFindC_spec hl1 (hO := hO')) ?_
    rintro _ _ w ⟨rfl, rfl⟩ hO
    simp only [List.cons_append, List.nil_append] at hO
    refine o_done ?_
    refine ⟨SO.ks [] hO, ?_⟩
    refine dx_close 22 (by kernel_rfl) rfl rfl ?_
    refine CK [.o z] hO rfl (fun k' hx hr hO' => tFind_spec hI'.nodup hl1 (hO := hO')) ?_
    rintro _ _ w ⟨rfl, rfl⟩ hO
    simp only [List.cons_append, List.nil_append] at hO
    refine o_done ?_
    refine da_phase _ [31] (SO.ks [] hO) ?_
    refine dx_y 23 (by kernel_rfl) rfl rfl rfl (fun w ⟨m, hw⟩ => D2 (hp := rfl)) ?_
    refine dx_u 24 (by kernel_rfl) rfl rfl rfl (fun w => y_pick_f rfl rfl) ?_
    refine dx_u 25 (by kernel_rfl) rfl rfl rfl (fun w => y_move rfl) ?_
    refine dx_u 26 (by kernel_rfl) rfl rfl rfl (fun w => y_move rfl) ?_
    refine dx_u 27 (by kernel_rfl) rfl rfl rfl (fun w => y_cmpI rfl rfl rfl) ?_
    refine dx_u 28 (by kernel_rfl) rfl rfl rfl (fun w => y_move rfl) ?_
    refine dx_split 65 rfl (fun hg65 => ?_) (fun hg65 => ?_)
    · have h11_27 := of_decide_eq_true hg65
      refine dx_u 29 (by kernel_rfl) rfl rfl rfl (fun w => y_move rfl) ?_
      refine dx_u 30 (by kernel_rfl) rfl rfl rfl (fun w => y_move rfl) ?_
      refine dx_close 31 (by kernel_rfl) rfl rfl ?_
      refine CK [.o s20, .o z] hO rfl (fun k' hx hr hO' => same12_spec hl1 (hO := hO')) ?_
      rintro _ _ w ⟨rfl, rfl⟩ hO
      simp only [List.cons_append, List.nil_append] at hO
      refine o_done ?_
      refine da_phase _ [] (SO.ks [] hO) ?_
      refine dx_u 32 (by kernel_rfl) rfl rfl rfl (fun w => y_not rfl rfl) ?_
      refine dx_u 33 (by kernel_rfl) rfl rfl rfl (fun w => y_pick_t rfl rfl) ?_
      refine dx_u 34 (by kernel_rfl) rfl rfl rfl (fun w => y_pick_f rfl rfl) ?_
      refine dx_end (by kernel_rfl) ?_
      refine K3 (L9 (K5 (K8 (K3 (K1 ?_)))))
      refine l_y rfl rfl (y_move rfl) ?_
      refine l_y rfl rfl (D4) ?_
      refine l_y rfl rfl (y_assign rfl) ?_
      refine K2 ?_
      exact q_next ((x.1 + 1, l')) ⟨rfl, rfl, rfl, rfl, rfl, trivial⟩ ⟨hO.only [.o a, .o r, .o s20, .o z], by dsimp only; omega, hI'⟩ (by dsimp only; omega)
    · have h11_27 := of_decide_eq_false hg65
      refine dx_pass 29 (by kernel_rfl) rfl rfl rfl ?_
      refine dx_pass 30 (by kernel_rfl) rfl rfl rfl ?_
      refine dx_close 31 (by kernel_rfl) rfl rfl ?_
      refine M2 ?_
      refine o_done ?_
      refine da_phase _ [] (SO.ks [] hO) ?_
      refine dx_pass 32 (by kernel_rfl) rfl rfl rfl ?_
      refine dx_u 33 (by kernel_rfl) rfl rfl rfl (fun w => y_pick_f rfl rfl) ?_
      refine dx_u 34 (by kernel_rfl) rfl rfl rfl (fun w => y_pick_f rfl rfl) ?_
      refine dx_end (by kernel_rfl) ?_
      refine K3 (L9 (K5 (K8 (K3 (K1 ?_)))))
      refine l_y rfl rfl (y_move rfl) ?_
      refine l_y rfl rfl (D4) ?_
      refine l_y rfl rfl (y_assign rfl) ?_
      refine K2 ?_
      exact q_next ((x.1 + 1, l')) ⟨rfl, rfl, rfl, rfl, rfl, trivial⟩ ⟨hO.only [.o a, .o r, .o s20, .o z], by dsimp only; omega, hI'⟩ (by dsimp only; omega)
  · refine K2 (K3 (L9 (K7 (L1 (L1 (L2 (K3 (K0 (K1 ?_)))))))))
    refine l_y rfl rfl (y_move rfl) ?_
    refine l_y rfl rfl (y_move rfl) ?_
    refine CK [.o s20, .o z] hO rfl (fun k' hx hr hO' => same12_spec (Nat.le_trans hI.len hlA) (hO := hO')) ?_
    rintro _ _ w ⟨rfl, rfl⟩ hO
    simp only [List.cons_append, List.nil_append] at hO
    refine l_y rfl rfl (y_move rfl) ?_
    refine CK [] hO rfl (fun k' hx hr hO' => awake12_spec (hO := hO')) ?_
    rintro _ _ w ⟨rfl, rfl⟩ hO
    simp only [List.cons_append, List.nil_append] at hO
    refine l_y rfl rfl (y_pick_t rfl rfl) ?_
    refine l_y rfl rfl (y_assign rfl) ?_
    refine K2 (K3 (K6 ?_))
    exact fin1 rfl rfl ⟨_, rfl, hO⟩
end
end Go.Proofs.Ytbhicbpfdbnpfaa
