/- The walks of a call played on both lists, and of the law ActivePlays. -/
import Derived.Test.YtbhicbpfdbnpfaaAct12
set_option linter.unusedVariables false
set_option linter.unusedSimpArgs false
set_option maxRecDepth 100000
namespace Go.Proofs.Ytbhicbpfdbnpfaa
open Go Go.Hb Go.RowKit
section
variable {k : Ctx} {w : World} {a s r z : Nat} {A : List Node_one} {K : Int → List Int} {R : List Ref01_one} {L : List Api_entry} {o : Law13_op}
theorem PlI.has {k : Ctx} (h : PlI k A L) : ∀ e ∈ L, e.Node ≠ -1 → hasB A e.Node = true := fun e he hne => elB_has ((h.ent e he).resolve_left hne)
set_option maxHeartbeats 8000000 in
theorem play13_spec {k0 : Ctx} (t : Two A K R) (h : PlI k0 A L) (hk : ∀ v rows, Sli (Ro k0) v rows → Sli (Ro k) v rows) (hl : L.length ≤ 1900000) (ho : EOk k0 ⟨o.A, o.T⟩) (hO : Own k w [arenaL a A, actL s a L, rarL r R, ralL z r L]) :
    Tri Try.prog 46 #[.pointer (some ⟨s, 0, none⟩), .pointer (some ⟨z, 0, none⟩), .agg (Law13_op.cells o).toArray] k w fun v m => v = .bool true ∧ ∃ M, PlI k0 A M ∧ M.length ≤ L.length + 1 ∧ m = [arenaL a A, actL s a M, rarL r R, ralL z r M] := by
  refine enter (args := [.pointer (some ⟨s, 0, none⟩), .pointer (some ⟨z, 0, none⟩), .agg (Law13_op.cells o).toArray]) Try.func46 rfl rfl ?_
  have hn := t.pos
  have ha := t.tree.attrs
  refine K0 (K1 ?_)
  refine s_box (vs := [.int .i64 o.What, .int .i64 o.A, .int .i64 o.B, .int .i64 o.N, .string o.Text, .int .i64 o.T.Kind, .string o.T.Name, .string o.T.Data, .string o.T.System, .int .i64 o.T.Has, .bool o.T.Quirks, .int .i32 o.T.Char, .bool o.T.Self, .slice o.T.AttrsP o.T.Attrs.length o.T.AttrsC]) hO rfl rfl rfl (by rfl) fun b5 w hO => ?_
  refine l_y rfl rfl (y_assign rfl) ?_
  refine K2 (K3 (K0 (K0 (K1 ?_))))
  refine l_y rfl rfl (y_fldb (o' := 0) rfl) ?_
  refine l_y rfl rfl (D5 hO rfl) ?_
  refine K2 (K3 (K4 (K0 (K1 ?_))))
  refine Z0 (fun h2_0 => ?_) (fun h2_0 => ?_)
  · refine l_y rfl rfl (y_assign rfl) ?_
    refine K2 (K3 (L8 (K0 ?_)))
    refine da_region (by intro c a d v w h; cases d <;> exact h) ?_
    have hO := hO.drew
    refine da_phase _ [11] (SO.ks [.b b5] hO) ?_
    refine dx_u 0 (by kernel_rfl) rfl rfl rfl (fun w => y_move rfl) ?_
    refine dx_u 1 (by kernel_rfl) rfl rfl rfl (fun w => y_fldb (o' := 1) rfl) ?_
    refine dx_y 2 (by kernel_rfl) rfl rfl rfl (fun w ⟨m, hw⟩ => D5 hw rfl) ?_
    refine dx_u 3 (by kernel_rfl) rfl rfl rfl (fun w => y_fldb (o' := 5) rfl) ?_
    refine dx_y 4 (by kernel_rfl) rfl rfl rfl (fun w ⟨m, hw⟩ => D8 (cs := [.int .i64 o.T.Kind, .string o.T.Name, .string o.T.Data, .string o.T.System, .int .i64 o.T.Has, .bool o.T.Quirks, .int .i32 o.T.Char, .bool o.T.Self, .slice o.T.AttrsP o.T.Attrs.length o.T.AttrsC]) hw rfl) ?_
    refine dx_u 6 (by kernel_rfl) rfl rfl rfl (fun w => y_move rfl) ?_
    refine dx_u 7 (by kernel_rfl) rfl rfl rfl (fun w => y_fldb (o' := 1) rfl) ?_
    refine dx_y 8 (by kernel_rfl) rfl rfl rfl (fun w ⟨m, hw⟩ => D5 hw rfl) ?_
    refine dx_u 9 (by kernel_rfl) rfl rfl rfl (fun w => y_fldb (o' := 5) rfl) ?_
    refine dx_y 10 (by kernel_rfl) rfl rfl rfl (fun w ⟨m, hw⟩ => D8 (cs := [.int .i64 o.T.Kind, .string o.T.Name, .string o.T.Data, .string o.T.System, .int .i64 o.T.Has, .bool o.T.Quirks, .int .i32 o.T.Char, .bool o.T.Self, .slice o.T.AttrsP o.T.Attrs.length o.T.AttrsC]) hw rfl) ?_
    refine dx_only 5 (by kernel_rfl) rfl rfl ?_
    refine CK [.o a, .o s] hO rfl (fun k' hx hr hO' => aPush_spec (id := o.A) (tk := o.T) hn ha (by omega) h.has (fun e he => ⟨(hk _ _ (h.eok e he).1).ext hO hx, (h.eok e he).2⟩) ⟨(hk _ _ ho.1).ext hO hx, ho.2⟩ (hO := hO')) ?_
    rintro _ _ w ⟨rfl, rfl⟩ hO
    simp only [List.cons_append, List.nil_append] at hO
    refine o_done ?_
    refine ⟨SO.ks [.b b5] hO, ?_⟩
    refine dx_close 11 (by kernel_rfl) rfl rfl ?_
    refine CK [.o r, .o z] hO rfl (fun k' hx hr hO' => zPush_spec (id := o.A) (tk := o.T) t h.dist (by omega) h.has (fun e he => ⟨(hk _ _ (h.eok e he).1).ext hO hx, (h.eok e he).2⟩) ⟨(hk _ _ ho.1).ext hO hx, ho.2⟩ (hO := hO')) ?_
    rintro _ _ w ⟨rfl, rfl⟩ hO
    simp only [List.cons_append, List.nil_append] at hO
    refine o_done ?_
    refine da_phase _ [] (SO.ks [] hO) ?_
    refine dx_y 12 (by kernel_rfl) rfl rfl rfl (fun w ⟨m, hw⟩ => D0 (hp := rfl)) ?_
    refine dx_u 13 (by kernel_rfl) rfl rfl rfl (fun w => y_assign rfl) ?_
    refine dx_end (by kernel_rfl) ?_
    refine K3 (K6 (L0 (K9 ?_)))
    by_cases h0 : freshF A L o.A = 0
    · rw [if_pos h0] at hO
      obtain ⟨h1, h2⟩ := h.push (e := ⟨o.A, o.T⟩) h0 ho
      exact fin1 rfl rfl ⟨_, ⟨rfl, _, h1, h2, rfl⟩, hO.only [.o a, .o s, .o r, .o z]⟩
    · rw [if_neg h0] at hO
      exact fin1 rfl rfl ⟨_, ⟨rfl, _, h, by omega, rfl⟩, hO.only [.o a, .o s, .o r, .o z]⟩
  · refine l_y rfl rfl (y_assign rfl) ?_
    refine K2 (K3 (L9 (K0 (K1 ?_))))
    refine Z0 (fun h4_0 => ?_) (fun h4_0 => ?_)
    · refine l_y rfl rfl (y_assign rfl) ?_
      refine K2 (K3 (L8 (K0 (K1 ?_))))
      refine l_y rfl rfl (y_move rfl) ?_
      refine CK [.o z] hO rfl (fun k' hx hr hO' => zMark_spec (by omega) (hO := hO')) ?_
      rintro _ _ w ⟨rfl, rfl⟩ hO
      simp only [List.cons_append, List.nil_append] at hO
      refine K2 (K3 (K0 (K1 ?_)))
      refine l_y rfl rfl (y_move rfl) ?_
      refine CK [.o s] hO rfl (fun k' hx hr hO' => aMark_spec (by omega) (hO := hO')) ?_
      rintro _ _ w ⟨rfl, rfl⟩ hO
      simp only [List.cons_append, List.nil_append] at hO
      refine N2 ?_
      refine l_y rfl rfl (y_assign rfl) ?_
      refine K2 (K3 (K6 (L0 (K9 ?_))))
      exact fin1 rfl rfl ⟨_, ⟨rfl, _, h.mark, by simp, rfl⟩, hO.only [.o a, .o s, .o r, .o z]⟩
    · refine l_y rfl rfl (y_assign rfl) ?_
      refine K2 (K3 (L9 (K0 (K1 ?_))))
      refine Z0 (fun h7_0 => ?_) (fun h7_0 => ?_)
      · refine l_y rfl rfl (y_assign rfl) ?_
        refine K2 (K3 (L8 (K0 (K1 ?_))))
        refine l_y rfl rfl (y_move rfl) ?_
        refine CK [.o s] hO rfl (fun k' hx hr hO' => aClear_spec (by omega) (hO := hO')) ?_
        rintro _ _ w ⟨left, hL1, rfl, rfl⟩ hO
        simp only [List.cons_append, List.nil_append] at hO
        refine l_y rfl rfl (y_move rfl) ?_
        refine CK [.o z] hO rfl (fun k' hx hr hO' => zClear_spec (by omega) (hO := hO')) ?_
        rintro _ _ w ⟨left2, hL2, rfl, rfl⟩ hO
        simp only [List.cons_append, List.nil_append] at hO
        obtain rfl := hL1.uniq hL2
        refine N2 (hp := rfl) ?_
        refine l_y rfl rfl (y_assign rfl) ?_
        refine K2 (K3 (K6 (L0 (K9 ?_))))
        exact fin1 rfl rfl ⟨_, ⟨rfl, _, h.sub (List.take_sublist left L), by simp; omega, rfl⟩, hO.only [.o a, .o s, .o r, .o z]⟩
      · refine l_y rfl rfl (y_assign rfl) ?_
        refine K2 (K3 (L9 (K0 (K1 ?_))))
        refine Z0 (fun h9_0 => ?_) (fun h9_0 => ?_)
        · refine l_y rfl rfl (y_assign rfl) ?_
          refine K2 (K3 (L8 (K0 ?_)))
          refine da_region (by intro c a d v w h; cases d <;> exact h) ?_
          have hO := hO.drew
          refine da_phase _ [7] (SO.ks [.b b5] hO) ?_
          refine dx_u 0 (by kernel_rfl) rfl rfl rfl (fun w => y_move rfl) ?_
          refine dx_u 1 (by kernel_rfl) rfl rfl rfl (fun w => y_fldb (o' := 4) rfl) ?_
          refine dx_y 2 (by kernel_rfl) rfl rfl rfl (fun w ⟨m, hw⟩ => D5 hw rfl) ?_
          refine dx_u 4 (by kernel_rfl) rfl rfl rfl (fun w => y_move rfl) ?_
          refine dx_u 5 (by kernel_rfl) rfl rfl rfl (fun w => y_fldb (o' := 4) rfl) ?_
          refine dx_y 6 (by kernel_rfl) rfl rfl rfl (fun w ⟨m, hw⟩ => D5 hw rfl) ?_
          refine dx_only 3 (by kernel_rfl) rfl rfl ?_
          refine CK [.o a, .o s] hO rfl (fun k' hx hr hO' => aLast_spec hn ha (by omega) h.has (hO := hO')) ?_
          rintro _ _ w ⟨rfl, rfl⟩ hO
          simp only [List.cons_append, List.nil_append] at hO
          refine o_done ?_
          refine ⟨SO.ks [.b b5] hO, ?_⟩
          refine dx_close 7 (by kernel_rfl) rfl rfl ?_
          refine CK [.o r, .o z] hO rfl (fun k' hx hr hO' => zLast_spec t (by omega) h.has (hO := hO')) ?_
          rintro _ _ w ⟨rfl, rfl⟩ hO
          simp only [List.cons_append, List.nil_append] at hO
          refine o_done ?_
          refine da_phase _ [] (SO.ks [] hO) ?_
          refine dx_y 8 (by kernel_rfl) rfl rfl rfl (fun w ⟨m, hw⟩ => D0 (hp := rfl)) ?_
          refine dx_u 9 (by kernel_rfl) rfl rfl rfl (fun w => y_assign rfl) ?_
          refine dx_end (by kernel_rfl) ?_
          refine K3 (K6 (L0 (K9 ?_)))
          exact fin1 rfl rfl ⟨_, ⟨rfl, _, h, by omega, rfl⟩, hO.only [.o a, .o s, .o r, .o z]⟩
        · refine l_y rfl rfl (y_assign rfl) ?_
          refine K2 (K3 (L9 (K0 (K1 ?_))))
          refine Z0 (fun h11_0 => ?_) (fun h11_0 => ?_)
          · refine l_y rfl rfl (y_assign rfl) ?_
            refine K2 (K3 (L8 (K0 ?_)))
            refine da_region (by intro c a d v w h; cases d <;> exact h) ?_
            have hO := hO.drew
            refine da_phase _ [7] (SO.ks [.b b5] hO) ?_
            refine dx_u 0 (by kernel_rfl) rfl rfl rfl (fun w => y_move rfl) ?_
            refine dx_u 1 (by kernel_rfl) rfl rfl rfl (fun w => y_fldb (o' := 1) rfl) ?_
            refine dx_y 2 (by kernel_rfl) rfl rfl rfl (fun w ⟨m, hw⟩ => D5 hw rfl) ?_
            refine dx_u 4 (by kernel_rfl) rfl rfl rfl (fun w => y_move rfl) ?_
            refine dx_u 5 (by kernel_rfl) rfl rfl rfl (fun w => y_fldb (o' := 1) rfl) ?_
            refine dx_y 6 (by kernel_rfl) rfl rfl rfl (fun w ⟨m, hw⟩ => D5 hw rfl) ?_
            refine dx_only 3 (by kernel_rfl) rfl rfl ?_
            refine CK [.o s] hO rfl (fun k' hx hr hO' => aRemove_spec (by omega) (hO := hO')) ?_
            rintro _ _ w ⟨rfl, rfl⟩ hO
            simp only [List.cons_append, List.nil_append] at hO
            refine o_done ?_
            refine ⟨SO.ks [.b b5] hO, ?_⟩
            refine dx_close 7 (by kernel_rfl) rfl rfl ?_
            refine CK [.o z] hO rfl (fun k' hx hr hO' => zRemove_spec h.dist (by omega) (hO := hO')) ?_
            rintro _ _ w ⟨rfl, rfl⟩ hO
            simp only [List.cons_append, List.nil_append] at hO
            refine o_done ?_
            refine da_phase _ [] (SO.ks [] hO) ?_
            refine dx_y 8 (by kernel_rfl) rfl rfl rfl (fun w ⟨m, hw⟩ => D0 (hp := rfl)) ?_
            refine dx_u 9 (by kernel_rfl) rfl rfl rfl (fun w => y_assign rfl) ?_
            refine dx_end (by kernel_rfl) ?_
            refine K3 (K6 (L0 (K9 ?_)))
            exact fin1 rfl rfl ⟨_, ⟨rfl, _, h.removeE.1, h.removeE.2, rfl⟩, hO.only [.o a, .o s, .o r, .o z]⟩
          · refine l_y rfl rfl (y_assign rfl) ?_
            refine K2 (K3 (L9 (K0 (K1 ?_))))
            refine Z0 (fun h13_0 => ?_) (fun h13_0 => ?_)
            · refine l_y rfl rfl (y_assign rfl) ?_
              refine K2 (K3 (L8 (K0 ?_)))
              refine da_region (by intro c a d v w h; cases d <;> exact h) ?_
              have hO := hO.drew
              refine da_phase _ [15] (SO.ks [.b b5] hO) ?_
              refine dx_u 0 (by kernel_rfl) rfl rfl rfl (fun w => y_move rfl) ?_
              refine dx_u 1 (by kernel_rfl) rfl rfl rfl (fun w => y_fldb (o' := 3) rfl) ?_
              refine dx_y 2 (by kernel_rfl) rfl rfl rfl (fun w ⟨m, hw⟩ => D5 hw rfl) ?_
              refine dx_u 3 (by kernel_rfl) rfl rfl rfl (fun w => y_fldb (o' := 1) rfl) ?_
              refine dx_y 4 (by kernel_rfl) rfl rfl rfl (fun w ⟨m, hw⟩ => D5 hw rfl) ?_
              refine dx_u 5 (by kernel_rfl) rfl rfl rfl (fun w => y_fldb (o' := 5) rfl) ?_
              refine dx_y 6 (by kernel_rfl) rfl rfl rfl (fun w ⟨m, hw⟩ => D8 (cs := [.int .i64 o.T.Kind, .string o.T.Name, .string o.T.Data, .string o.T.System, .int .i64 o.T.Has, .bool o.T.Quirks, .int .i32 o.T.Char, .bool o.T.Self, .slice o.T.AttrsP o.T.Attrs.length o.T.AttrsC]) hw rfl) ?_
              refine dx_u 8 (by kernel_rfl) rfl rfl rfl (fun w => y_move rfl) ?_
              refine dx_u 9 (by kernel_rfl) rfl rfl rfl (fun w => y_fldb (o' := 3) rfl) ?_
              refine dx_y 10 (by kernel_rfl) rfl rfl rfl (fun w ⟨m, hw⟩ => D5 hw rfl) ?_
              refine dx_u 11 (by kernel_rfl) rfl rfl rfl (fun w => y_fldb (o' := 1) rfl) ?_
              refine dx_y 12 (by kernel_rfl) rfl rfl rfl (fun w ⟨m, hw⟩ => D5 hw rfl) ?_
              refine dx_u 13 (by kernel_rfl) rfl rfl rfl (fun w => y_fldb (o' := 5) rfl) ?_
              refine dx_y 14 (by kernel_rfl) rfl rfl rfl (fun w ⟨m, hw⟩ => D8 (cs := [.int .i64 o.T.Kind, .string o.T.Name, .string o.T.Data, .string o.T.System, .int .i64 o.T.Has, .bool o.T.Quirks, .int .i32 o.T.Char, .bool o.T.Self, .slice o.T.AttrsP o.T.Attrs.length o.T.AttrsC]) hw rfl) ?_
              refine dx_only 7 (by kernel_rfl) rfl rfl ?_
              refine CK [.o a, .o s] hO rfl (fun k' hx hr hO' => aPut_spec (id := o.A) (tk := o.T) hn ha (by omega) (hO := hO')) ?_
              rintro _ _ w ⟨rfl, rfl⟩ hO
              simp only [List.cons_append, List.nil_append] at hO
              refine o_done ?_
              refine ⟨SO.ks [.b b5] hO, ?_⟩
              refine dx_close 15 (by kernel_rfl) rfl rfl ?_
              refine CK [.o r, .o z] hO rfl (fun k' hx hr hO' => zPut_spec (id := o.A) (tk := o.T) t h.dist (by omega) (hO := hO')) ?_
              rintro _ _ w ⟨rfl, rfl⟩ hO
              simp only [List.cons_append, List.nil_append] at hO
              refine o_done ?_
              refine da_phase _ [] (SO.ks [] hO) ?_
              refine dx_y 16 (by kernel_rfl) rfl rfl rfl (fun w ⟨m, hw⟩ => D0 (hp := rfl)) ?_
              refine dx_u 17 (by kernel_rfl) rfl rfl rfl (fun w => y_assign rfl) ?_
              refine dx_end (by kernel_rfl) ?_
              refine K3 (K6 (L0 (K9 ?_)))
              exact fin1 rfl rfl ⟨_, ⟨rfl, _, (h.putE ho).1, (h.putE ho).2, rfl⟩, hO.only [.o a, .o s, .o r, .o z]⟩
            · refine l_y rfl rfl (y_assign rfl) ?_
              refine K2 (K3 (L9 (K5 (K8 (K3 (K0 ?_))))))
              refine da_region (by intro c a d v w h; cases d <;> exact h) ?_
              have hO := hO.drew
              refine da_phase _ [11] (SO.ks [.b b5] hO) ?_
              refine dx_u 0 (by kernel_rfl) rfl rfl rfl (fun w => y_move rfl) ?_
              refine dx_u 1 (by kernel_rfl) rfl rfl rfl (fun w => y_fldb (o' := 2) rfl) ?_
              refine dx_y 2 (by kernel_rfl) rfl rfl rfl (fun w ⟨m, hw⟩ => D5 hw rfl) ?_
              refine dx_u 3 (by kernel_rfl) rfl rfl rfl (fun w => y_fldb (o' := 1) rfl) ?_
              refine dx_y 4 (by kernel_rfl) rfl rfl rfl (fun w ⟨m, hw⟩ => D5 hw rfl) ?_
              refine dx_u 6 (by kernel_rfl) rfl rfl rfl (fun w => y_move rfl) ?_
              refine dx_u 7 (by kernel_rfl) rfl rfl rfl (fun w => y_fldb (o' := 2) rfl) ?_
              refine dx_y 8 (by kernel_rfl) rfl rfl rfl (fun w ⟨m, hw⟩ => D5 hw rfl) ?_
              refine dx_u 9 (by kernel_rfl) rfl rfl rfl (fun w => y_fldb (o' := 1) rfl) ?_
              refine dx_y 10 (by kernel_rfl) rfl rfl rfl (fun w ⟨m, hw⟩ => D5 hw rfl) ?_
              refine dx_only 5 (by kernel_rfl) rfl rfl ?_
              refine CK [.o a, .o s] hO rfl (fun k' hx hr hO' => aSwap_spec hn ha (by omega) (hO := hO')) ?_
              rintro _ _ w ⟨rfl, rfl⟩ hO
              simp only [List.cons_append, List.nil_append] at hO
              refine o_done ?_
              refine ⟨SO.ks [.b b5] hO, ?_⟩
              refine dx_close 11 (by kernel_rfl) rfl rfl ?_
              refine CK [.o r, .o z] hO rfl (fun k' hx hr hO' => zSwap_spec t h.dist (by omega) (hO := hO')) ?_
              rintro _ _ w ⟨rfl, rfl⟩ hO
              simp only [List.cons_append, List.nil_append] at hO
              refine o_done ?_
              refine da_phase _ [] (SO.ks [] hO) ?_
              refine dx_y 12 (by kernel_rfl) rfl rfl rfl (fun w ⟨m, hw⟩ => D0 (hp := rfl)) ?_
              refine dx_u 13 (by kernel_rfl) rfl rfl rfl (fun w => y_assign rfl) ?_
              refine dx_end (by kernel_rfl) ?_
              refine K3 (K6 ?_)
              exact fin1 rfl rfl ⟨_, ⟨rfl, _, h.swapE.1, h.swapE.2, rfl⟩, hO.only [.o a, .o s, .o r, .o z]⟩
end
end Go.Proofs.Ytbhicbpfdbnpfaa
