/- The walks of one call to both arenas. -/
import Derived.Test.YtnolpajggmfpdaaPlay1
set_option linter.unusedVariables false
set_option linter.unusedSimpArgs false
set_option maxRecDepth 100000
namespace Go.Proofs.Ytnolpajggmfpdaa
open Go Go.Hb Go.RowKit
/-- where both arenas may not answer the same: one place is left, and a text is too long -/
def goodOp (A : List Node_one) (o : Law01_op) : Prop := A.length ≠ 32767 ∨ longB (o.Text :: attrTexts o.L) = false
theorem simText (s : ByteArray) : Sim1 (blankN (textN s)) [] (blankR (textR s)) := ⟨rfl, rfl, rfl, rfl, rfl, rfl, rfl, rfl, rfl, rfl⟩
theorem simComment (s : ByteArray) : Sim1 (blankN (commentN s)) [] (blankR (commentR s)) := ⟨rfl, rfl, rfl, rfl, rfl, rfl, rfl, rfl, rfl, rfl⟩
theorem simDoctype (a b c : ByteArray) : Sim1 (blankN (doctypeN a b c)) [] (blankR (doctypeR a b c)) := ⟨rfl, rfl, rfl, rfl, rfl, rfl, rfl, rfl, rfl, rfl⟩
theorem simFragment : Sim1 (blankN fragmentN) [] (blankR fragmentR) := ⟨rfl, rfl, rfl, rfl, rfl, rfl, rfl, rfl, rfl, rfl⟩
set_option maxHeartbeats 4000000 in
theorem made_spec {k : Ctx} {w : World} {a r : Nat} {A : List Node_one} {K : Int → List Int} {R : List Ref01_one} {o : Law01_op} (t : Two A K R) (hs : Sli (Ro k) (.slice o.LP o.L.length o.LC) (o.L.map Api_attr.cells)) (hol : o.L.length ≤ 1048576) (hO : Own k w [arenaL a A, rarL r R]) :
    Tri Try.prog 43 #[.pointer (some ⟨a, 0, none⟩), .pointer (some ⟨r, 0, none⟩), .agg (Law01_op.cells o).toArray] k w fun v m => ∃ b, v = .bool b ∧ (goodOp A o → b = true) ∧ ∃ A' K' R', Two A' K' R' ∧ m = [arenaL a A', rarL r R'] := by
  refine enter (args := [.pointer (some ⟨a, 0, none⟩), .pointer (some ⟨r, 0, none⟩), .agg (Law01_op.cells o).toArray]) Try.func43 rfl rfl ?_
  have hn := t.pos
  have hc := t.max
  have hcr := t.rmax
  refine K0 (K1 ?_)
  refine s_box (vs := [.int .i64 o.What, .int .i64 o.A, .int .i64 o.B, .int .i64 o.C, .int .i64 o.N, .string o.Text, .string o.More, .int .i64 o.X.Space, .string o.X.Prefix, .string o.X.Name, .string o.X.Value, .slice o.LP o.L.length o.LC]) hO rfl rfl rfl (by rfl) fun b5 w hO => ?_
  refine l_y rfl rfl (y_assign rfl) ?_
  refine K2 (K3 (K0 (K1 ?_)))
  refine l_y rfl rfl (y_assign rfl) ?_
  refine K2 (K3 (K0 (K1 ?_)))
  refine l_y rfl rfl (y_assign rfl) ?_
  refine K2 (K3 (K0 (K1 ?_)))
  refine l_y rfl rfl (y_assign rfl) ?_
  refine K2 (K3 (K0 (K1 ?_)))
  refine l_y rfl rfl (y_assign rfl) ?_
  refine K2 (K3 (K0 (K0 (K1 ?_))))
  refine l_y rfl rfl (y_fldb (o' := 0) rfl) ?_
  refine l_y rfl rfl (D5 hO rfl) ?_
  refine K2 (K3 (K4 (K0 (K1 ?_))))
  refine Z0 (fun h8_0 => ?_) (fun h8_0 => ?_)
  · refine l_y rfl rfl (y_assign rfl) ?_
    refine K2 (K3 (L8 (K0 ?_)))
    refine da_region (by intro c a d v w h; cases d <;> exact h) ?_
    have hO := hO.drew
    refine da_phase _ [9] (SO.ks [.b b5] hO) ?_
    refine dx_u 0 (by kernel_rfl) rfl rfl rfl (fun w => y_move rfl) ?_
    refine dx_u 1 (by kernel_rfl) rfl rfl rfl (fun w => y_fldb (o' := 4) rfl) ?_
    refine dx_y 2 (by kernel_rfl) rfl rfl rfl (fun w ⟨m, hw⟩ => D5 hw rfl) ?_
    refine dx_u 3 (by kernel_rfl) rfl rfl rfl (fun w => y_fldb (o' := 5) rfl) ?_
    refine dx_y 4 (by kernel_rfl) rfl rfl rfl (fun w ⟨m, hw⟩ => D5 hw rfl) ?_
    refine dx_u 6 (by kernel_rfl) rfl rfl rfl (fun w => y_fldb (o' := 11) rfl) ?_
    refine dx_y 7 (by kernel_rfl) rfl rfl rfl (fun w ⟨m, hw⟩ => D5 hw rfl) ?_
    refine dx_only 5 (by kernel_rfl) rfl rfl ?_
    refine s_lit0 Api_attr.cells hO (fun b31 w hO => ?_)
    refine o_done ?_
    refine ⟨SO.ks [.b b5] hO, ?_⟩
    refine dx_only 8 (by kernel_rfl) rfl rfl ?_
    refine s_app0 hO rfl rfl (src_ro hO (by assumption)) (fun p34 c34 w hO gs34 => ?_)
    refine o_done ?_
    refine ⟨SO.ks [.b b5] hO, ?_⟩
    refine dx_close 9 (by kernel_rfl) rfl rfl ?_
    refine CK [.o a] hO rfl (fun k' hx hr hO' => Element_spec hn hc (sls_roK (p := p34) hr (sls_fct hO)) (hO := hO')) ?_
    rintro _ _ w ⟨q1, d1, rfl, rfl⟩ hO
    refine o_done ?_
    refine da_phase _ [] (SO.ks [] hO) ?_
    refine dx_u 10 (by kernel_rfl) rfl rfl rfl (fun w => y_move rfl) ?_
    refine dx_u 11 (by kernel_rfl) rfl rfl rfl (fun w => y_extract rfl rfl) ?_
    refine dx_u 12 (by kernel_rfl) rfl rfl rfl (fun w => y_extract rfl rfl) ?_
    refine dx_u 13 (by kernel_rfl) rfl rfl rfl (fun w => y_assign rfl) ?_
    refine dx_u 14 (by kernel_rfl) rfl rfl rfl (fun w => y_assign rfl) ?_
    refine dx_end (by kernel_rfl) ?_
    refine K3 (K1 ?_)
    refine l_y rfl rfl (y_move rfl) ?_
    refine l_y rfl rfl (y_fldb (o' := 4) rfl) ?_
    refine l_y rfl rfl (D5 hO rfl) ?_
    refine l_y rfl rfl (y_fldb (o' := 5) rfl) ?_
    refine l_y rfl rfl (D5 hO rfl) ?_
    refine l_y rfl rfl (y_fldb (o' := 11) rfl) ?_
    refine l_y rfl rfl (D5 hO rfl) ?_
    refine CK [.o r] hO rfl (fun k' hx hr hO' => rElement_spec hcr (hs.ext hO hx) (hO := hO')) ?_
    rintro _ _ w ⟨q2, d2, rfl, rfl⟩ hO
    simp only [List.cons_append, List.nil_append] at hO
    obtain ⟨e1, e2, Kz, t9⟩ := el_both t o.N o.Text o.L q1 q2 d1 d2
    refine l_y rfl rfl (y_move rfl) ?_
    refine l_y rfl rfl (y_extract rfl rfl) ?_
    refine l_y rfl rfl (y_extract rfl rfl) ?_
    refine l_y rfl rfl (y_assign rfl) ?_
    refine l_y rfl rfl (y_assign rfl) ?_
    refine K2 (K8 (K3 (K0 (K1 ?_))))
    refine l_y rfl rfl (y_move rfl) ?_
    refine l_y rfl rfl (y_move rfl) ?_
    refine N2 (hp := e1) ?_
    refine l_y rfl rfl (y_move rfl) ?_
    refine l_y rfl rfl (y_move rfl) ?_
    refine l_y rfl rfl (y_move rfl) ?_
    refine Z0 (fun h20_6 => ?_) (fun h20_6 => ?_)
    · first
      | (exfalso; omega)
      | skip
        refine l_y rfl rfl (y_pick_t rfl rfl) ?_
        refine l_y rfl rfl (y_assign rfl) ?_
        refine K2 (K3 (K6 ?_))
        refine fin1 rfl rfl ⟨_, ⟨_, rfl, ?_, _, Kz, _, t9, rfl⟩, hO.only [.o a, .o r]⟩
        first | exact fun _ => rfl | exact fun h => absurd (e2 h) h20_6
    · first
      | (exfalso; omega)
      | skip
        refine l_y rfl rfl (y_pick_t rfl rfl) ?_
        refine l_y rfl rfl (y_assign rfl) ?_
        refine K2 (K3 (K6 ?_))
        refine fin1 rfl rfl ⟨_, ⟨_, rfl, ?_, _, Kz, _, t9, rfl⟩, hO.only [.o a, .o r]⟩
        first | exact fun _ => rfl | exact fun h => absurd (e2 h) h20_6
  · refine l_y rfl rfl (y_assign rfl) ?_
    refine K2 (K3 (L9 (K0 (K1 ?_))))
    refine Z0 (fun h11_0 => ?_) (fun h11_0 => ?_)
    · refine l_y rfl rfl (y_assign rfl) ?_
      refine K2 (K3 (L8 (K0 (K1 ?_))))
      refine l_y rfl rfl (y_move rfl) ?_
      refine l_y rfl rfl (y_fldb (o' := 5) rfl) ?_
      refine l_y rfl rfl (D5 hO rfl) ?_
      refine CK [.o a] hO rfl (fun k' hx hr hO' => Text_spec hn hc (hO := hO')) ?_
      rintro _ _ w ⟨rfl, rfl⟩ hO
      refine l_y rfl rfl (y_move rfl) ?_
      refine l_y rfl rfl (y_extract rfl rfl) ?_
      refine l_y rfl rfl (y_extract rfl rfl) ?_
      refine l_y rfl rfl (y_assign rfl) ?_
      refine l_y rfl rfl (y_assign rfl) ?_
      refine K2 (K3 (K1 ?_))
      refine l_y rfl rfl (y_move rfl) ?_
      refine l_y rfl rfl (y_fldb (o' := 5) rfl) ?_
      refine l_y rfl rfl (D5 hO rfl) ?_
      refine CK [.o r] hO rfl (fun k' hx hr hO' => rText_spec hcr (hO := hO')) ?_
      rintro _ _ w ⟨rfl, rfl⟩ hO
      simp only [List.cons_append, List.nil_append] at hO
      obtain ⟨e1, e2, Kz, t9⟩ := add_both t [o.Text] (Nat.zero_le _) (simText o.Text)
      refine l_y rfl rfl (y_move rfl) ?_
      refine l_y rfl rfl (y_extract rfl rfl) ?_
      refine l_y rfl rfl (y_extract rfl rfl) ?_
      refine l_y rfl rfl (y_assign rfl) ?_
      refine l_y rfl rfl (y_assign rfl) ?_
      refine K2 (K8 (K3 (K0 (K1 ?_))))
      refine l_y rfl rfl (y_move rfl) ?_
      refine l_y rfl rfl (y_move rfl) ?_
      refine N2 (hp := e1) ?_
      refine l_y rfl rfl (y_move rfl) ?_
      refine l_y rfl rfl (y_move rfl) ?_
      refine l_y rfl rfl (y_move rfl) ?_
      refine Z0 (fun h20_6 => ?_) (fun h20_6 => ?_)
      · first
        | (exfalso; omega)
        | skip
          refine l_y rfl rfl (y_pick_t rfl rfl) ?_
          refine l_y rfl rfl (y_assign rfl) ?_
          refine K2 (K3 (K6 ?_))
          refine fin1 rfl rfl ⟨_, ⟨_, rfl, ?_, _, Kz, _, t9, rfl⟩, hO.only [.o a, .o r]⟩
          first | exact fun _ => rfl | exact fun h => absurd (e2 h) h20_6
      · first
        | (exfalso; omega)
        | skip
          refine l_y rfl rfl (y_pick_t rfl rfl) ?_
          refine l_y rfl rfl (y_assign rfl) ?_
          refine K2 (K3 (K6 ?_))
          refine fin1 rfl rfl ⟨_, ⟨_, rfl, ?_, _, Kz, _, t9, rfl⟩, hO.only [.o a, .o r]⟩
          first | exact fun _ => rfl | exact fun h => absurd (e2 h) h20_6
    · refine l_y rfl rfl (y_assign rfl) ?_
      refine K2 (K3 (L9 (K0 (K1 ?_))))
      refine Z0 (fun h14_0 => ?_) (fun h14_0 => ?_)
      · refine l_y rfl rfl (y_assign rfl) ?_
        refine K2 (K3 (L8 (K0 (K1 ?_))))
        refine l_y rfl rfl (y_move rfl) ?_
        refine l_y rfl rfl (y_fldb (o' := 5) rfl) ?_
        refine l_y rfl rfl (D5 hO rfl) ?_
        refine CK [.o a] hO rfl (fun k' hx hr hO' => Comment_spec hn hc (hO := hO')) ?_
        rintro _ _ w ⟨rfl, rfl⟩ hO
        refine l_y rfl rfl (y_move rfl) ?_
        refine l_y rfl rfl (y_extract rfl rfl) ?_
        refine l_y rfl rfl (y_extract rfl rfl) ?_
        refine l_y rfl rfl (y_assign rfl) ?_
        refine l_y rfl rfl (y_assign rfl) ?_
        refine K2 (K3 (K1 ?_))
        refine l_y rfl rfl (y_move rfl) ?_
        refine l_y rfl rfl (y_fldb (o' := 5) rfl) ?_
        refine l_y rfl rfl (D5 hO rfl) ?_
        refine CK [.o r] hO rfl (fun k' hx hr hO' => rComment_spec hcr (hO := hO')) ?_
        rintro _ _ w ⟨rfl, rfl⟩ hO
        simp only [List.cons_append, List.nil_append] at hO
        obtain ⟨e1, e2, Kz, t9⟩ := add_both t [o.Text] (Nat.zero_le _) (simComment o.Text)
        refine l_y rfl rfl (y_move rfl) ?_
        refine l_y rfl rfl (y_extract rfl rfl) ?_
        refine l_y rfl rfl (y_extract rfl rfl) ?_
        refine l_y rfl rfl (y_assign rfl) ?_
        refine l_y rfl rfl (y_assign rfl) ?_
        refine K2 (K8 (K3 (K0 (K1 ?_))))
        refine l_y rfl rfl (y_move rfl) ?_
        refine l_y rfl rfl (y_move rfl) ?_
        refine N2 (hp := e1) ?_
        refine l_y rfl rfl (y_move rfl) ?_
        refine l_y rfl rfl (y_move rfl) ?_
        refine l_y rfl rfl (y_move rfl) ?_
        refine Z0 (fun h20_6 => ?_) (fun h20_6 => ?_)
        · first
          | (exfalso; omega)
          | skip
            refine l_y rfl rfl (y_pick_t rfl rfl) ?_
            refine l_y rfl rfl (y_assign rfl) ?_
            refine K2 (K3 (K6 ?_))
            refine fin1 rfl rfl ⟨_, ⟨_, rfl, ?_, _, Kz, _, t9, rfl⟩, hO.only [.o a, .o r]⟩
            first | exact fun _ => rfl | exact fun h => absurd (e2 h) h20_6
        · first
          | (exfalso; omega)
          | skip
            refine l_y rfl rfl (y_pick_t rfl rfl) ?_
            refine l_y rfl rfl (y_assign rfl) ?_
            refine K2 (K3 (K6 ?_))
            refine fin1 rfl rfl ⟨_, ⟨_, rfl, ?_, _, Kz, _, t9, rfl⟩, hO.only [.o a, .o r]⟩
            first | exact fun _ => rfl | exact fun h => absurd (e2 h) h20_6
      · refine l_y rfl rfl (y_assign rfl) ?_
        refine K2 (K3 (L9 (K0 (K1 ?_))))
        refine Z0 (fun h17_0 => ?_) (fun h17_0 => ?_)
        · refine l_y rfl rfl (y_assign rfl) ?_
          refine K2 (K3 (L8 (K0 (K1 ?_))))
          refine l_y rfl rfl (y_move rfl) ?_
          refine l_y rfl rfl (y_fldb (o' := 5) rfl) ?_
          refine l_y rfl rfl (D5 hO rfl) ?_
          refine l_y rfl rfl (y_fldb (o' := 6) rfl) ?_
          refine l_y rfl rfl (D5 hO rfl) ?_
          refine l_y rfl rfl (y_fldb (o' := 6) rfl) ?_
          refine l_y rfl rfl (D5 hO rfl) ?_
          refine CK [.o a] hO rfl (fun k' hx hr hO' => Doctype_spec hn hc (hO := hO')) ?_
          rintro _ _ w ⟨rfl, rfl⟩ hO
          refine l_y rfl rfl (y_move rfl) ?_
          refine l_y rfl rfl (y_extract rfl rfl) ?_
          refine l_y rfl rfl (y_extract rfl rfl) ?_
          refine l_y rfl rfl (y_assign rfl) ?_
          refine l_y rfl rfl (y_assign rfl) ?_
          refine K2 (K3 (K1 ?_))
          refine l_y rfl rfl (y_move rfl) ?_
          refine l_y rfl rfl (y_fldb (o' := 5) rfl) ?_
          refine l_y rfl rfl (D5 hO rfl) ?_
          refine l_y rfl rfl (y_fldb (o' := 6) rfl) ?_
          refine l_y rfl rfl (D5 hO rfl) ?_
          refine l_y rfl rfl (y_fldb (o' := 6) rfl) ?_
          refine l_y rfl rfl (D5 hO rfl) ?_
          refine CK [.o r] hO rfl (fun k' hx hr hO' => rDoctype_spec hcr (hO := hO')) ?_
          rintro _ _ w ⟨rfl, rfl⟩ hO
          simp only [List.cons_append, List.nil_append] at hO
          obtain ⟨e1, e2, Kz, t9⟩ := add_both t [o.Text, o.More, o.More] (Nat.zero_le _) (simDoctype o.Text o.More o.More)
          refine l_y rfl rfl (y_move rfl) ?_
          refine l_y rfl rfl (y_extract rfl rfl) ?_
          refine l_y rfl rfl (y_extract rfl rfl) ?_
          refine l_y rfl rfl (y_assign rfl) ?_
          refine l_y rfl rfl (y_assign rfl) ?_
          refine K2 (K8 (K3 (K0 (K1 ?_))))
          refine l_y rfl rfl (y_move rfl) ?_
          refine l_y rfl rfl (y_move rfl) ?_
          refine N2 (hp := e1) ?_
          refine l_y rfl rfl (y_move rfl) ?_
          refine l_y rfl rfl (y_move rfl) ?_
          refine l_y rfl rfl (y_move rfl) ?_
          refine Z0 (fun h20_6 => ?_) (fun h20_6 => ?_)
          · first
            | (exfalso; omega)
            | skip
              refine l_y rfl rfl (y_pick_t rfl rfl) ?_
              refine l_y rfl rfl (y_assign rfl) ?_
              refine K2 (K3 (K6 ?_))
              refine fin1 rfl rfl ⟨_, ⟨_, rfl, ?_, _, Kz, _, t9, rfl⟩, hO.only [.o a, .o r]⟩
              first | exact fun _ => rfl | exact fun h => absurd (e2 h) h20_6
          · first
            | (exfalso; omega)
            | skip
              refine l_y rfl rfl (y_pick_t rfl rfl) ?_
              refine l_y rfl rfl (y_assign rfl) ?_
              refine K2 (K3 (K6 ?_))
              refine fin1 rfl rfl ⟨_, ⟨_, rfl, ?_, _, Kz, _, t9, rfl⟩, hO.only [.o a, .o r]⟩
              first | exact fun _ => rfl | exact fun h => absurd (e2 h) h20_6
        · refine l_y rfl rfl (y_assign rfl) ?_
          refine K2 (K3 (L9 (K0 (K1 ?_))))
          refine l_y rfl rfl (y_move rfl) ?_
          refine CK [.o a] hO rfl (fun k' hx hr hO' => Fragment_spec hn hc (hO := hO')) ?_
          rintro _ _ w ⟨rfl, rfl⟩ hO
          refine l_y rfl rfl (y_move rfl) ?_
          refine l_y rfl rfl (y_extract rfl rfl) ?_
          refine l_y rfl rfl (y_extract rfl rfl) ?_
          refine l_y rfl rfl (y_assign rfl) ?_
          refine l_y rfl rfl (y_assign rfl) ?_
          refine K2 (K3 (K1 ?_))
          refine l_y rfl rfl (y_move rfl) ?_
          refine CK [.o r] hO rfl (fun k' hx hr hO' => rFragment_spec hcr (hO := hO')) ?_
          rintro _ _ w ⟨rfl, rfl⟩ hO
          simp only [List.cons_append, List.nil_append] at hO
          obtain ⟨e1, e2, Kz, t9⟩ := add_both t [] (Nat.zero_le _) simFragment
          refine l_y rfl rfl (y_move rfl) ?_
          refine l_y rfl rfl (y_extract rfl rfl) ?_
          refine l_y rfl rfl (y_extract rfl rfl) ?_
          refine l_y rfl rfl (y_assign rfl) ?_
          refine l_y rfl rfl (y_assign rfl) ?_
          refine K2 (K8 (K3 (K0 (K1 ?_))))
          refine l_y rfl rfl (y_move rfl) ?_
          refine l_y rfl rfl (y_move rfl) ?_
          refine N2 (hp := e1) ?_
          refine l_y rfl rfl (y_move rfl) ?_
          refine l_y rfl rfl (y_move rfl) ?_
          refine l_y rfl rfl (y_move rfl) ?_
          refine Z0 (fun h20_6 => ?_) (fun h20_6 => ?_)
          · first
            | (exfalso; omega)
            | skip
              refine l_y rfl rfl (y_pick_t rfl rfl) ?_
              refine l_y rfl rfl (y_assign rfl) ?_
              refine K2 (K3 (K6 ?_))
              refine fin1 rfl rfl ⟨_, ⟨_, rfl, ?_, _, Kz, _, t9, rfl⟩, hO.only [.o a, .o r]⟩
              first | exact fun _ => rfl | exact fun h => absurd (e2 h) h20_6
          · first
            | (exfalso; omega)
            | skip
              refine l_y rfl rfl (y_pick_t rfl rfl) ?_
              refine l_y rfl rfl (y_assign rfl) ?_
              refine K2 (K3 (K6 ?_))
              refine fin1 rfl rfl ⟨_, ⟨_, rfl, ?_, _, Kz, _, t9, rfl⟩, hO.only [.o a, .o r]⟩
              first | exact fun _ => rfl | exact fun h => absurd (e2 h) h20_6
theorem Two.link {A : List Node_one} {K : Int → List Int} {R R' : List Ref01_one} (t : Two A K R) {up id before : Int} (s : Sim (linkL A up id before).2 (linkKs A K up id before) R') : Two (linkL A up id before).2 (linkKs A K up id before) R' := ⟨t.tree.linkS _ _ _, s, by rw [linkL_len]; exact t.pos, by rw [linkL_len]; exact t.max⟩
theorem Two.unlink {A : List Node_one} {K : Int → List Int} {R R' : List Ref01_one} (t : Two A K R) {id : Int} (s : Sim (unlinkL A id).2 (unlinkKs A K id) R') : Two (unlinkL A id).2 (unlinkKs A K id) R' := ⟨t.tree.unlinkS _, s, by rw [unlinkL_len]; exact t.pos, by rw [unlinkL_len]; exact t.max⟩
theorem Tree.data {A : List Node_one} {K : Int → List Int} (t : Tree A K) {id : Int} {sd : ByteArray} : Tree (setDataL A id sd).2 K := by
  have hlen : (setDataL A id sd).2.length = A.length := setDataL_len
  have f1 : ∀ y : Int, 0 ≤ y → ∃ v, at_ (setDataL A id sd).2 y.toNat = { at_ A y.toNat with Node := { (at_ A y.toNat).Node with Data := v } } := fun y hy => by
    unfold setDataL
    by_cases c1 : hasB A id = false
    · rw [if_pos c1]; exact ⟨_, rfl⟩
    rw [if_neg c1]
    by_cases c2 : (at_ A id.toNat).Node.Kind ≠ 2 ∧ (at_ A id.toNat).Node.Kind ≠ 3
    · rw [if_pos c2]; exact ⟨_, rfl⟩
    rw [if_neg c2]
    by_cases c3 : 1048576 < sd.size
    · rw [if_pos c3]; exact ⟨_, rfl⟩
    rw [if_neg c3]
    have hid : InA A id := inA_iff.1 (by cases hb : hasB A id with | true => rfl | false => exact absurd hb c1)
    show ∃ v, at_ (setData A id sd) y.toNat = _
    rw [setData, at_setI hid hy]
    split
    · next e => rw [e]; exact ⟨_, rfl⟩
    · exact ⟨_, rfl⟩
  obtain ⟨B, hB⟩ : ∃ B, B = (setDataL A id sd).2 := ⟨_, rfl⟩
  rw [← hB] at f1 hlen ⊢
  have hiA : ∀ {y}, InA B y → InA A y := fun h => h.len hlen.symm
  have g : ∀ y : Int, 0 ≤ y → (nodeA B y).Parent = (nodeA A y).Parent ∧ (nodeA B y).First = (nodeA A y).First ∧ (nodeA B y).Last = (nodeA A y).Last ∧ (nodeA B y).Prev = (nodeA A y).Prev ∧ (nodeA B y).Next = (nodeA A y).Next ∧ (nodeA B y).Kind = (nodeA A y).Kind ∧ (nodeA B y).Inner = (nodeA A y).Inner ∧ (at_ B y.toNat).host = (at_ A y.toNat).host ∧ (nodeA B y).Attrs = (nodeA A y).Attrs := fun y hy => by
    obtain ⟨_, e⟩ := f1 y hy
    rw [nodeA, e]; exact ⟨rfl, rfl, rfl, rfl, rfl, rfl, rfl, rfl, rfl⟩
  constructor
  · intro x hx
    have hX := t.lnk x (hiA hx)
    have gx := g x hx.1
    refine ⟨by rw [gx.2.1]; exact hX.first, by rw [gx.2.2.1]; exact hX.last, fun pre y suf e => ?_⟩
    obtain ⟨g1, g2, g3, g4⟩ := hX.kid pre y suf e
    have gy := g y g1.1
    exact ⟨g1.len hlen, by rw [gy.1, g2], by rw [gy.2.2.2.1, g3], by rw [gy.2.2.2.2.1, g4]⟩
  · exact fun x hx => t.nodup x (hiA hx)
  · intro y hy hp
    rw [(g y hy.1).1] at hp ⊢
    exact (t.up y (hiA hy) hp).imp (fun h => h.len hlen) fun h => h
  · intro y hy hp
    have gy := g y hy.1
    rw [gy.1] at hp
    rw [gy.2.2.2.1, gy.2.2.2.2.1]
    exact t.free y (hiA hy) hp
  · intro y hy
    rw [(g y hy.1).2.2.2.2.2.2.2.1]
    exact (t.host y (hiA hy)).imp (fun h => h) fun h => h.len hlen
  · intro y hy hk
    rw [(g y hy.1).2.2.2.2.2.1] at hk
    rw [(g y hy.1).2.2.2.2.2.2.2.1]
    exact t.hostK y (hiA hy) hk
  · intro y hy hp
    rw [(g y hy.1).1] at hp
    rw [(g y hy.1).2.2.2.2.2.1]
    exact t.upK y (hiA hy) hp
  · intro y hy
    rw [(g y hy.1).2.2.2.2.2.2.1]
    exact (t.inner y (hiA hy)).imp (fun h => h) fun h => h.len hlen
  · obtain ⟨rk, hrk⟩ := t.rank
    refine ⟨rk, fun x hx => ?_⟩
    have hxA := hiA (inA_iff.1 hx)
    have gx := g x hxA.1
    have e1 := gx.1
    simp only [nodeA] at e1
    simp only [nextUp, e1, gx.2.2.2.2.2.2.2.1]
    exact (hrk x hxA.b).imp (fun h => h) fun h => ⟨((inA_iff.1 h.1).len hlen).b, h.2⟩
  · intro i hi
    have := (g (i : Int) (by omega)).2.2.2.2.2.2.2.2
    simp only [nodeA, toNat_nat] at this
    rw [this]; exact t.attrs i (by omega)
theorem Two.data {A : List Node_one} {K : Int → List Int} {R R' : List Ref01_one} (t : Two A K R) {id : Int} {sd : ByteArray} (s : Sim (setDataL A id sd).2 K R') : Two (setDataL A id sd).2 K R' := ⟨t.tree.data, s, by rw [setDataL_len]; exact t.pos, by rw [setDataL_len]; exact t.max⟩
theorem Two.attrs {A A' : List Node_one} {K : Int → List Int} {R R' : List Ref01_one} (t : Two A K R) {id : Int} {l : List Api_attr} (h : SetRes A A' id l) (hl : l.length ≤ 1024) (s : Sim A' K R') : Two A' K R' := ⟨t.tree.attrs' h hl, s, by rw [h.len]; exact t.pos, by rw [h.len]; exact t.max⟩
theorem setAttrV_len {A : List Node_one} (ha : AttrsOk A) (hn : 0 < A.length) {id : Int} {x : Api_attr} (hid : hasB A id = true) : (setAttrV A id x).2.length ≤ 1024 := by
  have hi := hasB_true hid
  have h0 := ha id.toNat (by omega)
  unfold setAttrV
  rw [if_neg (by rw [hid]; simp)]
  repeat' split
  all_goals first | exact h0 | (simp only [List.length_set]; exact h0) | (simp only [List.length_append, List.length_cons, List.length_nil]; omega)
theorem delAttrV_len {A : List Node_one} (ha : AttrsOk A) {id sp : Int} {nm : ByteArray} (hid : hasB A id = true) : (delAttrV A id sp nm).2.length ≤ 1024 := by
  have hi := hasB_true hid
  have h0 := ha id.toNat (by omega)
  unfold delAttrV
  rw [if_neg (by rw [hid]; simp)]
  repeat' split
  all_goals first | exact h0 | exact Nat.le_trans (List.length_eraseIdx_le ..) h0
theorem Two.attrs2 {A A' : List Node_one} {K : Int → List Int} {R R' : List Ref01_one} (t : Two A K R) {id : Int} {l : List Api_attr} (h : SetRes A A' id l) (hl : hasB A id = true → l.length ≤ 1024) (s : Sim A' K R') : Two A' K R' := by
  cases hb : hasB A id with
  | true => exact t.attrs h (hl hb) s
  | false =>
    rcases h with ⟨_, rfl⟩ | ⟨h2, _⟩
    · exact ⟨t.tree, s, t.pos, t.max⟩
    · rw [hb] at h2; simp at h2
set_option maxHeartbeats 4000000 in
theorem play_spec {k : Ctx} {w : World} {a r : Nat} {A : List Node_one} {K : Int → List Int} {R : List Ref01_one} {o : Law01_op} (t : Two A K R) (hs : Sli (Ro k) (.slice o.LP o.L.length o.LC) (o.L.map Api_attr.cells)) (hol : o.L.length ≤ 1048576) (hO : Own k w [arenaL a A, rarL r R]) :
    Tri Try.prog 25 #[.pointer (some ⟨a, 0, none⟩), .pointer (some ⟨r, 0, none⟩), .agg (Law01_op.cells o).toArray] k w fun v m => ∃ b, v = .bool b ∧ (goodOp A o → b = true) ∧ ∃ A' K' R', Two A' K' R' ∧ m = [arenaL a A', rarL r R'] := by
  refine enter (args := [.pointer (some ⟨a, 0, none⟩), .pointer (some ⟨r, 0, none⟩), .agg (Law01_op.cells o).toArray]) Try.func25 rfl rfl ?_
  have hn := t.pos
  have hc := t.max
  have hcr := t.rmax
  refine K0 (K1 ?_)
  refine s_box (vs := [.int .i64 o.What, .int .i64 o.A, .int .i64 o.B, .int .i64 o.C, .int .i64 o.N, .string o.Text, .string o.More, .int .i64 o.X.Space, .string o.X.Prefix, .string o.X.Name, .string o.X.Value, .slice o.LP o.L.length o.LC]) hO rfl rfl rfl (by rfl) fun b5 w hO => ?_
  refine l_y rfl rfl (y_assign rfl) ?_
  refine K2 (K3 (K0 (K0 (K1 ?_))))
  refine l_y rfl rfl (y_fldb (o' := 0) rfl) ?_
  refine l_y rfl rfl (D5 hO rfl) ?_
  refine K2 (K3 (K4 (K0 (K0 (K1 ?_)))))
  refine Z0 (fun h2_0 => ?_) (fun h2_0 => ?_)
  · refine l_y rfl rfl (y_assign rfl) ?_
    refine K2 (K3 (L8 (K5 (K3 (L8 (K0 (K1 ?_)))))))
    refine l_y rfl rfl (y_move rfl) ?_
    refine l_y rfl rfl (y_move rfl) ?_
    refine l_y rfl rfl (D8 (cs := [.int .i64 o.What, .int .i64 o.A, .int .i64 o.B, .int .i64 o.C, .int .i64 o.N, .string o.Text, .string o.More, .int .i64 o.X.Space, .string o.X.Prefix, .string o.X.Name, .string o.X.Value, .slice o.LP o.L.length o.LC]) hO rfl) ?_
    refine CK [.o a, .o r] hO rfl (fun k' hx hr hO' => made_spec t (hs.ext hO hx) hol (hO := hO')) ?_
    rintro _ _ w ⟨b9, rfl, hb9, A9, Kz, R9, t9, rfl⟩ hO
    simp only [List.cons_append, List.nil_append] at hO
    refine l_y rfl rfl (y_assign rfl) ?_
    refine K2 (K3 (K6 (L0 (K9 ?_))))
    exact fin1 rfl rfl ⟨_, ⟨_, rfl, hb9, _, _, _, t9, rfl⟩, hO.only [.o a, .o r]⟩
  · refine l_y rfl rfl (y_assign rfl) ?_
    refine K2 (K3 (L9 (K0 (K1 ?_))))
    refine Z0 (fun h3_0 => ?_) (fun h3_0 => ?_)
    · refine l_y rfl rfl (y_assign rfl) ?_
      refine K2 (K3 (L8 (K5 (K3 (L8 (K0 (K1 ?_)))))))
      refine l_y rfl rfl (y_move rfl) ?_
      refine l_y rfl rfl (y_move rfl) ?_
      refine l_y rfl rfl (D8 (cs := [.int .i64 o.What, .int .i64 o.A, .int .i64 o.B, .int .i64 o.C, .int .i64 o.N, .string o.Text, .string o.More, .int .i64 o.X.Space, .string o.X.Prefix, .string o.X.Name, .string o.X.Value, .slice o.LP o.L.length o.LC]) hO rfl) ?_
      refine CK [.o a, .o r] hO rfl (fun k' hx hr hO' => made_spec t (hs.ext hO hx) hol (hO := hO')) ?_
      rintro _ _ w ⟨b9, rfl, hb9, A9, Kz, R9, t9, rfl⟩ hO
      simp only [List.cons_append, List.nil_append] at hO
      refine l_y rfl rfl (y_assign rfl) ?_
      refine K2 (K3 (K6 (L0 (K9 ?_))))
      exact fin1 rfl rfl ⟨_, ⟨_, rfl, hb9, _, _, _, t9, rfl⟩, hO.only [.o a, .o r]⟩
    · refine l_y rfl rfl (y_assign rfl) ?_
      refine K2 (K3 (L9 (K0 (K1 ?_))))
      refine Z0 (fun h4_0 => ?_) (fun h4_0 => ?_)
      · refine l_y rfl rfl (y_assign rfl) ?_
        refine K2 (K3 (L8 (K5 (K3 (L8 (K0 (K1 ?_)))))))
        refine l_y rfl rfl (y_move rfl) ?_
        refine l_y rfl rfl (y_move rfl) ?_
        refine l_y rfl rfl (D8 (cs := [.int .i64 o.What, .int .i64 o.A, .int .i64 o.B, .int .i64 o.C, .int .i64 o.N, .string o.Text, .string o.More, .int .i64 o.X.Space, .string o.X.Prefix, .string o.X.Name, .string o.X.Value, .slice o.LP o.L.length o.LC]) hO rfl) ?_
        refine CK [.o a, .o r] hO rfl (fun k' hx hr hO' => made_spec t (hs.ext hO hx) hol (hO := hO')) ?_
        rintro _ _ w ⟨b9, rfl, hb9, A9, Kz, R9, t9, rfl⟩ hO
        simp only [List.cons_append, List.nil_append] at hO
        refine l_y rfl rfl (y_assign rfl) ?_
        refine K2 (K3 (K6 (L0 (K9 ?_))))
        exact fin1 rfl rfl ⟨_, ⟨_, rfl, hb9, _, _, _, t9, rfl⟩, hO.only [.o a, .o r]⟩
      · refine l_y rfl rfl (y_assign rfl) ?_
        refine K2 (K3 (L9 (K0 (K1 ?_))))
        refine Z0 (fun h5_0 => ?_) (fun h5_0 => ?_)
        · refine l_y rfl rfl (y_assign rfl) ?_
          refine K2 (K3 (L8 (K5 (K3 (L8 (K0 (K1 ?_)))))))
          refine l_y rfl rfl (y_move rfl) ?_
          refine l_y rfl rfl (y_move rfl) ?_
          refine l_y rfl rfl (D8 (cs := [.int .i64 o.What, .int .i64 o.A, .int .i64 o.B, .int .i64 o.C, .int .i64 o.N, .string o.Text, .string o.More, .int .i64 o.X.Space, .string o.X.Prefix, .string o.X.Name, .string o.X.Value, .slice o.LP o.L.length o.LC]) hO rfl) ?_
          refine CK [.o a, .o r] hO rfl (fun k' hx hr hO' => made_spec t (hs.ext hO hx) hol (hO := hO')) ?_
          rintro _ _ w ⟨b9, rfl, hb9, A9, Kz, R9, t9, rfl⟩ hO
          simp only [List.cons_append, List.nil_append] at hO
          refine l_y rfl rfl (y_assign rfl) ?_
          refine K2 (K3 (K6 (L0 (K9 ?_))))
          exact fin1 rfl rfl ⟨_, ⟨_, rfl, hb9, _, _, _, t9, rfl⟩, hO.only [.o a, .o r]⟩
        · refine l_y rfl rfl (y_assign rfl) ?_
          refine K2 (K3 (L9 (K1 ?_)))
          refine Z0 (fun h6_0 => ?_) (fun h6_0 => ?_)
          · refine l_y rfl rfl (y_assign rfl) ?_
            refine K2 (K3 (L8 (K0 (K1 ?_))))
            refine l_y rfl rfl (y_move rfl) ?_
            refine l_y rfl rfl (y_move rfl) ?_
            refine l_y rfl rfl (D8 (cs := [.int .i64 o.What, .int .i64 o.A, .int .i64 o.B, .int .i64 o.C, .int .i64 o.N, .string o.Text, .string o.More, .int .i64 o.X.Space, .string o.X.Prefix, .string o.X.Name, .string o.X.Value, .slice o.LP o.L.length o.LC]) hO rfl) ?_
            refine CK [.o a, .o r] hO rfl (fun k' hx hr hO' => made_spec t (hs.ext hO hx) hol (hO := hO')) ?_
            rintro _ _ w ⟨b9, rfl, hb9, A9, Kz, R9, t9, rfl⟩ hO
            simp only [List.cons_append, List.nil_append] at hO
            refine l_y rfl rfl (y_assign rfl) ?_
            refine K2 (K3 (K6 (L0 (K9 ?_))))
            exact fin1 rfl rfl ⟨_, ⟨_, rfl, hb9, _, _, _, t9, rfl⟩, hO.only [.o a, .o r]⟩
          · refine l_y rfl rfl (y_assign rfl) ?_
            refine K2 (K3 (L9 (K0 (K1 ?_))))
            refine Z0 (fun h8_0 => ?_) (fun h8_0 => ?_)
            · refine l_y rfl rfl (y_assign rfl) ?_
              refine K2 (K3 (L8 (K0 ?_)))
              refine da_region (by intro c a d v w h; cases d <;> exact h) ?_
              have hO := hO.drew
              refine da_phase _ [15] (SO.ks [.b b5] hO) ?_
              refine dx_u 0 (by kernel_rfl) rfl rfl rfl (fun w => y_move rfl) ?_
              refine dx_u 1 (by kernel_rfl) rfl rfl rfl (fun w => y_fldb (o' := 1) rfl) ?_
              refine dx_y 2 (by kernel_rfl) rfl rfl rfl (fun w ⟨m, hw⟩ => D5 hw rfl) ?_
              refine dx_u 3 (by kernel_rfl) rfl rfl rfl (fun w => y_fldb (o' := 2) rfl) ?_
              refine dx_y 4 (by kernel_rfl) rfl rfl rfl (fun w ⟨m, hw⟩ => D5 hw rfl) ?_
              refine dx_u 5 (by kernel_rfl) rfl rfl rfl (fun w => y_fldb (o' := 3) rfl) ?_
              refine dx_y 6 (by kernel_rfl) rfl rfl rfl (fun w ⟨m, hw⟩ => D5 hw rfl) ?_
              refine dx_u 8 (by kernel_rfl) rfl rfl rfl (fun w => y_move rfl) ?_
              refine dx_u 9 (by kernel_rfl) rfl rfl rfl (fun w => y_fldb (o' := 1) rfl) ?_
              refine dx_y 10 (by kernel_rfl) rfl rfl rfl (fun w ⟨m, hw⟩ => D5 hw rfl) ?_
              refine dx_u 11 (by kernel_rfl) rfl rfl rfl (fun w => y_fldb (o' := 2) rfl) ?_
              refine dx_y 12 (by kernel_rfl) rfl rfl rfl (fun w ⟨m, hw⟩ => D5 hw rfl) ?_
              refine dx_u 13 (by kernel_rfl) rfl rfl rfl (fun w => y_fldb (o' := 3) rfl) ?_
              refine dx_y 14 (by kernel_rfl) rfl rfl rfl (fun w ⟨m, hw⟩ => D5 hw rfl) ?_
              refine dx_only 7 (by kernel_rfl) rfl rfl ?_
              refine CK [.o a] hO rfl (fun k' hx hr hO' => LinkC_spec hn t.tree.rank t.tree.links (hO := hO')) ?_
              rintro _ _ w ⟨rfl, rfl⟩ hO
              refine o_done ?_
              refine ⟨SO.ks [.b b5] hO, ?_⟩
              refine dx_close 15 (by kernel_rfl) rfl rfl ?_
              refine CK [.o r] hO rfl (fun k' hx hr hO' => rLink_spec t.tree t.sim hc (hO := hO')) ?_
              rintro _ _ w ⟨rfl, R9, rfl, s9⟩ hO
              have t9 := t.link s9
              refine o_done ?_
              refine da_phase _ [] (SO.ks [] hO) ?_
              refine dx_y 16 (by kernel_rfl) rfl rfl rfl (fun w ⟨m, hw⟩ => D0 (hp := rfl)) ?_
              refine dx_u 17 (by kernel_rfl) rfl rfl rfl (fun w => y_assign rfl) ?_
              refine dx_end (by kernel_rfl) ?_
              refine K3 (K6 (L0 (K9 ?_)))
              exact fin1 rfl rfl ⟨_, ⟨_, rfl, fun _ => rfl, _, _, _, t9, rfl⟩, hO.only [.o a, .o r]⟩
            · refine l_y rfl rfl (y_assign rfl) ?_
              refine K2 (K3 (L9 (K0 (K1 ?_))))
              refine Z0 (fun h10_0 => ?_) (fun h10_0 => ?_)
              · refine l_y rfl rfl (y_assign rfl) ?_
                refine K2 (K3 (L8 (K0 ?_)))
                refine da_region (by intro c a d v w h; cases d <;> exact h) ?_
                have hO := hO.drew
                refine da_phase _ [7] (SO.ks [.b b5] hO) ?_
                refine dx_u 0 (by kernel_rfl) rfl rfl rfl (fun w => y_move rfl) ?_
                refine dx_u 1 (by kernel_rfl) rfl rfl rfl (fun w => y_fldb (o' := 1) rfl) ?_
                refine dx_y 2 (by kernel_rfl) rfl rfl rfl (fun w ⟨m, hw⟩ => D5 hw rfl) ?_
                refine dx_u 4 (by kernel_rfl) rfl rfl rfl (fun w => y_move rfl) ?_
                refine dx_u 5 (by kernel_rfl) rfl rfl rfl (fun w => y_fldb (o' := 1) rfl) ?_
                refine dx_y 6 (by kernel_rfl) rfl rfl rfl (fun w ⟨m, hw⟩ => D5 hw rfl) ?_
                refine dx_only 3 (by kernel_rfl) rfl rfl ?_
                refine CK [.o a] hO rfl (fun k' hx hr hO' => UnlinkC_spec hn t.tree.links (hO := hO')) ?_
                rintro _ _ w ⟨rfl, rfl⟩ hO
                refine o_done ?_
                refine ⟨SO.ks [.b b5] hO, ?_⟩
                refine dx_close 7 (by kernel_rfl) rfl rfl ?_
                refine CK [.o r] hO rfl (fun k' hx hr hO' => rUnlink_spec t.tree t.sim hc (hO := hO')) ?_
                rintro _ _ w ⟨rfl, R9, rfl, s9⟩ hO
                have t9 := t.unlink s9
                refine o_done ?_
                refine da_phase _ [] (SO.ks [] hO) ?_
                refine dx_y 8 (by kernel_rfl) rfl rfl rfl (fun w ⟨m, hw⟩ => D0 (hp := rfl)) ?_
                refine dx_u 9 (by kernel_rfl) rfl rfl rfl (fun w => y_assign rfl) ?_
                refine dx_end (by kernel_rfl) ?_
                refine K3 (K6 (L0 (K9 ?_)))
                exact fin1 rfl rfl ⟨_, ⟨_, rfl, fun _ => rfl, _, _, _, t9, rfl⟩, hO.only [.o a, .o r]⟩
              · refine l_y rfl rfl (y_assign rfl) ?_
                refine K2 (K3 (L9 (K0 (K1 ?_))))
                refine Z0 (fun h12_0 => ?_) (fun h12_0 => ?_)
                · refine l_y rfl rfl (y_assign rfl) ?_
                  refine K2 (K3 (L8 (K0 ?_)))
                  refine da_region (by intro c a d v w h; cases d <;> exact h) ?_
                  have hO := hO.drew
                  refine da_phase _ [11] (SO.ks [.b b5] hO) ?_
                  refine dx_u 0 (by kernel_rfl) rfl rfl rfl (fun w => y_move rfl) ?_
                  refine dx_u 1 (by kernel_rfl) rfl rfl rfl (fun w => y_fldb (o' := 1) rfl) ?_
                  refine dx_y 2 (by kernel_rfl) rfl rfl rfl (fun w ⟨m, hw⟩ => D5 hw rfl) ?_
                  refine dx_u 3 (by kernel_rfl) rfl rfl rfl (fun w => y_fldb (o' := 5) rfl) ?_
                  refine dx_y 4 (by kernel_rfl) rfl rfl rfl (fun w ⟨m, hw⟩ => D5 hw rfl) ?_
                  refine dx_u 6 (by kernel_rfl) rfl rfl rfl (fun w => y_move rfl) ?_
                  refine dx_u 7 (by kernel_rfl) rfl rfl rfl (fun w => y_fldb (o' := 1) rfl) ?_
                  refine dx_y 8 (by kernel_rfl) rfl rfl rfl (fun w ⟨m, hw⟩ => D5 hw rfl) ?_
                  refine dx_u 9 (by kernel_rfl) rfl rfl rfl (fun w => y_fldb (o' := 5) rfl) ?_
                  refine dx_y 10 (by kernel_rfl) rfl rfl rfl (fun w ⟨m, hw⟩ => D5 hw rfl) ?_
                  refine dx_only 5 (by kernel_rfl) rfl rfl ?_
                  refine CK [.o a] hO rfl (fun k' hx hr hO' => SetDataC_spec hn (hO := hO')) ?_
                  rintro _ _ w ⟨rfl, rfl⟩ hO
                  refine o_done ?_
                  refine ⟨SO.ks [.b b5] hO, ?_⟩
                  refine dx_close 11 (by kernel_rfl) rfl rfl ?_
                  refine CK [.o r] hO rfl (fun k' hx hr hO' => rSetData_spec t.sim (hO := hO')) ?_
                  rintro _ _ w ⟨rfl, R9, rfl, s9⟩ hO
                  have t9 := t.data s9
                  refine o_done ?_
                  refine da_phase _ [] (SO.ks [] hO) ?_
                  refine dx_y 12 (by kernel_rfl) rfl rfl rfl (fun w ⟨m, hw⟩ => D0 (hp := rfl)) ?_
                  refine dx_u 13 (by kernel_rfl) rfl rfl rfl (fun w => y_assign rfl) ?_
                  refine dx_end (by kernel_rfl) ?_
                  refine K3 (K6 (L0 (K9 ?_)))
                  exact fin1 rfl rfl ⟨_, ⟨_, rfl, fun _ => rfl, _, _, _, t9, rfl⟩, hO.only [.o a, .o r]⟩
                · refine l_y rfl rfl (y_assign rfl) ?_
                  refine K2 (K3 (L9 (K0 (K1 ?_))))
                  refine Z0 (fun h14_0 => ?_) (fun h14_0 => ?_)
                  · refine l_y rfl rfl (y_assign rfl) ?_
                    refine K2 (K3 (L8 (K0 ?_)))
                    refine da_region (by intro c a d v w h; cases d <;> exact h) ?_
                    have hO := hO.drew
                    refine da_phase _ [11] (SO.ks [.b b5] hO) ?_
                    refine dx_u 0 (by kernel_rfl) rfl rfl rfl (fun w => y_move rfl) ?_
                    refine dx_u 1 (by kernel_rfl) rfl rfl rfl (fun w => y_fldb (o' := 1) rfl) ?_
                    refine dx_y 2 (by kernel_rfl) rfl rfl rfl (fun w ⟨m, hw⟩ => D5 hw rfl) ?_
                    refine dx_u 3 (by kernel_rfl) rfl rfl rfl (fun w => y_fldb (o' := 7) rfl) ?_
                    refine dx_y 4 (by kernel_rfl) rfl rfl rfl (fun w ⟨m, hw⟩ => D8 (cs := [.int .i64 o.X.Space, .string o.X.Prefix, .string o.X.Name, .string o.X.Value]) hw rfl) ?_
                    refine dx_u 6 (by kernel_rfl) rfl rfl rfl (fun w => y_move rfl) ?_
                    refine dx_u 7 (by kernel_rfl) rfl rfl rfl (fun w => y_fldb (o' := 1) rfl) ?_
                    refine dx_y 8 (by kernel_rfl) rfl rfl rfl (fun w ⟨m, hw⟩ => D5 hw rfl) ?_
                    refine dx_u 9 (by kernel_rfl) rfl rfl rfl (fun w => y_fldb (o' := 7) rfl) ?_
                    refine dx_y 10 (by kernel_rfl) rfl rfl rfl (fun w ⟨m, hw⟩ => D8 (cs := [.int .i64 o.X.Space, .string o.X.Prefix, .string o.X.Name, .string o.X.Value]) hw rfl) ?_
                    refine dx_only 5 (by kernel_rfl) rfl rfl ?_
                    refine CK [.o a] hO rfl (fun k' hx hr hO' => SetAttrC_spec (x := o.X) hn t.tree.attrs (hO := hO')) ?_
                    rintro _ _ w ⟨rfl, A9, hA9, rfl⟩ hO
                    refine o_done ?_
                    refine ⟨SO.ks [.b b5] hO, ?_⟩
                    refine dx_close 11 (by kernel_rfl) rfl rfl ?_
                    refine CK [.o r] hO rfl (fun k' hx hr hO' => rSetAttr_spec (x := o.X) t.sim t.tree.attrs (hO := hO')) ?_
                    rintro _ _ w ⟨rfl, R9, rfl, s9⟩ hO
                    have t9 := t.attrs2 hA9 (setAttrV_len t.tree.attrs hn) (s9 _ hA9)
                    refine o_done ?_
                    refine da_phase _ [] (SO.ks [] hO) ?_
                    refine dx_y 12 (by kernel_rfl) rfl rfl rfl (fun w ⟨m, hw⟩ => D0 (hp := rfl)) ?_
                    refine dx_u 13 (by kernel_rfl) rfl rfl rfl (fun w => y_assign rfl) ?_
                    refine dx_end (by kernel_rfl) ?_
                    refine K3 (K6 (L0 (K9 ?_)))
                    exact fin1 rfl rfl ⟨_, ⟨_, rfl, fun _ => rfl, _, _, _, t9, rfl⟩, hO.only [.o a, .o r]⟩
                  · refine l_y rfl rfl (y_assign rfl) ?_
                    refine K2 (K3 (L9 (K5 (K8 (K3 (K0 ?_))))))
                    refine da_region (by intro c a d v w h; cases d <;> exact h) ?_
                    have hO := hO.drew
                    refine da_phase _ [15] (SO.ks [.b b5] hO) ?_
                    refine dx_u 0 (by kernel_rfl) rfl rfl rfl (fun w => y_move rfl) ?_
                    refine dx_u 1 (by kernel_rfl) rfl rfl rfl (fun w => y_fldb (o' := 1) rfl) ?_
                    refine dx_y 2 (by kernel_rfl) rfl rfl rfl (fun w ⟨m, hw⟩ => D5 hw rfl) ?_
                    refine dx_u 3 (by kernel_rfl) rfl rfl rfl (fun w => y_fldb (o' := 4) rfl) ?_
                    refine dx_y 4 (by kernel_rfl) rfl rfl rfl (fun w ⟨m, hw⟩ => D5 hw rfl) ?_
                    refine dx_u 5 (by kernel_rfl) rfl rfl rfl (fun w => y_fldb (o' := 5) rfl) ?_
                    refine dx_y 6 (by kernel_rfl) rfl rfl rfl (fun w ⟨m, hw⟩ => D5 hw rfl) ?_
                    refine dx_u 8 (by kernel_rfl) rfl rfl rfl (fun w => y_move rfl) ?_
                    refine dx_u 9 (by kernel_rfl) rfl rfl rfl (fun w => y_fldb (o' := 1) rfl) ?_
                    refine dx_y 10 (by kernel_rfl) rfl rfl rfl (fun w ⟨m, hw⟩ => D5 hw rfl) ?_
                    refine dx_u 11 (by kernel_rfl) rfl rfl rfl (fun w => y_fldb (o' := 4) rfl) ?_
                    refine dx_y 12 (by kernel_rfl) rfl rfl rfl (fun w ⟨m, hw⟩ => D5 hw rfl) ?_
                    refine dx_u 13 (by kernel_rfl) rfl rfl rfl (fun w => y_fldb (o' := 5) rfl) ?_
                    refine dx_y 14 (by kernel_rfl) rfl rfl rfl (fun w ⟨m, hw⟩ => D5 hw rfl) ?_
                    refine dx_only 7 (by kernel_rfl) rfl rfl ?_
                    refine CK [.o a] hO rfl (fun k' hx hr hO' => DelAttrC_spec hn t.tree.attrs (hO := hO')) ?_
                    rintro _ _ w ⟨rfl, A9, hA9, rfl⟩ hO
                    refine o_done ?_
                    refine ⟨SO.ks [.b b5] hO, ?_⟩
                    refine dx_close 15 (by kernel_rfl) rfl rfl ?_
                    refine CK [.o r] hO rfl (fun k' hx hr hO' => rDelAttr_spec t.sim t.tree.attrs (hO := hO')) ?_
                    rintro _ _ w ⟨rfl, R9, rfl, s9⟩ hO
                    have t9 := t.attrs2 hA9 (delAttrV_len t.tree.attrs) (s9 _ hA9)
                    refine o_done ?_
                    refine da_phase _ [] (SO.ks [] hO) ?_
                    refine dx_y 16 (by kernel_rfl) rfl rfl rfl (fun w ⟨m, hw⟩ => D0 (hp := rfl)) ?_
                    refine dx_u 17 (by kernel_rfl) rfl rfl rfl (fun w => y_assign rfl) ?_
                    refine dx_end (by kernel_rfl) ?_
                    refine K3 (K6 ?_)
                    exact fin1 rfl rfl ⟨_, ⟨_, rfl, fun _ => rfl, _, _, _, t9, rfl⟩, hO.only [.o a, .o r]⟩
end Go.Proofs.Ytnolpajggmfpdaa
