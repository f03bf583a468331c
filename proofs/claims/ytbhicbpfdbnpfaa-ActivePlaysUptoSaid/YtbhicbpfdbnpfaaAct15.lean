/- What the law ActivePlays reads. -/
import Derived.Test.YtbhicbpfdbnpfaaAct14
import Derived.Test.YtbhicbpfdbnpfaaBulk
set_option linter.unusedVariables false
set_option linter.unusedSimpArgs false
set_option maxRecDepth 100000
namespace Go.Proofs.Ytbhicbpfdbnpfaa
open Go Go.Hb Go.RowKit Go.ChangeShapes Go.WideShapes Go.ChangeAt
theorem rd_Api_attr {H : Type} {enc : TypeId × Value → H} {W : World} : Reads enc Try.prog W 63 (QSt [QInt .i64, QStr, QStr, QStr]) := by
  have h : Try.prog.cellsOf 63 = 4 := by kernel_rfl
  letI : Und Try.prog 63 _ := ⟨Try.underlying63⟩
  refine r_st ?_
  rw [h]
  exact .cons (m := 1) rfl (by kernel_rfl) r_int (.cons (m := 1) rfl (by kernel_rfl) r_str (.cons (m := 1) rfl (by kernel_rfl) r_str (.cons (m := 1) rfl (by kernel_rfl) r_str (.nil _))))
theorem of_Api_attr {H : Type} {r : List Value} {d : DataW H} (h : QSt [QInt .i64, QStr, QStr, QStr] r d) : ∃ o : Api_attr, r = Api_attr.cells o ∧ True := by
  obtain ⟨ps, rfl, hq⟩ := h
  obtain ⟨c0, cs0, d0, ds0, rfl, rfl, g0, hq⟩ := hq.un
  obtain ⟨c1, cs1, d1, ds1, rfl, rfl, g1, hq⟩ := hq.un
  obtain ⟨c2, cs2, d2, ds2, rfl, rfl, g2, hq⟩ := hq.un
  obtain ⟨c3, cs3, d3, ds3, rfl, rfl, g3, hq⟩ := hq.un
  obtain ⟨rfl, rfl⟩ := hq.un0
  obtain ⟨n0, rfl, rfl, _⟩ := g0
  obtain ⟨n1, rfl, rfl, _⟩ := g1
  obtain ⟨n2, rfl, rfl, _⟩ := g2
  obtain ⟨n3, rfl, rfl, _⟩ := g3
  exact ⟨⟨n0, n1, n2, n3⟩, by simp [Api_attr.cells], trivial⟩
abbrev QTok {H : Type} (W : World) : List Value → DataW H → Prop := QSt [QInt .i64, QStr, QStr, QStr, QInt .i64, QBool, QInt .i32, QBool, QSl W 4 (QSt [QInt .i64, QStr, QStr, QStr])]
theorem q_tok {H : Type} {enc : TypeId × Value → H} {W : World} : Reads enc Try.prog W 65 (QTok W) := by
  have h : Try.prog.cellsOf 65 = 9 := by kernel_rfl
  letI : Und Try.prog 65 _ := ⟨Try.underlying65⟩
  refine r_st ?_
  rw [h]
  exact .cons (m := 1) rfl (by kernel_rfl) r_int (.cons (m := 1) rfl (by kernel_rfl) r_str (.cons (m := 1) rfl (by kernel_rfl) r_str (.cons (m := 1) rfl (by kernel_rfl) r_str (.cons (m := 1) rfl (by kernel_rfl) r_int (.cons (m := 1) rfl (by kernel_rfl) r_bool (.cons (m := 1) rfl (by kernel_rfl) r_int (.cons (m := 1) rfl (by kernel_rfl) r_bool (.cons (m := 1) rfl (by kernel_rfl) (r_sl (by decide) rd_Api_attr) (.nil _)))))))))
abbrev QOp13 {H : Type} (W : World) : List Value → DataW H → Prop := QSt [QInt .i64, QInt .i64, QInt .i64, QInt .i64, QStr, QTok W]
theorem q_op13 {H : Type} {enc : TypeId × Value → H} {W : World} : Reads enc Try.prog W 79 (QOp13 W) := by
  have h : Try.prog.cellsOf 79 = 14 := by kernel_rfl
  letI : Und Try.prog 79 _ := ⟨Try.underlying79⟩
  refine r_st ?_
  rw [h]
  exact .cons (m := 1) rfl (by kernel_rfl) r_int (.cons (m := 1) rfl (by kernel_rfl) r_int (.cons (m := 1) rfl (by kernel_rfl) r_int (.cons (m := 1) rfl (by kernel_rfl) r_int (.cons (m := 1) rfl (by kernel_rfl) r_str (.cons (m := 9) rfl (by kernel_rfl) q_tok (.nil _))))))
theorem op13_of {H : Type} {W : World} {r : List Value} {d : DataW H} (h : QOp13 W r d) : ∃ o : Law13_op, r = Law13_op.cells o ∧ EOk (all W) ⟨o.A, o.T⟩ := by
  obtain ⟨ps, rfl, hq⟩ := h
  obtain ⟨c1, cs1, d1, ds1, rfl, rfl, g1, hq⟩ := hq.un
  obtain ⟨c2, cs2, d2, ds2, rfl, rfl, g2, hq⟩ := hq.un
  obtain ⟨c3, cs3, d3, ds3, rfl, rfl, g3, hq⟩ := hq.un
  obtain ⟨c4, cs4, d4, ds4, rfl, rfl, g4, hq⟩ := hq.un
  obtain ⟨c5, cs5, d5, ds5, rfl, rfl, g5, hq⟩ := hq.un
  obtain ⟨c6, cs6, d6, ds6, rfl, rfl, g6, hq⟩ := hq.un
  obtain ⟨rfl, rfl⟩ := hq.un0
  obtain ⟨n1, rfl, rfl, _⟩ := g1
  obtain ⟨n2, rfl, rfl, _⟩ := g2
  obtain ⟨n3, rfl, rfl, _⟩ := g3
  obtain ⟨n4, rfl, rfl, _⟩ := g4
  obtain ⟨s5, rfl, rfl, _⟩ := g5
  obtain ⟨ps2, rfl, hq2⟩ := g6
  obtain ⟨e1, es1, f1, fs1, rfl, rfl, g1, hq2⟩ := hq2.un
  obtain ⟨e2, es2, f2, fs2, rfl, rfl, g2, hq2⟩ := hq2.un
  obtain ⟨e3, es3, f3, fs3, rfl, rfl, g3, hq2⟩ := hq2.un
  obtain ⟨e4, es4, f4, fs4, rfl, rfl, g4, hq2⟩ := hq2.un
  obtain ⟨e5, es5, f5, fs5, rfl, rfl, g5, hq2⟩ := hq2.un
  obtain ⟨e6, es6, f6, fs6, rfl, rfl, g6, hq2⟩ := hq2.un
  obtain ⟨e7, es7, f7, fs7, rfl, rfl, g7, hq2⟩ := hq2.un
  obtain ⟨e8, es8, f8, fs8, rfl, rfl, g8, hq2⟩ := hq2.un
  obtain ⟨e9, es9, f9, fs9, rfl, rfl, g9, hq2⟩ := hq2.un
  obtain ⟨rfl, rfl⟩ := hq2.un0
  obtain ⟨t1, rfl, rfl, _⟩ := g1
  obtain ⟨t2, rfl, rfl, _⟩ := g2
  obtain ⟨t3, rfl, rfl, _⟩ := g3
  obtain ⟨t4, rfl, rfl, _⟩ := g4
  obtain ⟨t5, rfl, rfl, _⟩ := g5
  obtain ⟨t6, rfl, rfl⟩ := g6
  obtain ⟨t7, rfl, rfl, _⟩ := g7
  obtain ⟨t8, rfl, rfl⟩ := g8
  obtain ⟨u, rows', ds', rfl, B⟩ := g9
  obtain ⟨q, cc, rfl, _⟩ := B.shape
  have h2 := B.max
  obtain ⟨xs, rfl, _⟩ := recs_of (enc := Api_attr.cells) fun r hr => by obtain ⟨e, _, hq⟩ := B.all r hr; exact of_Api_attr hq
  have h5 := B.sli
  rw [List.length_map] at h2 h5
  exact ⟨⟨n1, n2, n3, n4, s5, ⟨t1, t2, t3, t4, t5, t6, t7, t8, q, xs, cc⟩⟩, by simp [Law13_op.cells, Api_token.cells], h5, h2⟩
end Go.Proofs.Ytbhicbpfdbnpfaa
