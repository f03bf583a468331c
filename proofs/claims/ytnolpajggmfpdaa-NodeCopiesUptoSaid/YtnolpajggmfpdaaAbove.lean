/- The walk of the law NodeAbove, and how a script is read of an argument. -/
import Derived.Test.YtnolpajggmfpdaaPlay2
import Derived.Test.YtnolpajggmfpdaaBulk
set_option linter.unusedVariables false
set_option linter.unusedSimpArgs false
set_option maxRecDepth 100000
namespace Go.Proofs.Ytnolpajggmfpdaa
open Go Go.Hb Go.RowKit
/-- a script that may be read -/
structure Scr (k : Ctx) (p : Option Addr) (c : Nat) (l : List Law01_op) : Prop where
  sli : Sli (Ro k) (.slice p l.length c) (l.map Law01_op.cells)
  len : l.length ≤ 1048576
  one : ∀ o ∈ l, Sli (Ro k) (.slice o.LP o.L.length o.LC) (o.L.map Api_attr.cells) ∧ o.L.length ≤ 1048576
  text : ∀ o ∈ l, longB (o.Text :: attrTexts o.L) = false
set_option maxHeartbeats 1000000 in
theorem NodeAbove_spec {k : Ctx} {w : World} {sp : Option Addr} {sc : Nat} {l : List Law01_op} {id other : Int} (hs : Scr k sp sc l) (hO : Own k w []) :
    Tri Try.prog 6 #[.slice sp l.length sc, .int .i64 id, .int .i64 other] k w fun v m => v = .bool true := by
  refine enter (args := [.slice sp l.length sc, .int .i64 id, .int .i64 other]) Try.func6 rfl rfl ?_
  have hsl := hs.sli
  have hgs := sli_gs hsl
  have hll := hs.len
  refine K0 (K1 ?_)
  refine l_y rfl rfl (y_assign rfl) ?_
  refine K2 (K3 (K0 (K1 ?_)))
  refine CK [] hO rfl (fun k' hx hr hO' => New_spec (hO := hO')) ?_
  rintro _ _ w ⟨a10, rfl, rfl⟩ hO
  simp only [List.cons_append, List.nil_append] at hO
  refine l_y rfl rfl (y_assign rfl) ?_
  refine K2 (K3 (K0 (K0 (K1 ?_))))
  refine l_y rfl rfl (y_move rfl) ?_
  refine l_y rfl rfl (y_eqPnil rfl rfl rfl) ?_
  refine K2 (K3 (L9 (K5 (K3 (K0 (K1 ?_))))))
  refine CK [] hO rfl (fun k' hx hr hO' => rNew_spec (hO := hO')) ?_
  rintro _ _ w ⟨r13, rfl, rfl⟩ hO
  simp only [List.cons_append, List.nil_append] at hO
  refine l_y rfl rfl (y_assign rfl) ?_
  refine K2 (K3 (K0 (K0 (K1 ?_))))
  refine l_y rfl rfl (y_assign rfl) ?_
  refine K2 (K3 (K4 ?_))
  refine c_rounds (X := Nat × List Node_one × (Int → List Int) × List Ref01_one) (fun x => [(0, .slice sp l.length sc), (1, .int .i64 id), (2, .int .i64 other), (6, .bool false), (7, .pointer (some ⟨a10, 0, none⟩)), (8, .pointer (some ⟨r13, 0, none⟩)), (9, .int .i64 (x.1 : Int))]) (fun x w => Own k w [arenaL a10 x.2.1, rarL r13 x.2.2.2] ∧ (x.1 ≤ l.length) ∧ (Two x.2.1 x.2.2.1 x.2.2.2)) (fun x => l.length - x.1) ((0, [docD], fun _ => [], [docR])) ⟨rfl, rfl, rfl, rfl, rfl, rfl, rfl, trivial⟩ ⟨hO.only [.o a10, .o r13], Nat.zero_le _, Two.new⟩ ?_
  rintro x w m hm ⟨hO, hi, t⟩
  refine K0 (K0 (K1 ?_))
  refine l_y rfl rfl (y_move rfl) ?_
  refine l_y rfl rfl (y_move rfl) ?_
  refine l_y rfl rfl (y_lenL rfl) ?_
  refine Z0 (fun h6_3 => ?_) (fun h6_3 => ?_)
  · refine K2 (K3 (L8 (K5 (K3 (K0 (K4 (K1 ?_)))))))
    refine l_y rfl rfl (y_move rfl) ?_
    refine l_y rfl rfl (y_move rfl) ?_
    refine l_y rfl rfl (y_move rfl) ?_
    refine l_y rfl rfl (y_move rfl) ?_
    refine l_y rfl rfl (y_idx rfl rfl) ?_
    refine l_y rfl rfl (y_rA (x0 := 0) (enc := Law01_op.cells) (xs := l) (cs := [.int .i64 (at_ l ((x.1 : Int) : Int).toNat).What, .int .i64 (at_ l ((x.1 : Int) : Int).toNat).A, .int .i64 (at_ l ((x.1 : Int) : Int).toNat).B, .int .i64 (at_ l ((x.1 : Int) : Int).toNat).C, .int .i64 (at_ l ((x.1 : Int) : Int).toNat).N, .string (at_ l ((x.1 : Int) : Int).toNat).Text, .string (at_ l ((x.1 : Int) : Int).toNat).More, .int .i64 (at_ l ((x.1 : Int) : Int).toNat).X.Space, .string (at_ l ((x.1 : Int) : Int).toNat).X.Prefix, .string (at_ l ((x.1 : Int) : Int).toNat).X.Name, .string (at_ l ((x.1 : Int) : Int).toNat).X.Value, .slice (at_ l ((x.1 : Int) : Int).toNat).LP (at_ l ((x.1 : Int) : Int).toNat).L.length (at_ l ((x.1 : Int) : Int).toNat).LC]) hO rfl) ?_
    refine CK [.o a10, .o r13] hO rfl (fun k' hx hr hO' => play_spec (o := at_ l x.1) t ((hs.one _ (at_mem (by omega))).1.ext hO hx) (hs.one _ (at_mem (by omega))).2 (hO := hO')) ?_
    rintro _ _ w ⟨b9, rfl, hb9, A9, Kz, R9, t9, rfl⟩ hO
    simp only [List.cons_append, List.nil_append] at hO
    refine K2 (K8 (K3 (K1 ?_)))
    refine l_y rfl rfl (y_move rfl) ?_
    refine l_y rfl rfl (D4) ?_
    refine l_y rfl rfl (y_assign rfl) ?_
    refine K2 ?_
    exact q_next ((x.1 + 1, A9, Kz, R9)) ⟨rfl, rfl, rfl, rfl, rfl, rfl, rfl, trivial⟩ ⟨hO.only [.o a10, .o r13], by dsimp only; omega, t9⟩ (by dsimp only; omega)
  · refine K2 (K3 (L9 (K7 (L1 (L1 (L2 (K3 (K0 (K1 ?_)))))))))
    refine l_y rfl rfl (y_move rfl) ?_
    refine l_y rfl rfl (y_move rfl) ?_
    refine l_y rfl rfl (y_move rfl) ?_
    refine CK [.o a10] hO rfl (fun k' hx hr hO' => AboveC_spec t.pos t.tree.rank (hO := hO')) ?_
    rintro _ _ w ⟨rfl, rfl⟩ hO
    simp only [List.cons_append, List.nil_append] at hO
    refine l_y rfl rfl (y_move rfl) ?_
    refine l_y rfl rfl (y_move rfl) ?_
    refine l_y rfl rfl (y_move rfl) ?_
    refine CK [.o r13] hO rfl (fun k' hx hr hO' => rAboveC_spec t.sim t.tree.rank (hO := hO')) ?_
    rintro _ _ w ⟨rfl, rfl⟩ hO
    simp only [List.cons_append, List.nil_append] at hO
    refine l_y rfl rfl (y_eqB (c := true) rfl rfl (by simp)) ?_
    refine l_y rfl rfl (y_move rfl) ?_
    refine CK [] hO rfl (fun k' hx hr hO' => awake_spec (hO := hO')) ?_
    rintro _ _ w ⟨rfl, rfl⟩ hO
    simp only [List.cons_append, List.nil_append] at hO
    refine l_y rfl rfl (y_pick_t rfl rfl) ?_
    refine l_y rfl rfl (y_assign rfl) ?_
    refine K2 (K3 (K6 ?_))
    exact fin1 rfl rfl ⟨_, rfl, hO⟩
/-! what is read -/
abbrev QOp {H : Type} (W : World) : List Value → DataW H → Prop := QSt [QInt .i64, QInt .i64, QInt .i64, QInt .i64, QInt .i64, QStr, QStr, QAttr, QSl W 4 QAttr]
theorem q_op {H : Type} {enc : TypeId × Value → H} {W : World} : Reads enc Try.prog W 53 (QOp W) := by
  have h : Try.prog.cellsOf 53 = 12 := by kernel_rfl
  letI : Und Try.prog 53 _ := ⟨Try.underlying53⟩
  refine r_st ?_
  rw [h]
  exact .cons (m := 1) rfl (by kernel_rfl) r_int (.cons (m := 1) rfl (by kernel_rfl) r_int (.cons (m := 1) rfl (by kernel_rfl) r_int (.cons (m := 1) rfl (by kernel_rfl) r_int (.cons (m := 1) rfl (by kernel_rfl) r_int (.cons (m := 1) rfl (by kernel_rfl) r_str (.cons (m := 1) rfl (by kernel_rfl) r_str (.cons (m := 4) rfl (by kernel_rfl) q_attr (.cons (m := 1) rfl (by kernel_rfl) (r_sl (by decide) q_attr) (.nil _)))))))))
theorem all_texts {H : Type} {xs : List Api_attr} {ds : List (DataW H)} (hl : ds.length = xs.length) (h : ∀ (i : Nat) x d, xs[i]? = some x → ds[i]? = some d → QAttr (Api_attr.cells x) d) : ∀ s ∈ attrTexts xs, s.size ≤ Rows.uptoBulkAll ds := by
  intro s hs
  obtain ⟨x, hx, hs⟩ := List.mem_flatMap.1 hs
  obtain ⟨i, hi⟩ := List.getElem?_of_mem hx
  obtain ⟨d, hd⟩ : ∃ d, ds[i]? = some d := ⟨ds[i]'(by have := (List.getElem?_eq_some_iff.1 hi).1; omega), List.getElem?_eq_getElem _⟩
  have hm := bulk_mem (List.mem_of_getElem? hd)
  obtain ⟨ps, rfl, hq⟩ := h i x d hi hd
  obtain ⟨c1, cs1, d1, ds1, e1, rfl, g1, hq⟩ := hq.un
  obtain ⟨c2, cs2, d2, ds2, rfl, rfl, g2, hq⟩ := hq.un
  obtain ⟨c3, cs3, d3, ds3, rfl, rfl, g3, hq⟩ := hq.un
  obtain ⟨c4, cs4, d4, ds4, rfl, rfl, g4, hq⟩ := hq.un
  obtain ⟨rfl, rfl⟩ := hq.un0
  obtain ⟨n1, rfl, rfl, _⟩ := g1
  obtain ⟨s2, rfl, rfl, _⟩ := g2
  obtain ⟨s3, rfl, rfl, _⟩ := g3
  obtain ⟨s4, rfl, rfl, _⟩ := g4
  simp only [Api_attr.cells, List.cons_append, List.nil_append, List.cons.injEq, Value.string.injEq, and_true] at e1
  obtain ⟨_, f1, f2, f3⟩ := e1
  have z : ∀ t : ByteArray, t.data.toList.length = t.size := fun t => rfl
  simp only [Rows.uptoBulk, Rows.uptoBulkAll, z] at hm
  simp only [List.mem_cons, List.not_mem_nil, or_false] at hs
  rcases hs with rfl | rfl | rfl
  · rw [f1]; omega
  · rw [f2]; omega
  · rw [f3]; omega
theorem op_of {H : Type} {W : World} {r : List Value} {d : DataW H} (h : QOp W r d) (hb : Rows.uptoBulk d ≤ 1048576) : ∃ o : Law01_op, r = Law01_op.cells o ∧ Sli (Ro (all W)) (.slice o.LP o.L.length o.LC) (o.L.map Api_attr.cells) ∧ o.L.length ≤ 1048576 ∧ longB (o.Text :: attrTexts o.L) = false := by
  obtain ⟨ps, rfl, hq⟩ := h
  obtain ⟨c1, cs1, d1, ds1, rfl, rfl, g1, hq⟩ := hq.un
  obtain ⟨c2, cs2, d2, ds2, rfl, rfl, g2, hq⟩ := hq.un
  obtain ⟨c3, cs3, d3, ds3, rfl, rfl, g3, hq⟩ := hq.un
  obtain ⟨c4, cs4, d4, ds4, rfl, rfl, g4, hq⟩ := hq.un
  obtain ⟨c5, cs5, d5, ds5, rfl, rfl, g5, hq⟩ := hq.un
  obtain ⟨c6, cs6, d6, ds6, rfl, rfl, g6, hq⟩ := hq.un
  obtain ⟨c7, cs7, d7, ds7, rfl, rfl, g7, hq⟩ := hq.un
  obtain ⟨c8, cs8, d8, ds8, rfl, rfl, g8, hq⟩ := hq.un
  obtain ⟨c9, cs9, d9, ds9, rfl, rfl, g9, hq⟩ := hq.un
  obtain ⟨rfl, rfl⟩ := hq.un0
  obtain ⟨n1, rfl, rfl, _⟩ := g1
  obtain ⟨n2, rfl, rfl, _⟩ := g2
  obtain ⟨n3, rfl, rfl, _⟩ := g3
  obtain ⟨n4, rfl, rfl, _⟩ := g4
  obtain ⟨n5, rfl, rfl, _⟩ := g5
  obtain ⟨s6, rfl, rfl, _⟩ := g6
  obtain ⟨s7, rfl, rfl, _⟩ := g7
  obtain ⟨x8, rfl⟩ := attr_of g8
  obtain ⟨u, rows', ds', rfl, B⟩ := g9
  obtain ⟨q, cc, rfl, _⟩ := B.shape
  have h2 := bulk_len B
  have h3 := bulk_sl B
  obtain ⟨xs, rfl⟩ := attrs_of fun r hr => by
    obtain ⟨e, _, hq⟩ := B.all r hr
    exact attr_of hq
  have h5 := B.sli
  have h6 := all_texts (xs := xs) (ds := ds') (by have := B.len; simpa using this) fun i x e hi he => B.each i (Api_attr.cells x) e (by simp [hi]) he
  rw [List.length_map] at h2 h5
  simp only [Rows.uptoBulk, Rows.uptoBulkAll] at hb
  have z : s6.data.toList.length = s6.size := rfl
  refine ⟨⟨n1, n2, n3, n4, n5, s6, s7, x8, q, xs, cc⟩, by simp [Law01_op.cells], h5, by show xs.length ≤ _; omega, ?_⟩
  show longB (s6 :: attrTexts xs) = false
  refine List.any_eq_false.2 fun s hs => ?_
  simp only [decide_eq_true_eq]
  rcases List.mem_cons.1 hs with rfl | hs
  · omega
  · have := h6 s hs; omega
theorem script_of {H : Type} {W : World} {p : Option Addr} {c : Nat} {d : DataW H} {rows : List (List Value)} {ds : List (DataW H)} (A : ArgSl (all W) 12 (QOp W) (.slice p rows.length c) d rows ds) (hb : Rows.uptoBulk d ≤ 1048576) : ∃ l : List Law01_op, l.length = rows.length ∧ Scr (all W) p c l := by
  have h1 := bulk_sl A
  have h2 := bulk_len A
  have key : ∀ rows : List (List Value), (∀ r ∈ rows, ∃ o : Law01_op, r = Law01_op.cells o ∧ Sli (Ro (all W)) (.slice o.LP o.L.length o.LC) (o.L.map Api_attr.cells) ∧ o.L.length ≤ 1048576 ∧ longB (o.Text :: attrTexts o.L) = false) → ∃ l : List Law01_op, rows = l.map Law01_op.cells ∧ ∀ o ∈ l, (Sli (Ro (all W)) (.slice o.LP o.L.length o.LC) (o.L.map Api_attr.cells) ∧ o.L.length ≤ 1048576) ∧ longB (o.Text :: attrTexts o.L) = false := by
    intro rows
    induction rows with
    | nil => exact fun _ => ⟨[], rfl, fun o ho => by simp at ho⟩
    | cons r rows ih =>
      intro h
      obtain ⟨o, rfl, h3, h4, h5⟩ := h r (by simp)
      obtain ⟨l, rfl, h6⟩ := ih fun r hr => h r (by simp [hr])
      refine ⟨o :: l, rfl, fun o' ho => ?_⟩
      rcases List.mem_cons.1 ho with rfl | ho
      · exact ⟨⟨h3, h4⟩, h5⟩
      · exact h6 o' ho
  obtain ⟨l, rfl, hl⟩ := key rows fun r hr => by
    obtain ⟨e, he, hq⟩ := A.all r hr
    have := bulk_mem he
    exact op_of hq (by omega)
  have h3 := A.sli
  rw [List.length_map] at h3 h2
  exact ⟨l, by simp, h3, by omega, fun o ho => (hl o ho).1, fun o ho => (hl o ho).2⟩
end Go.Proofs.Ytnolpajggmfpdaa
