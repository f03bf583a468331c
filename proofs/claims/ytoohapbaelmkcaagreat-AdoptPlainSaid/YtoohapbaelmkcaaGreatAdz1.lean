/- The walk of the law AdoptZero; no condition. -/
import Derived.Test.YtoohapbaelmkcaaGreatStk2
import Derived.Test.YtoohapbaelmkcaaGreatAct1
import Derived.Test.YtoohapbaelmkcaaGreatRef2
import Derived.Test.YtoohapbaelmkcaaGreatAdzZ
import Derived.Test.YtoohapbaelmkcaaGreatTree5
set_option linter.unusedVariables false
set_option linter.unusedSimpArgs false
set_option maxRecDepth 100000
namespace Go.Proofs.YtoohapbaelmkcaaGreat
open Go Go.Hb Go.RowKit
/-- two results that lie in memory -/
theorem fincc {P : Program} {n : Nat} {E : Env} {w : World} {fn : Func} {T : Value → World → Prop} {t u : Nat} {ty tz : TypeId} {m q : Nat} [hl : Lay P ty true m] [hl2 : Lay P tz true q] {a b : Addr} {cs es : List Value} (hrs : fn.results = #[.cell t ty, .cell u tz]) (hv : Hb.look E t = some (.pointer (some a))) (hx : Hb.look E u = some (.pointer (some b))) (hm : cs.length = m) (hn : es.length = q) (hh : Holds w a cs) (hk : Holds w b es) (hT : T (.tuple #[.agg cs.toArray, .agg es.toArray]) w) :
    QW (bodyPost P fn fun e w' => ∃ v, e = .returned v ∧ T v w') n [] .ret E w := fun c hc =>
  ⟨hc.defers, _, by
    subst hm hn
    have h0 := hc.at_ t _ hv
    have h2 := hc.at_ u _ hx
    simp only [Array.getD_eq_getD_getElem?] at h0 h2
    have h1 := run_loadCells_list (P := P) w a cs hh
    have h3 := run_loadCells_list (P := P) w b es hk
    simp [results, hrs, h0, h2, asAddr, loadVar, hl.isAgg, hl.size, hl2.isAgg, hl2.size, h1, h3], _, rfl, hT⟩
section
variable {k : Ctx} {w : World}
theorem zsNew_spec {p : Option Addr} (hO : Own k w []) : Tri Tryz.prog 26 #[.pointer p] k w fun v m => ∃ b, v = .pointer (some ⟨b, 0, none⟩) ∧ m = [] := by
  refine enter (args := [.pointer p]) Tryz.func26 rfl rfl ?_
  refine K0 (K1 ?_)
  refine l_y rfl rfl (y_assign rfl) ?_
  refine K2 (K3 (K0 (K1 ?_)))
  refine l_y rfl rfl (y_move rfl) ?_
  refine s_build (parts := [(0, .tmp 3)]) (cs := [.pointer p, .slice none 0 0]) rfl rfl (fun a ha => partsOf_sound ha _ _ rfl) (by kernel_rfl) ?_
  refine s_box (vs := [.pointer p, .slice none 0 0]) hO rfl rfl rfl (by rfl) fun b5 w hO => ?_
  refine l_y rfl rfl (y_assign rfl) ?_
  refine K2 (K3 (K6 ?_))
  exact fin1 rfl rfl ⟨_, ⟨_, rfl, rfl⟩, hO.none⟩
theorem zlNew_spec {p : Option Addr} (hO : Own k w []) : Tri Tryz.prog 27 #[.pointer p] k w fun v m => ∃ b, v = .pointer (some ⟨b, 0, none⟩) ∧ m = [] := by
  refine enter (args := [.pointer p]) Tryz.func27 rfl rfl ?_
  refine K0 (K1 ?_)
  refine l_y rfl rfl (y_assign rfl) ?_
  refine K2 (K3 (K0 (K1 ?_)))
  refine l_y rfl rfl (y_move rfl) ?_
  refine s_build (parts := [(0, .tmp 3)]) (cs := [.pointer p, .slice none 0 0]) rfl rfl (fun a ha => partsOf_sound ha _ _ rfl) (by kernel_rfl) ?_
  refine s_box (vs := [.pointer p, .slice none 0 0]) hO rfl rfl rfl (by rfl) fun b5 w hO => ?_
  refine l_y rfl rfl (y_assign rfl) ?_
  refine K2 (K3 (K6 ?_))
  exact fin1 rfl rfl ⟨_, ⟨_, rfl, rfl⟩, hO.none⟩
theorem zrNew_spec (hO : Own k w []) : Tri Tryz.prog 25 #[] k w fun v m => ∃ r, v = .pointer (some ⟨r, 0, none⟩) ∧ m = [] := by
  refine Ret.mono (rNew_spec hO) ?_
  rintro v w' ⟨m, ⟨r, rfl, rfl⟩, hO⟩
  exact ⟨_, ⟨r, rfl, rfl⟩, hO.none⟩
set_option maxHeartbeats 1000000 in
theorem build0_spec (hO : Own k w []) : Tri Tryz.prog 7 #[.slice none 0 0] k w fun v m => ∃ a s l x y z, v = .tuple #[.agg [.pointer (some ⟨a, 0, none⟩), .pointer (some ⟨s, 0, none⟩), .pointer (some ⟨l, 0, none⟩)].toArray, .agg [.pointer (some ⟨x, 0, none⟩), .pointer (some ⟨y, 0, none⟩), .pointer (some ⟨z, 0, none⟩)].toArray] ∧ m = [arenaL a [docD], stkL s a [], actL l a []] := by
  refine enter (args := [.slice none 0 0]) Tryz.func7 rfl rfl ?_
  refine K0 (K1 ?_)
  refine s_alloc (vs := [.pointer none, .pointer none, .pointer none]) hO rfl rfl rfl fun b2 w hO => ?_
  refine s_alloc (vs := [.pointer none, .pointer none, .pointer none]) hO rfl rfl rfl fun b3 w hO => ?_
  refine K2 (K3 (K0 (K1 ?_)))
  refine CK [] hO rfl (fun k' hx hr hO' => New_spec (hO := hO')) ?_
  rintro _ _ w ⟨a11, rfl, rfl⟩ hO
  simp only [List.cons_append, List.nil_append] at hO
  refine s_build (parts := [(0, .tmp 11)]) (cs := [.pointer (some ⟨a11, 0, none⟩), .pointer none, .pointer none]) rfl rfl (fun a ha => partsOf_sound ha _ _ rfl) (by kernel_rfl) ?_
  refine s_alloc (vs := [.pointer none, .pointer none, .pointer none]) hO rfl rfl rfl fun b4 w hO => ?_
  refine Y3 hO rfl rfl (fun w hO => ?_)
  refine K2 (K3 (K0 (K1 ?_)))
  refine l_y rfl rfl (y_fldb (o' := 0) rfl) ?_
  refine l_y rfl rfl (D5 hO rfl) ?_
  refine CK [.o a11] hO rfl (fun k' hx hr hO' => sNew_spec (by simp) (hO := hO')) ?_
  rintro _ _ w ⟨s, rfl, rfl⟩ hO
  simp only [List.cons_append, List.nil_append] at hO
  refine l_y rfl rfl (y_move rfl) ?_
  refine l_y rfl rfl (y_extract rfl rfl) ?_
  refine l_y rfl rfl (y_extract rfl rfl) ?_
  refine l_y rfl rfl (y_fldb (o' := 1) rfl) ?_
  refine Y1 hO rfl rfl (fun w hO => ?_)
  simp only [List.set_cons_zero, List.set_cons_succ] at hO
  refine K2 (K3 (K0 (K1 ?_)))
  refine l_y rfl rfl (y_fldb (o' := 0) rfl) ?_
  refine l_y rfl rfl (D5 hO rfl) ?_
  refine CK [.o a11] hO rfl (fun k' hx hr hO' => aNew_spec (by simp) (hO := hO')) ?_
  rintro _ _ w ⟨l, rfl, rfl⟩ hO
  simp only [List.cons_append, List.nil_append] at hO
  refine l_y rfl rfl (y_move rfl) ?_
  refine l_y rfl rfl (y_extract rfl rfl) ?_
  refine l_y rfl rfl (y_extract rfl rfl) ?_
  refine l_y rfl rfl (y_fldb (o' := 2) rfl) ?_
  refine Y1 hO rfl rfl (fun w hO => ?_)
  simp only [List.set_cons_zero, List.set_cons_succ] at hO
  refine K2 (K3 (K0 (K1 ?_)))
  refine CK [] hO rfl (fun k' hx hr hO' => zrNew_spec (hO := hO')) ?_
  rintro _ _ w ⟨r27, rfl, rfl⟩ hO
  simp only [List.cons_append, List.nil_append] at hO
  refine l_y rfl rfl (y_assign rfl) ?_
  refine K2 (K3 (K0 (K1 ?_)))
  refine l_y rfl rfl (y_move rfl) ?_
  refine l_y rfl rfl (y_move rfl) ?_
  refine CK [] hO rfl (fun k' hx hr hO' => zsNew_spec (hO := hO')) ?_
  rintro _ _ w ⟨r30, rfl, rfl⟩ hO
  simp only [List.cons_append, List.nil_append] at hO
  refine l_y rfl rfl (y_move rfl) ?_
  refine CK [] hO rfl (fun k' hx hr hO' => zlNew_spec (hO := hO')) ?_
  rintro _ _ w ⟨r32, rfl, rfl⟩ hO
  simp only [List.cons_append, List.nil_append] at hO
  refine s_build (parts := [(0, .tmp 28), (1, .tmp 30), (2, .tmp 32)]) (cs := [.pointer (some ⟨r27, 0, none⟩), .pointer (some ⟨r30, 0, none⟩), .pointer (some ⟨r32, 0, none⟩)]) rfl rfl (fun a ha => partsOf_sound ha _ _ rfl) (by kernel_rfl) ?_
  refine s_alloc (vs := [.pointer none, .pointer none, .pointer none]) hO rfl rfl rfl fun b6 w hO => ?_
  refine Y3 hO rfl rfl (fun w hO => ?_)
  refine K2 (K3 (K0 (K0 (K1 ?_))))
  refine l_y rfl rfl (y_assign rfl) ?_
  refine K2 (K3 (K4 ?_))
  refine c_rounds (X := Unit) (fun _u => [(0, .slice none 0 0), (2, .pointer (some ⟨b2, 0, none⟩)), (3, .pointer (some ⟨b3, 0, none⟩)), (4, .pointer (some ⟨b4, 0, none⟩)), (5, .pointer (some ⟨r27, 0, none⟩)), (6, .pointer (some ⟨b6, 0, none⟩)), (7, .int .i64 0)]) (fun _u w => Own k w [arenaL a11 [docD], stkL s a11 [], actL l a11 [], blk b2 26 [.pointer none, .pointer none, .pointer none], blk b3 31 [.pointer none, .pointer none, .pointer none], blk b4 26 [.pointer (some ⟨a11, 0, none⟩), .pointer (some ⟨s, 0, none⟩), .pointer (some ⟨l, 0, none⟩)], blk b6 31 [.pointer (some ⟨r27, 0, none⟩), .pointer (some ⟨r30, 0, none⟩), .pointer (some ⟨r32, 0, none⟩)]] ∧ (True)) (fun _u => 0) (()) ⟨rfl, rfl, rfl, rfl, rfl, rfl, rfl, trivial⟩ ⟨hO.only [.o a11, .o s, .o l, .b b2, .b b3, .b b4, .b b6], trivial⟩ ?_
  rintro _u w m hm ⟨hO, hT0⟩
  refine K0 (K0 (K1 ?_))
  refine l_y rfl rfl (y_move rfl) ?_
  refine l_y rfl rfl (y_move rfl) ?_
  refine l_y rfl rfl (y_lenL rfl) ?_
  refine N3 (hp := (by decide)) ?_
  refine l_y rfl rfl (y_move rfl) ?_
  repeat refine M2 ?_
  refine l_y rfl rfl (y_pick_f rfl rfl) ?_
  refine l_y rfl rfl (y_move rfl) ?_
  repeat refine M2 ?_
  refine l_y rfl rfl (y_pick_f rfl rfl) ?_
  refine K2 (K3 (L9 (K7 (L1 (L1 (L2 (K3 (K0 ?_))))))))
  refine da_region (by intro c a d v w h; cases d <;> exact h) ?_
  have hO := hO.drew
  refine da_phase _ [3] (SO.ks [.b b4, .b b6] hO) ?_
  refine dx_y 0 (by kernel_rfl) rfl rfl rfl (fun w ⟨m, hw⟩ => D8 (cs := [.pointer (some ⟨a11, 0, none⟩), .pointer (some ⟨s, 0, none⟩), .pointer (some ⟨l, 0, none⟩)]) hw rfl) ?_
  refine dx_y 1 (by kernel_rfl) rfl rfl rfl (fun w ⟨m, hw⟩ => D8 (cs := [.pointer (some ⟨r27, 0, none⟩), .pointer (some ⟨r30, 0, none⟩), .pointer (some ⟨r32, 0, none⟩)]) hw rfl) ?_
  refine dx_only 2 (by kernel_rfl) rfl rfl ?_
  refine Y3 hO rfl rfl (fun w hO => ?_)
  refine o_done ?_
  refine ⟨SO.ks [.b b4, .b b6] hO, ?_⟩
  refine dx_close 3 (by kernel_rfl) rfl rfl ?_
  refine Y3 hO rfl rfl (fun w hO => ?_)
  refine o_done ?_
  refine da_end (by kernel_rfl) ?_
  refine K3 (K6 ?_)
  have hb2 := (hO.only [.b b2]).holds (.hd _ _ _) (.ofBlkA (o := 0) (cs := [.pointer (some ⟨a11, 0, none⟩), .pointer (some ⟨s, 0, none⟩), .pointer (some ⟨l, 0, none⟩)]) 3 rfl)
  have hb3 := (hO.only [.b b3]).holds (.hd _ _ _) (.ofBlkA (o := 0) (cs := [.pointer (some ⟨r27, 0, none⟩), .pointer (some ⟨r30, 0, none⟩), .pointer (some ⟨r32, 0, none⟩)]) 3 rfl)
  exact fincc rfl rfl rfl rfl rfl hb2 hb3 ⟨_, ⟨_, _, _, _, _, _, rfl, rfl⟩, hO.only [.o a11, .o s, .o l]⟩
theorem push_none {s a : Nat} (hO : Own k w [arenaL a [docD], stkL s a []]) : Tri Tryz.prog 20 #[.pointer (some ⟨s, 0, none⟩), .int .i64 (-1)] k w fun v m => v = .int .i64 6 ∧ m = [arenaL a [docD], stkL s a []] := by
  refine Ret.mono (sPush_spec (by simp) Tree.new.attrs (by simp) hO) ?_
  rintro v w' ⟨m, ⟨rfl, rfl⟩, hO⟩
  have e : freshE [docD] [] (-1) = 6 := by rw [freshE, if_pos (by simp [elB, hasB])]
  rw [e] at hO
  exact ⟨_, ⟨by rw [e], rfl⟩, hO⟩
theorem len_nil (hO : Own k w []) : Tri Tryz.prog 12 #[.pointer none] k w fun v m => v = .int .i64 0 ∧ m = [] := Len_un k w none [] NoA.nil hO
theorem push_nil (hO : Own k w []) : Tri Tryz.prog 20 #[.pointer none, .int .i64 (-1)] k w fun v m => v = .int .i64 7 ∧ m = [] := kPush_un k w none [] NoS.nil _ hO
theorem remove_nil (hO : Own k w []) : Tri Tryz.prog 34 #[.pointer none, .int .i64 (-1)] k w fun v m => v = .int .i64 7 ∧ m = [] := vRemove_un k w none [] NoV.nil _ hO
section
variable {nm : ByteArray} {fo : Bool} {p q : Option Addr}
theorem run_a (hO : Own k w []) : Tri Tryz.prog 8 #[.pointer none, .pointer p, .pointer q, .string nm, .bool fo] k w fun v m => v = .tuple #[.bool false, .int .i64 0, .int .i64 7] ∧ m = [] := by
  refine enter (args := [.pointer none, .pointer p, .pointer q, .string nm, .bool fo]) Tryz.func8 rfl rfl ?_
  refine K0 (K1 ?_)
  refine l_y rfl rfl (y_assign rfl) ?_
  refine l_y rfl rfl (y_assign rfl) ?_
  refine l_y rfl rfl (y_assign rfl) ?_
  refine K2 (K3 (K0 (K4 (K0 (K1 ?_)))))
  refine l_y rfl rfl (y_move rfl) ?_
  refine CK [] hO rfl (fun k' hx hr hO' => len_nil (hO := hO')) ?_
  rintro _ _ w ⟨rfl, rfl⟩ hO
  refine N2 ?_
  refine l_y rfl rfl (y_move rfl) ?_
  repeat refine M2 ?_
  refine l_y rfl rfl (y_pick_t rfl rfl) ?_
  refine l_y rfl rfl (y_move rfl) ?_
  repeat refine M2 ?_
  refine l_y rfl rfl (y_pick_t rfl rfl) ?_
  refine l_y rfl rfl (y_assign rfl) ?_
  refine K2 (K3 (L8 (K0 (K1 ?_))))
  refine l_y rfl rfl (y_assign rfl) ?_
  refine l_y rfl rfl (y_assign rfl) ?_
  refine l_y rfl rfl (y_assign rfl) ?_
  refine K2 (K3 (K6 (L0 (K9 ?_))))
  exact fin3 rfl rfl rfl rfl ⟨_, ⟨rfl, rfl⟩, hO.none⟩
theorem run_s {a : Nat} (hO : Own k w [arenaL a [docD]]) : Tri Tryz.prog 8 #[.pointer (some ⟨a, 0, none⟩), .pointer none, .pointer q, .string nm, .bool fo] k w fun v m => v = .tuple #[.bool false, .int .i64 0, .int .i64 7] ∧ m = [arenaL a [docD]] := by
  refine enter (args := [.pointer (some ⟨a, 0, none⟩), .pointer none, .pointer q, .string nm, .bool fo]) Tryz.func8 rfl rfl ?_
  refine K0 (K1 ?_)
  refine l_y rfl rfl (y_assign rfl) ?_
  refine l_y rfl rfl (y_assign rfl) ?_
  refine l_y rfl rfl (y_assign rfl) ?_
  refine K2 (K3 (K0 (K4 (K0 (K1 ?_)))))
  refine l_y rfl rfl (y_move rfl) ?_
  refine CK [.o a] hO rfl (fun k' hx hr hO' => LenC_spec (by simp) (hO := hO')) ?_
  rintro _ _ w ⟨rfl, rfl⟩ hO
  simp only [List.cons_append, List.nil_append] at hO
  refine N3 (hp := (by simp)) ?_
  refine l_y rfl rfl (y_move rfl) ?_
  refine l_y rfl rfl (y_move rfl) ?_
  refine CK [] hO rfl (fun k' hx hr hO' => push_nil (hO := hO')) ?_
  rintro _ _ w ⟨rfl, rfl⟩ hO
  simp only [List.nil_append] at hO
  refine N2 ?_
  refine l_y rfl rfl (y_pick_f rfl rfl) ?_
  refine l_y rfl rfl (y_move rfl) ?_
  repeat refine M2 ?_
  refine l_y rfl rfl (y_pick_t rfl rfl) ?_
  refine l_y rfl rfl (y_assign rfl) ?_
  refine K2 (K3 (L8 (K0 (K1 ?_))))
  refine l_y rfl rfl (y_assign rfl) ?_
  refine l_y rfl rfl (y_assign rfl) ?_
  refine l_y rfl rfl (y_assign rfl) ?_
  refine K2 (K3 (K6 (L0 (K9 ?_))))
  exact fin3 rfl rfl rfl rfl ⟨_, ⟨rfl, rfl⟩, hO⟩
theorem run_l {a s : Nat} (hO : Own k w [arenaL a [docD], stkL s a []]) : Tri Tryz.prog 8 #[.pointer (some ⟨a, 0, none⟩), .pointer (some ⟨s, 0, none⟩), .pointer none, .string nm, .bool fo] k w fun v m => v = .tuple #[.bool false, .int .i64 0, .int .i64 7] ∧ m = [] := by
  refine enter (args := [.pointer (some ⟨a, 0, none⟩), .pointer (some ⟨s, 0, none⟩), .pointer none, .string nm, .bool fo]) Tryz.func8 rfl rfl ?_
  refine K0 (K1 ?_)
  refine l_y rfl rfl (y_assign rfl) ?_
  refine l_y rfl rfl (y_assign rfl) ?_
  refine l_y rfl rfl (y_assign rfl) ?_
  refine K2 (K3 (K0 (K4 (K0 (K1 ?_)))))
  refine l_y rfl rfl (y_move rfl) ?_
  refine CK [.o a] hO rfl (fun k' hx hr hO' => LenC_spec (by simp) (hO := hO')) ?_
  rintro _ _ w ⟨rfl, rfl⟩ hO
  simp only [List.cons_append, List.nil_append] at hO
  refine N3 (hp := (by simp)) ?_
  refine l_y rfl rfl (y_move rfl) ?_
  refine l_y rfl rfl (y_move rfl) ?_
  refine CK [.o a, .o s] hO rfl (fun k' hx hr hO' => push_none (hO := hO')) ?_
  rintro _ _ w ⟨rfl, rfl⟩ hO
  simp only [List.cons_append, List.nil_append] at hO
  refine N3 ?_
  refine l_y rfl rfl (y_pick_f rfl rfl) ?_
  refine l_y rfl rfl (y_move rfl) ?_
  refine l_y rfl rfl (y_move rfl) ?_
  refine CK [] hO rfl (fun k' hx hr hO' => remove_nil (hO := hO')) ?_
  rintro _ _ w ⟨rfl, rfl⟩ hO
  simp only [List.nil_append] at hO
  refine N2 ?_
  refine l_y rfl rfl (y_pick_f rfl rfl) ?_
  refine l_y rfl rfl (y_assign rfl) ?_
  refine K2 (K3 (L8 (K0 (K1 ?_))))
  refine l_y rfl rfl (y_assign rfl) ?_
  refine l_y rfl rfl (y_assign rfl) ?_
  refine l_y rfl rfl (y_assign rfl) ?_
  refine K2 (K3 (K6 (L0 (K9 ?_))))
  exact fin3 rfl rfl rfl rfl ⟨_, ⟨rfl, rfl⟩, hO.none⟩
theorem AdoptZero_spec (hO : Own k w []) : Tri Tryz.prog 3 #[.string nm] k w fun v m => v = .bool true ∧ m = [] := by
  refine enter (args := [.string nm]) Tryz.func3 rfl rfl ?_
  refine K0 (K1 ?_)
  refine l_y rfl rfl (y_assign rfl) ?_
  refine K2 (K3 (K0 (K1 ?_)))
  refine CK [] hO rfl (fun k' hx hr hO' => build0_spec (hO := hO')) ?_
  rintro _ _ w ⟨a, s, l, x, y, z, rfl, rfl⟩ hO
  simp only [List.append_nil] at hO
  refine l_y rfl rfl (y_move rfl) ?_
  refine l_y rfl rfl (y_extract rfl rfl) ?_
  refine l_y rfl rfl (y_extract rfl rfl) ?_
  refine s_alloc (vs := [.pointer none, .pointer none, .pointer none]) hO rfl rfl rfl fun b3 w hO => ?_
  refine s_alloc (vs := [.pointer none, .pointer none, .pointer none]) hO rfl rfl rfl fun b4 w hO => ?_
  refine Y3 hO rfl rfl (fun w hO => ?_)
  refine Y3 hO rfl rfl (fun w hO => ?_)
  refine K2 (K3 (K0 (K0 (K1 ?_))))
  refine l_y rfl rfl (y_fldb (o' := 0) rfl) ?_
  refine l_y rfl rfl (D5 hO rfl) ?_
  refine l_y rfl rfl (y_eqPnil rfl rfl rfl) ?_
  refine K2 (K3 (L9 (K5 (K3 (K0 (K1 ?_))))))
  refine l_y rfl rfl (y_fldb (o' := 1) rfl) ?_
  refine l_y rfl rfl (D5 hO rfl) ?_
  refine l_y rfl rfl (y_fldb (o' := 2) rfl) ?_
  refine l_y rfl rfl (D5 hO rfl) ?_
  refine l_y rfl rfl (y_move rfl) ?_
  refine CK [] hO rfl (fun k' hx hr hO' => run_a (hO := hO')) ?_
  rintro _ _ w ⟨rfl, rfl⟩ hO
  simp only [List.nil_append] at hO
  refine l_y rfl rfl (y_move rfl) ?_
  refine l_y rfl rfl (y_extract rfl rfl) ?_
  refine l_y rfl rfl (y_extract rfl rfl) ?_
  refine l_y rfl rfl (y_extract rfl rfl) ?_
  refine l_y rfl rfl (y_assign rfl) ?_
  refine l_y rfl rfl (y_assign rfl) ?_
  refine l_y rfl rfl (y_assign rfl) ?_
  refine K2 (K3 (K0 (K1 ?_)))
  refine l_y rfl rfl (y_fldb (o' := 0) rfl) ?_
  refine l_y rfl rfl (D5 hO rfl) ?_
  refine l_y rfl rfl (y_fldb (o' := 2) rfl) ?_
  refine l_y rfl rfl (D5 hO rfl) ?_
  refine l_y rfl rfl (y_move rfl) ?_
  refine CK [.o a] hO rfl (fun k' hx hr hO' => run_s (hO := hO')) ?_
  rintro _ _ w ⟨rfl, rfl⟩ hO
  simp only [List.cons_append, List.nil_append] at hO
  refine l_y rfl rfl (y_move rfl) ?_
  refine l_y rfl rfl (y_extract rfl rfl) ?_
  refine l_y rfl rfl (y_extract rfl rfl) ?_
  refine l_y rfl rfl (y_extract rfl rfl) ?_
  refine l_y rfl rfl (y_assign rfl) ?_
  refine l_y rfl rfl (y_assign rfl) ?_
  refine l_y rfl rfl (y_assign rfl) ?_
  refine K2 (K3 (K0 (K1 ?_)))
  refine l_y rfl rfl (y_fldb (o' := 0) rfl) ?_
  refine l_y rfl rfl (D5 hO rfl) ?_
  refine l_y rfl rfl (y_fldb (o' := 1) rfl) ?_
  refine l_y rfl rfl (D5 hO rfl) ?_
  refine l_y rfl rfl (y_move rfl) ?_
  refine CK [.o a, .o s] hO rfl (fun k' hx hr hO' => run_l (hO := hO')) ?_
  rintro _ _ w ⟨rfl, rfl⟩ hO
  simp only [List.nil_append] at hO
  refine l_y rfl rfl (y_move rfl) ?_
  refine l_y rfl rfl (y_extract rfl rfl) ?_
  refine l_y rfl rfl (y_extract rfl rfl) ?_
  refine l_y rfl rfl (y_extract rfl rfl) ?_
  refine l_y rfl rfl (y_assign rfl) ?_
  refine l_y rfl rfl (y_assign rfl) ?_
  refine l_y rfl rfl (y_assign rfl) ?_
  refine K2 (K3 (K0 (K1 ?_)))
  refine l_y rfl rfl (y_assign rfl) ?_
  refine K2 (K3 (K0 (K1 ?_)))
  refine l_y rfl rfl (y_move rfl) ?_
  refine l_y rfl rfl (y_move rfl) ?_
  refine N2 ?_
  refine l_y rfl rfl (y_move rfl) ?_
  refine l_y rfl rfl (y_move rfl) ?_
  refine l_y rfl rfl (y_move rfl) ?_
  refine N2 ?_
  refine l_y rfl rfl (y_pick_t rfl rfl) ?_
  refine l_y rfl rfl (y_move rfl) ?_
  refine l_y rfl rfl (y_move rfl) ?_
  refine l_y rfl rfl (y_move rfl) ?_
  refine N2 ?_
  refine l_y rfl rfl (y_pick_t rfl rfl) ?_
  refine l_y rfl rfl (y_assign rfl) ?_
  refine K2 (K3 (K6 ?_))
  exact fin1 rfl rfl ⟨_, ⟨rfl, rfl⟩, hO.none⟩
end
end
end Go.Proofs.YtoohapbaelmkcaaGreat
