/- The walks of what the laws of the stack build, play and compare. -/
import Derived.Test.YtbhicbpfdbnpfaaStk10
set_option linter.unusedVariables false
set_option linter.unusedSimpArgs false
set_option maxRecDepth 100000
namespace Go.Proofs.Ytbhicbpfdbnpfaa
open Go Go.Hb Go.RowKit Go.ChangeShapes Go.WideShapes Go.ChangeAt
theorem rd_Law12_op {H : Type} {enc : TypeId × Value → H} {W : World} : Reads enc Try.prog W 53 (QSt [QInt .i64, QInt .i64, QInt .i64, QInt .i64, QStr]) := by
  have h : Try.prog.cellsOf 53 = 5 := by kernel_rfl
  letI : Und Try.prog 53 _ := ⟨Try.underlying53⟩
  refine r_st ?_
  rw [h]
  exact .cons (m := 1) rfl (by kernel_rfl) r_int (.cons (m := 1) rfl (by kernel_rfl) r_int (.cons (m := 1) rfl (by kernel_rfl) r_int (.cons (m := 1) rfl (by kernel_rfl) r_int (.cons (m := 1) rfl (by kernel_rfl) r_str (.nil _)))))
theorem of_Law12_op {H : Type} {r : List Value} {d : DataW H} (h : QSt [QInt .i64, QInt .i64, QInt .i64, QInt .i64, QStr] r d) : ∃ o : Law12_op, r = Law12_op.cells o ∧ True := by
  obtain ⟨ps, rfl, hq⟩ := h
  obtain ⟨c0, cs0, d0, ds0, rfl, rfl, g0, hq⟩ := hq.un
  obtain ⟨c1, cs1, d1, ds1, rfl, rfl, g1, hq⟩ := hq.un
  obtain ⟨c2, cs2, d2, ds2, rfl, rfl, g2, hq⟩ := hq.un
  obtain ⟨c3, cs3, d3, ds3, rfl, rfl, g3, hq⟩ := hq.un
  obtain ⟨c4, cs4, d4, ds4, rfl, rfl, g4, hq⟩ := hq.un
  obtain ⟨rfl, rfl⟩ := hq.un0
  obtain ⟨n0, rfl, rfl, _⟩ := g0
  obtain ⟨n1, rfl, rfl, _⟩ := g1
  obtain ⟨n2, rfl, rfl, _⟩ := g2
  obtain ⟨n3, rfl, rfl, _⟩ := g3
  obtain ⟨n4, rfl, rfl, _⟩ := g4
  exact ⟨⟨n0, n1, n2, n3, n4⟩, by simp [Law12_op.cells], trivial⟩
theorem rd_Law12_elem {H : Type} {enc : TypeId × Value → H} {W : World} : Reads enc Try.prog W 132 (QSt [QInt .i64, QStr]) := by
  have h : Try.prog.cellsOf 132 = 2 := by kernel_rfl
  letI : Und Try.prog 132 _ := ⟨Try.underlying132⟩
  refine r_st ?_
  rw [h]
  exact .cons (m := 1) rfl (by kernel_rfl) r_int (.cons (m := 1) rfl (by kernel_rfl) r_str (.nil _))
theorem of_Law12_elem {H : Type} {r : List Value} {d : DataW H} (h : QSt [QInt .i64, QStr] r d) : ∃ o : Law12_elem, r = Law12_elem.cells o ∧ True := by
  obtain ⟨ps, rfl, hq⟩ := h
  obtain ⟨c0, cs0, d0, ds0, rfl, rfl, g0, hq⟩ := hq.un
  obtain ⟨c1, cs1, d1, ds1, rfl, rfl, g1, hq⟩ := hq.un
  obtain ⟨rfl, rfl⟩ := hq.un0
  obtain ⟨n0, rfl, rfl, _⟩ := g0
  obtain ⟨n1, rfl, rfl, _⟩ := g1
  exact ⟨⟨n0, n1⟩, by simp [Law12_elem.cells], trivial⟩
/-! the namespaces of nodes -/
theorem SpOk.new : SpOk [docD] := fun i hi => by
  have : i = 0 := by simp at hi; omega
  subst this; exact ⟨by decide, by decide⟩
theorem SpOk.app {A : List Node_one} (h : SpOk A) {n : Node_one} (hn : 0 ≤ n.Node.Space ∧ n.Node.Space ≤ 2) : SpOk (A ++ [n]) := fun i hi => by
  by_cases h1 : i < A.length
  · rw [at_app_l h1]; exact h i h1
  · have : i = A.length := by simp at hi; omega
    subst this; rw [at_app_new]; exact hn
theorem SpOk.set {A : List Node_one} (h : SpOk A) {i : Nat} {n : Node_one} (hn : i < A.length → n.Node.Space = (at_ A i).Node.Space) : SpOk (A.set i n) := fun j hj => by
  have hj' : j < A.length := by simpa using hj
  by_cases h1 : i < A.length
  · rw [at_set h1]
    split
    · rw [hn h1]; exact h i h1
    · exact h j hj'
  · rw [List.set_eq_of_length_le (by omega)]; exact h j hj'
theorem SpOk.add {A : List Node_one} (h : SpOk A) {n : Api_node} {ts : List ByteArray} (hn : 0 ≤ n.Space ∧ n.Space ≤ 2) : SpOk (addL A n ts).2.2 := by
  unfold addL
  split
  · exact h
  · split
    · exact h
    · exact h.app hn
theorem SpOk.element {A : List Node_one} (h : SpOk A) {sp : Int} {nm : ByteArray} {xs : List Api_attr} {q : Option Addr} {d : Nat} : SpOk (elementL A sp nm xs q d).2.2 := by
  unfold elementL
  by_cases h1 : sp < 0 ∨ 2 < sp
  · rw [if_pos h1]; exact h
  rw [if_neg h1]
  have h2 : SpOk (A ++ [blankN (elementN q d sp nm xs)]) := h.app (show 0 ≤ sp ∧ sp ≤ 2 by omega)
  repeat' split
  all_goals first | exact h | exact h2 | skip
  dsimp only
  unfold setHost setInner
  refine SpOk.set (SpOk.set (h2.app (n := blankN fragmentN) ⟨by decide, by decide⟩) ?_) ?_
  · intro _; rfl
  · intro _; rfl
/-! the stack's elements -/
structure StkI (A : List Node_one) (l : List Int) : Prop where
  el : AllEl A l
  nodup : l.Nodup
theorem StkI.len {A : List Node_one} {l : List Int} (h : StkI A l) : l.length ≤ A.length := nodup_le _ _ h.nodup fun x hx => by
  have := hasB_true (elB_has (h.el x hx)); omega
theorem StkI.nil {A : List Node_one} : StkI A [] := ⟨fun x hx => by simp at hx, List.nodup_nil⟩
theorem findI_mem {l : List Int} {x : Int} (h : findI l x < 0) : x ∉ l := fun hx => by
  rcases idx_cases (fun y => decide (y = x)) l with ⟨_, h2⟩ | ⟨i, h2, _⟩
  · obtain ⟨j, hj, e⟩ := mem_at hx
    exact absurd (h2 j hj) (by simp [e])
  · unfold findI at h; omega
theorem StkI.cons {A : List Node_one} {l : List Int} {x : Int} (h : StkI A l) (hx : elB A x = true) (hn : x ∉ l) : StkI A (x :: l) := ⟨fun y hy => by
  rcases List.mem_cons.1 hy with rfl | hy
  · exact hx
  · exact h.el y hy, List.nodup_cons.2 ⟨hn, h.nodup⟩⟩
theorem StkI.perm {A : List Node_one} {l m : List Int} (h : StkI A l) (p : l.Perm m) : StkI A m := ⟨fun y hy => h.el y (p.mem_iff.2 hy), p.nodup_iff.1 h.nodup⟩
theorem StkI.sub {A : List Node_one} {l m : List Int} (h : StkI A l) (p : m.Sublist l) : StkI A m := ⟨fun y hy => h.el y (p.subset hy), h.nodup.sublist p⟩
theorem fresh0 {A : List Node_one} {l : List Int} {id : Int} (h : freshE A l id = 0) : elB A id = true ∧ id ∉ l := by
  rcases freshE_cases A l id with ⟨h1, _⟩ | ⟨h1, _⟩ | ⟨_, h2, h3⟩
  · omega
  · omega
  · exact ⟨h2, findI_mem h3⟩
theorem StkI.push {A : List Node_one} {l : List Int} {id : Int} (h : StkI A l) : StkI A (if freshE A l id = 0 then l ++ [id] else l) := by
  split
  · next h0 => exact (h.cons (fresh0 h0).1 (fresh0 h0).2).perm (List.perm_append_comm (l₁ := [id]))
  · exact h
theorem StkI.remove {A : List Node_one} {l : List Int} {id : Int} (h : StkI A l) : StkI A (removeL l id).2 := by
  unfold removeL
  split
  · exact h
  · dsimp only; rw [← List.eraseIdx_eq_take_drop_succ]; exact h.sub (List.eraseIdx_sublist ..)
theorem StkI.put {A : List Node_one} {l : List Int} {i id : Int} (h : StkI A l) : StkI A (putL A l i id).2 := by
  unfold putL
  split
  · exact h
  · next h0 =>
    split
    · exact h
    · have h1 := fresh0 (show freshE A l id = 0 by omega)
      refine (h.cons h1.1 h1.2).perm ?_
      dsimp only
      rw [List.append_assoc, List.singleton_append]
      conv => lhs; rw [← List.take_append_drop i.toNat l]
      exact List.perm_middle.symm
theorem StkI.swap {A : List Node_one} {l : List Int} {old id : Int} (h : StkI A l) : StkI A (swapL A l old id).2 := by
  unfold swapL
  split
  · exact h
  · split
    · next h0 =>
      have h1 := fresh0 h0
      have hs := List.eraseIdx_sublist l (findI l old).toNat
      rw [List.eraseIdx_eq_take_drop_succ] at hs
      refine ((h.sub hs).cons h1.1 fun hm => h1.2 (hs.subset hm)).perm ?_
      dsimp only
      rw [List.append_assoc, List.singleton_append]
      exact List.perm_middle.symm
    · exact h
theorem popR_suffix (p : Int → Bool) : ∀ (l r : List Int), popR p l = some r → r.Sublist l := by
  intro l
  induction l with
  | nil => intro r h; cases h
  | cons x l ih =>
    intro r h
    unfold popR at h
    split at h
    · cases h; exact List.sublist_cons_self x l
    · exact (ih r h).trans (List.sublist_cons_self x l)
theorem StkI.popTo {A : List Node_one} {l : List Int} {p : Int → Bool} (h : StkI A l) : StkI A (popTo p l).2 := by
  unfold Proofs.Ytbhicbpfdbnpfaa.popTo
  split
  · next r hr => exact h.sub (by have := (popR_suffix p _ _ hr).reverse; rwa [List.reverse_reverse] at this)
  · exact h
theorem StkI.drop {A : List Node_one} {l : List Int} {p : Int → Bool} (h : StkI A l) : StkI A (dropL p l) := by
  refine h.sub ?_
  have := ((List.dropWhile_suffix p (l := l.reverse)).sublist).reverse
  rwa [List.reverse_reverse] at this
theorem StkI.take {A : List Node_one} {l : List Int} (h : StkI A l) (i : Nat) : StkI A (l.take i) := h.sub (List.take_sublist i l)
section
variable {k : Ctx} {w : World}
set_option maxHeartbeats 1000000 in
theorem arenas_spec {lp : Option Addr} {lc : Nat} {L : List Law12_elem} (hs : Sli (Ro k) (.slice lp L.length lc) (L.map Law12_elem.cells)) (hO : Own k w []) :
    Tri Try.prog 24 #[.slice lp L.length lc] k w fun v m => ∃ a r A K R, v = .tuple #[.pointer (some ⟨a, 0, none⟩), .pointer (some ⟨r, 0, none⟩)] ∧ m = [arenaL a A, rarL r R] ∧ Two A K R ∧ SpOk A := by
  refine enter (args := [.slice lp L.length lc]) Try.func24 rfl rfl ?_
  have hgs := sli_gs hs
  refine K0 (K1 ?_)
  refine l_y rfl rfl (y_assign rfl) ?_
  refine l_y rfl rfl (y_assign rfl) ?_
  refine K2 (K3 (K0 (K1 ?_)))
  refine CK [] hO rfl (fun k' hx hr hO' => New_spec (hO := hO')) ?_
  rintro _ _ w ⟨a7, rfl, rfl⟩ hO
  simp only [List.cons_append, List.nil_append] at hO
  refine l_y rfl rfl (y_assign rfl) ?_
  refine K2 (K3 (K0 (K1 ?_)))
  refine CK [] hO rfl (fun k' hx hr hO' => rNew_spec (hO := hO')) ?_
  rintro _ _ w ⟨r8, rfl, rfl⟩ hO
  simp only [List.cons_append, List.nil_append] at hO
  refine l_y rfl rfl (y_assign rfl) ?_
  refine K2 (K3 (K0 (K0 (K1 ?_))))
  refine l_y rfl rfl (y_assign rfl) ?_
  refine K2 (K3 (K4 ?_))
  refine c_rounds (X := Nat × List Node_one × (Int → List Int) × List Ref01_one) (fun x => [(0, .slice lp L.length lc), (2, .pointer none), (3, .pointer none), (4, .pointer (some ⟨a7, 0, none⟩)), (5, .pointer (some ⟨r8, 0, none⟩)), (6, .int .i64 (x.1 : Int))]) (fun x w => Own k w [arenaL a7 x.2.1, rarL r8 x.2.2.2] ∧ (x.1 ≤ L.length) ∧ (Two x.2.1 x.2.2.1 x.2.2.2) ∧ (SpOk x.2.1)) (fun x => L.length - x.1) ((0, [docD], fun _ => [], [docR])) ⟨rfl, rfl, rfl, rfl, rfl, rfl, trivial⟩ ⟨hO.only [.o a7, .o r8], Nat.zero_le _, Two.new, SpOk.new⟩ ?_
  rintro x w m hm ⟨hO, hi, t, hsp⟩
  refine K0 (K0 (K1 ?_))
  refine l_y rfl rfl (y_move rfl) ?_
  refine l_y rfl rfl (y_move rfl) ?_
  refine l_y rfl rfl (y_lenL rfl) ?_
  refine Z0 (fun h4_3 => ?_) (fun h4_3 => ?_)
  · refine l_y rfl rfl (y_move rfl) ?_
    refine l_y rfl rfl (y_move rfl) ?_
    refine Z0 (fun h4_6 => ?_) (fun h4_6 => ?_)
    · refine l_y rfl rfl (y_pick_t rfl rfl) ?_
      refine l_y rfl rfl (y_move rfl) ?_
      refine l_y rfl rfl (y_move rfl) ?_
      refine l_y rfl rfl (y_nePnil rfl rfl rfl) ?_
      refine l_y rfl rfl (y_pick_t rfl rfl) ?_
      refine K2 (K3 (L8 (K5 (K3 (K0 (K4 (K0 ?_)))))))
      refine da_region (by intro c a d v w h; cases d <;> exact h) ?_
      have hO := hO.drew
      refine da_phase _ [11] (SO.ks [] hO) ?_
      refine dx_u 0 (by kernel_rfl) rfl rfl rfl (fun w => y_move rfl) ?_
      refine dx_u 1 (by kernel_rfl) rfl rfl rfl (fun w => y_move rfl) ?_
      refine dx_u 2 (by kernel_rfl) rfl rfl rfl (fun w => y_move rfl) ?_
      refine dx_u 3 (by kernel_rfl) rfl rfl rfl (fun w => y_idx rfl rfl) ?_
      refine dx_u 4 (by kernel_rfl) rfl rfl rfl (fun w => y_fld (j' := 0) rfl) ?_
      refine dx_y 5 (by kernel_rfl) rfl rfl rfl (fun w ⟨m, hw⟩ => y_r1 (x0 := 0) (enc := Law12_elem.cells) (xs := L) hw rfl) ?_
      refine dx_u 6 (by kernel_rfl) rfl rfl rfl (fun w => y_move rfl) ?_
      refine dx_u 7 (by kernel_rfl) rfl rfl rfl (fun w => y_move rfl) ?_
      refine dx_u 8 (by kernel_rfl) rfl rfl rfl (fun w => y_idx rfl rfl) ?_
      refine dx_u 9 (by kernel_rfl) rfl rfl rfl (fun w => y_fld (j' := 1) rfl) ?_
      refine dx_y 10 (by kernel_rfl) rfl rfl rfl (fun w ⟨m, hw⟩ => y_r1 (x0 := 1) (enc := Law12_elem.cells) (xs := L) hw rfl) ?_
      refine dx_close 11 (by kernel_rfl) rfl rfl ?_
      refine CK [.o a7] hO rfl (fun k' hx hr hO' => Element_spec (xs := []) t.pos t.max (Sli.nil rfl) (hO := hO')) ?_
      rintro _ _ w ⟨q1, d1, rfl, rfl⟩ hO
      refine o_done ?_
      refine da_end (by kernel_rfl) ?_
      refine K3 ?_
      refine da_region (by intro c a d v w h; cases d <;> exact h) ?_
      have hO := hO.drew
      refine da_phase _ [11] (SO.ks [] hO) ?_
      refine dx_u 0 (by kernel_rfl) rfl rfl rfl (fun w => y_move rfl) ?_
      refine dx_u 1 (by kernel_rfl) rfl rfl rfl (fun w => y_move rfl) ?_
      refine dx_u 2 (by kernel_rfl) rfl rfl rfl (fun w => y_move rfl) ?_
      refine dx_u 3 (by kernel_rfl) rfl rfl rfl (fun w => y_idx rfl rfl) ?_
      refine dx_u 4 (by kernel_rfl) rfl rfl rfl (fun w => y_fld (j' := 0) rfl) ?_
      refine dx_y 5 (by kernel_rfl) rfl rfl rfl (fun w ⟨m, hw⟩ => y_r1 (x0 := 0) (enc := Law12_elem.cells) (xs := L) hw rfl) ?_
      refine dx_u 6 (by kernel_rfl) rfl rfl rfl (fun w => y_move rfl) ?_
      refine dx_u 7 (by kernel_rfl) rfl rfl rfl (fun w => y_move rfl) ?_
      refine dx_u 8 (by kernel_rfl) rfl rfl rfl (fun w => y_idx rfl rfl) ?_
      refine dx_u 9 (by kernel_rfl) rfl rfl rfl (fun w => y_fld (j' := 1) rfl) ?_
      refine dx_y 10 (by kernel_rfl) rfl rfl rfl (fun w ⟨m, hw⟩ => y_r1 (x0 := 1) (enc := Law12_elem.cells) (xs := L) hw rfl) ?_
      refine dx_close 11 (by kernel_rfl) rfl rfl ?_
      refine CK [.o r8] hO rfl (fun k' hx hr hO' => rElement_spec (xs := []) t.rmax (Sli.nil rfl) (hO := hO')) ?_
      rintro _ _ w ⟨q2, d2, rfl, rfl⟩ hO
      simp only [List.cons_append, List.nil_append] at hO
      obtain ⟨e1, e2, Kz, t9⟩ := el_both t (at_ L x.1).Space (at_ L x.1).Name [] q1 q2 d1 d2
      refine o_done ?_
      refine da_end (by kernel_rfl) ?_
      refine K8 (K3 (K1 ?_))
      refine l_y rfl rfl (y_move rfl) ?_
      refine l_y rfl rfl (D4) ?_
      refine l_y rfl rfl (y_assign rfl) ?_
      refine K2 ?_
      exact q_next ((x.1 + 1, (elementL x.2.1 (at_ L x.1).Space (at_ L x.1).Name [] q1 d1).2.2, Kz, (elementR x.2.2.2 (at_ L x.1).Space (at_ L x.1).Name [] q2 d2).2.2)) ⟨rfl, rfl, rfl, rfl, rfl, rfl, trivial⟩ ⟨hO.only [.o a7, .o r8], by dsimp only; omega, t9, hsp.element⟩ (by dsimp only; omega)
    · refine l_y rfl rfl (y_pick_t rfl rfl) ?_
      refine l_y rfl rfl (y_move rfl) ?_
      repeat refine M2 ?_
      refine l_y rfl rfl (y_pick_f rfl rfl) ?_
      refine K2 (K3 (L9 (K7 (L1 (L1 (L2 (K3 (K0 (K0 (K1 ?_))))))))))
      refine l_y rfl rfl (y_move rfl) ?_
      refine l_y rfl rfl (y_nePnil rfl rfl rfl) ?_
      refine K2 (K3 (L8 (K0 (K1 ?_))))
      refine l_y rfl rfl (y_move rfl) ?_
      refine CK [.o a7] hO rfl (fun k' hx hr hO' => Text_spec t.pos t.max (hO := hO')) ?_
      rintro _ _ w ⟨rfl, rfl⟩ hO
      refine K2 (K3 (K1 ?_))
      refine l_y rfl rfl (y_move rfl) ?_
      refine CK [.o r8] hO rfl (fun k' hx hr hO' => rText_spec t.rmax (hO := hO')) ?_
      rintro _ _ w ⟨rfl, rfl⟩ hO
      simp only [List.cons_append, List.nil_append] at hO
      obtain ⟨e1, e2, Kz, t9⟩ := add_both t [⟨#[120]⟩] (Nat.zero_le _) (show Sim1 (blankN (textN ⟨#[120]⟩)) [] (blankR (textR ⟨#[120]⟩)) from ⟨rfl, rfl, rfl, rfl, rfl, rfl, rfl, rfl, rfl, rfl⟩)
      refine K2 (K3 (K0 (K1 ?_)))
      refine l_y rfl rfl (y_move rfl) ?_
      refine l_y rfl rfl (y_move rfl) ?_
      refine l_y rfl rfl (y_assign rfl) ?_
      refine l_y rfl rfl (y_assign rfl) ?_
      refine K2 (K3 (K6 ?_))
      exact fin2 rfl rfl rfl ⟨_, ⟨a7, r8, _, _, _, rfl, rfl, t9, hsp.add ⟨by decide, by decide⟩⟩, hO.only [.o a7, .o r8]⟩
  · refine l_y rfl rfl (y_move rfl) ?_
    repeat refine M2 ?_
    refine l_y rfl rfl (y_pick_f rfl rfl) ?_
    refine l_y rfl rfl (y_move rfl) ?_
    repeat refine M2 ?_
    refine l_y rfl rfl (y_pick_f rfl rfl) ?_
    refine K2 (K3 (L9 (K7 (L1 (L1 (L2 (K3 (K0 (K0 (K1 ?_))))))))))
    refine l_y rfl rfl (y_move rfl) ?_
    refine l_y rfl rfl (y_nePnil rfl rfl rfl) ?_
    refine K2 (K3 (L8 (K0 (K1 ?_))))
    refine l_y rfl rfl (y_move rfl) ?_
    refine CK [.o a7] hO rfl (fun k' hx hr hO' => Text_spec t.pos t.max (hO := hO')) ?_
    rintro _ _ w ⟨rfl, rfl⟩ hO
    refine K2 (K3 (K1 ?_))
    refine l_y rfl rfl (y_move rfl) ?_
    refine CK [.o r8] hO rfl (fun k' hx hr hO' => rText_spec t.rmax (hO := hO')) ?_
    rintro _ _ w ⟨rfl, rfl⟩ hO
    simp only [List.cons_append, List.nil_append] at hO
    obtain ⟨e1, e2, Kz, t9⟩ := add_both t [⟨#[120]⟩] (Nat.zero_le _) (show Sim1 (blankN (textN ⟨#[120]⟩)) [] (blankR (textR ⟨#[120]⟩)) from ⟨rfl, rfl, rfl, rfl, rfl, rfl, rfl, rfl, rfl, rfl⟩)
    refine K2 (K3 (K0 (K1 ?_)))
    refine l_y rfl rfl (y_move rfl) ?_
    refine l_y rfl rfl (y_move rfl) ?_
    refine l_y rfl rfl (y_assign rfl) ?_
    refine l_y rfl rfl (y_assign rfl) ?_
    refine K2 (K3 (K6 ?_))
    exact fin2 rfl rfl rfl ⟨_, ⟨a7, r8, _, _, _, rfl, rfl, t9, hsp.add ⟨by decide, by decide⟩⟩, hO.only [.o a7, .o r8]⟩
end
end Go.Proofs.Ytbhicbpfdbnpfaa
