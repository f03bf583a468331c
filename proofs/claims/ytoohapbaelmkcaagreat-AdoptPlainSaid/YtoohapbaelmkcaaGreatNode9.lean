/- The walks of what gives a node's children one by one; no condition. -/
import Derived.Test.YtoohapbaelmkcaaGreatNode8
set_option linter.unusedVariables false
set_option linter.unusedSimpArgs false
set_option maxRecDepth 100000
namespace Go.Proofs.YtoohapbaelmkcaaGreat
open Go Go.Hb Go.RowKit
theorem chain_cons {A : List Node_one} {c : Int} {l : List Int} (h : Chain A c l) (hc : ¬ c = -1) : ∃ s, l = c :: s ∧ hasB A c = true ∧ Chain A (at_ A c.toNat).Node.Next s := by
  cases l with
  | nil => exact absurd h hc
  | cons x s =>
    obtain ⟨rfl, _, hh, hs⟩ := h
    exact ⟨s, rfl, hh, hs⟩
theorem chain_nil {A : List Node_one} {c : Int} {l : List Int} (h : Chain A c l) (hc : c = -1) : l = [] := by
  cases l with
  | nil => rfl
  | cons x s => obtain ⟨rfl, h1, _⟩ := h; exact absurd hc h1
theorem iter_spec {k : Ctx} {w : World} {a b2 b3 L D : Nat} {A : List Node_one} {p : Option Addr} {c : Nat} {id : Int} {xs : List Int} {M0 : List HP} {B : List Int → List HP → Prop} {stop : Code → List HP → Prop} {fn : FuncId} {tmps : Array Value} {ps : Array Tmp} {assign body : Code}
    (hg : Gs p A.length) (hid : hasB A id = true) (hch : Chain A (at_ A id.toNat).Node.First xs) (hps : ps.size = 1) (hB : B [] M0) (hO : Own k w (obj L (loopO .ready none fn tmps ps assign body D) :: (itF a p c A b2 b3 id ++ M0)))
    (hround : ∀ pre x suf M w, xs = pre ++ x :: suf → B pre M → Own k w (obj L (loopO .ready none fn tmps ps assign body D) :: (itF a p c A b2 b3 id ++ M)) →
      RoundIn Fence.wide 0 Tryz.prog L fn ((ps.zip #[.int .i64 x]).foldl (fun tmps (t, a) => tmps.setIfInBounds t a) tmps) assign body w (RP k L fn tmps ps assign body D (fun M' => ∃ M, B (pre ++ [x]) M ∧ M' = itF a p c A b2 b3 id ++ M) stop)) :
    Ret Tryz.prog 141 #[.func (.yield L) #[] #[], .pointer (some ⟨b2, 0, none⟩), .pointer (some ⟨b3, 0, none⟩)] w fun _ w2 =>
      (∃ M, (∃ M', B xs M' ∧ M = itF a p c A b2 b3 id ++ M') ∧ Own k w2 (obj L (loopO .ready none fn tmps ps assign body D) :: M)) ∨ (∃ c M, stop c M ∧ Own k w2 (obj L (loopO .done (some c) fn tmps ps assign body D) :: M)) := by
  refine enter (args := [.func (.yield L) #[] #[], .pointer (some ⟨b2, 0, none⟩), .pointer (some ⟨b3, 0, none⟩)]) Tryz.func141 rfl rfl ?_
  have hid2 := hasB_true hid
  simp only [List.cons_append, List.nil_append] at hO
  refine K0 ?_
  refine da_region (by intro c a d v w h; cases d <;> exact h) ?_
  have hO := hO.drew
  refine da_phase _ [] (SO.ks [.b b2, .b a, .b b3, .p p] hO) ?_
  refine dx_y 0 (by kernel_rfl) rfl rfl rfl (fun w ⟨m, hw⟩ => D5 hw rfl) ?_
  refine dx_u 1 (by kernel_rfl) rfl rfl rfl (fun w => y_nilCheck rfl rfl) ?_
  refine dx_u 2 (by kernel_rfl) rfl rfl rfl (fun w => y_fldb (o' := 0) rfl) ?_
  refine dx_y 3 (by kernel_rfl) rfl rfl rfl (fun w ⟨m, hw⟩ => D5 hw rfl) ?_
  refine dx_y 4 (by kernel_rfl) rfl rfl rfl (fun w ⟨m, hw⟩ => D5 hw rfl) ?_
  refine dx_u 5 (by kernel_rfl) rfl rfl rfl (fun w => y_idx rfl rfl) ?_
  refine dx_u 6 (by kernel_rfl) rfl rfl rfl (fun w => y_fld (j' := 0) rfl) ?_
  refine dx_u 7 (by kernel_rfl) rfl rfl rfl (fun w => y_fld (j' := 7) rfl) ?_
  refine dx_y 8 (by kernel_rfl) rfl rfl rfl (fun w ⟨m, hw⟩ => y_e1 (x0 := 7) hw rfl) ?_
  refine dx_u 9 (by kernel_rfl) rfl rfl rfl (fun w => y_assign rfl) ?_
  refine dx_end (by kernel_rfl) ?_
  refine K3 (K4 ?_)
  refine c_rounds (X := Int × List Int × List Int × List HP) (fun x => [(0, .func (.yield L) #[] #[]), (1, .pointer (some ⟨b2, 0, none⟩)), (4, .int .i64 x.1)]) (fun x w => Own k w (obj L (loopO .ready none fn tmps ps assign body D) :: arB a p A.length c :: arS p c A :: blk b2 22 [.pointer (some ⟨a, 0, none⟩)] :: blk b3 3 [.int .i64 id] :: x.2.2.2) ∧ (xs = x.2.1 ++ x.2.2.1) ∧ (Chain A x.1 x.2.2.1) ∧ (B x.2.1 x.2.2.2)) (fun x => x.2.2.1.length) ((_, [], xs, M0)) ⟨rfl, rfl, rfl, trivial⟩ ⟨hO, rfl, hch, hB⟩ ?_
  rintro x w m hm ⟨hO, hx, hc, hb⟩
  refine K0 (K0 ?_)
  refine x_region ?_
  refine x_y rfl rfl (y_move rfl) ?_
  refine x_y rfl rfl (y_cmpI rfl rfl rfl) ?_
  refine x_y rfl rfl (y_move rfl) ?_
  refine x_split 16 rfl (fun hg16 => ?_) (fun hg16 => ?_)
  · have h1_1 := ndt hg16
    refine x_y rfl rfl (y_move rfl) ?_
    refine x_y rfl rfl (y_move rfl) ?_
    obtain ⟨s, hs, hh, hch2⟩ := chain_cons hc h1_1
    have hh2 := hasB_true hh
    refine x_yield hO rfl rfl (by simp [hps]) (hround x.2.1 x.1 s x.2.2.2 w (by rw [hx, hs]) hb hO) (fun w M2 hM hO => ?_) (fun w c2 M2 hM hO => ?_)
    · obtain ⟨M3, hb2, rfl⟩ := hM
      simp only [List.cons_append, List.nil_append] at hO
      refine x_y rfl rfl (y_pick_t rfl rfl) ?_
      refine x_nil (K3 (L8 (K5 (K3 (K0 (K4 (K5 (K8 (K3 (K1 ?_))))))))))
      refine l_y rfl rfl (D5 hO rfl) ?_
      refine l_y rfl rfl (y_nilCheck rfl rfl) ?_
      refine l_y rfl rfl (y_fldb (o' := 0) rfl) ?_
      refine l_y rfl rfl (D5 hO rfl) ?_
      refine l_y rfl rfl (y_move rfl) ?_
      refine l_y rfl rfl (y_idx rfl rfl) ?_
      refine l_y rfl rfl (y_fld (j' := 0) rfl) ?_
      refine l_y rfl rfl (y_fld (j' := 10) rfl) ?_
      refine l_y rfl rfl (y_e1 (x0 := 10) hO rfl) ?_
      refine l_y rfl rfl (y_assign rfl) ?_
      refine K2 ?_
      have hO : Own k w (obj L (loopO .ready none fn tmps ps assign body D) :: arB a p A.length c :: arS p c A :: blk b2 22 [.pointer (some ⟨a, 0, none⟩)] :: blk b3 3 [.int .i64 id] :: M3) := hO
      exact q_next (((at_ A (x.1 : Int).toNat).Node.Next, x.2.1 ++ [x.1], s, M3)) ⟨rfl, rfl, rfl, trivial⟩ ⟨hO, by dsimp only; simp [hx, hs], hch2, hb2⟩ (by dsimp only; rw [hs] at hm; simp at hm; omega)
    · refine x_y rfl rfl (y_pick_t rfl rfl) ?_
      refine x_nil (K3 (L9 (K7 (L1 (L1 (L2 ?_))))))
      exact fin0 rfl (.inr ⟨_, _, hM, hO⟩)
  · have h1_1 := ndf hg16
    refine x_pass rfl rfl ?_
    refine x_pass rfl rfl ?_
    refine x_pass rfl rfl ?_
    refine x_y rfl rfl (y_pick_f rfl rfl) ?_
    refine x_nil (K3 (L9 (K7 (L1 (L1 (L2 ?_))))))
    have he := chain_nil hc h1_1
    exact fin0 rfl (.inl ⟨_, ⟨x.2.2.2, by rw [hx, he, List.append_nil]; exact hb, rfl⟩, hO⟩)
abbrev kidB (b5 : Nat) (A : List Node_one) (D : Nat) (pre : List Int) (M : List HP) : Prop := ∃ q d, M = [blk b5 95 [.slice q pre.length d], sls q d 3 1 (eI .i64) pre, sep (A.map attrsP), obj D (.deferred (some []))]
set_option maxHeartbeats 1000000 in
theorem Kids_spec {k : Ctx} {w : World} {a : Nat} {A : List Node_one} {id : Int} {xs : List Int} (hn : 0 < A.length) (hxl : xs.length ≤ 1000000) (hch : hasB A id = true → Chain A (at_ A id.toNat).Node.First xs) (hO : Own k w [arenaL a A]) :
    Tri Tryz.prog 108 #[.pointer (some ⟨a, 0, none⟩), .int .i64 id] k w fun v m =>
      (hasB A id = false ∧ v = .slice none 0 0 ∧ m = [arenaL a A]) ∨ (hasB A id = true ∧ ∃ q d, v = .slice q xs.length d ∧ m = [arenaL a A, sls q d 3 1 (eI .i64) xs]) := by
  refine enterM (args := [.pointer (some ⟨a, 0, none⟩), .int .i64 id]) Tryz.func108 rfl rfl ?_
  obtain ⟨p, c, hg, hO⟩ := arenaL_open hO
  refine K0 (K1 ?_)
  refine l_y rfl rfl (y_assign rfl) ?_
  refine K2 (K3 (K0 (K0 (K1 ?_))))
  refine l_y rfl rfl (y_move rfl) ?_
  refine CK [.b a, .p p] hO rfl (fun k' hx hr hO' => none_spec (hO := hO')) ?_
  rintro _ _ w ⟨rfl, rfl⟩ hO
  simp only [List.cons_append, List.nil_append] at hO
  refine l_y rfl rfl (y_move rfl) ?_
  refine l_y rfl rfl (y_move rfl) ?_
  refine l_y rfl rfl (y_move rfl) ?_
  refine CK [.b a, .p p] hO rfl (fun k' hx hr hO' => has_spec (hO := hO')) ?_
  rintro _ _ w ⟨rfl, rfl⟩ hO
  simp only [List.cons_append, List.nil_append] at hO
  refine l_y rfl rfl (y_not rfl rfl) ?_
  refine l_y rfl rfl (y_pick_f rfl rfl) ?_
  refine K2 (K3 ?_)
  refine c_split rfl (fun hc14 => ?_) (fun hc14 => ?_)
  · simp only [Bool.not_eq_true', Bool.not_eq_false'] at hc14
    refine K0 (K1 ?_)
    refine l_y rfl rfl (y_assign rfl) ?_
    refine K2 (K3 (K6 (K9 ?_)))
    refine finM0 (R := fun _ _ => True) ?_
    exact fin1 rfl rfl ⟨_, .inl ⟨by first | exact hc14 | exact hg12, rfl, rfl⟩, (arenaL_shut (hO.ks [.s, .b a, .p p])).one⟩
  · simp only [Bool.not_eq_true', Bool.not_eq_false'] at hc14
    refine K5 (K3 (K0 (K1 ?_)))
    refine s_alloc (vs := [.slice none 0 0]) hO rfl rfl rfl fun b5 w hO => ?_
    refine K2 (K3 (K0 (K0 ?_)))
    have hid := hc14
    have hO : Own k w (sls none 0 3 1 (eI .i64) ([] : List Int) :: _) := sl_nil 3 1 hO
    refine K1 ?_
    refine l_y rfl rfl (y_move rfl) ?_
    refine l_y rfl rfl (y_move rfl) ?_
    refine CK [] hO rfl (fun k' hx hr hO' => children_spec (hO := hO')) ?_
    rintro _ _ w ⟨b2, b3, rfl, rfl⟩ hO
    simp only [List.cons_append, List.nil_append] at hO
    refine K2 (K3 (K4 ?_))
    refine c_range (gf := 141) (lb := [.pointer (some ⟨b2, 0, none⟩), .pointer (some ⟨b3, 0, none⟩)]) (done := fun M => ∃ q d, M = itF a p c A b2 b3 id ++ [blk b5 95 [.slice q xs.length d], sls q d 3 1 (eI .i64) xs, sep (A.map attrsP)]) (stop := fun _ _ => False) hO rfl (fun fn tmps L D w hF hO => ?_) (fun D w M hM hO => ?_) (fun D w c M hM hO => ?_)
    · have hO2 : Own k w (obj L (loopO .ready none fn tmps _ _ _ D) :: (itF a p c A b2 b3 id ++ [blk b5 95 [.slice none ([] : List Int).length 0], sls none 0 3 1 (eI .i64) [], sep (A.map attrsP), obj D (.deferred (some []))])) := hO.ks [.o L, .b a, .p p, .b b2, .b b3, .b b5, .p none, .s, .o D]
      refine Ret.mono (iter_spec (B := kidB b5 A D) (stop := fun _ _ => False) hg hid (hch hid) rfl ⟨none, 0, rfl⟩ hO2 ?_) (fun v w2 h => ?_)
      rotate_left
      · rcases h with ⟨M, ⟨M', ⟨q, d, rfl⟩, rfl⟩, hO⟩ | ⟨_, _, h, _⟩
        · exact .inl ⟨_, ⟨q, d, rfl⟩, hO.ks [.o L, .o D]⟩
        · exact h.elim
      rintro pre x suf _ w hxs ⟨q, d, rfl⟩ hO
      have hpl : pre.length < xs.length := by rw [hxs]; simp
      simp only [List.cons_append, List.nil_append] at hO
      refine round_ok (n := Tryz.f108.ntmps) (E := [(5, .pointer (some ⟨b5, 0, none⟩)), (18, .int .i64 x)]) ?_ hO ?_
      · have e1 : (#[18].zip #[Value.int .i64 x]).foldl (fun tmps (t, a) => tmps.setIfInBounds t a) tmps = tmps.setIfInBounds 18 (.int .i64 x) := by simp
        rw [e1]
        exact (hF.put (d := some 18) rfl (.int .i64 x)).weaken (E' := [(5, .pointer (some ⟨b5, 0, none⟩)), (18, .int .i64 x)]) ⟨rfl, rfl, trivial⟩
      · refine CR1 ?_
        refine l_y rfl rfl (y_assign rfl) ?_
        refine K2 ?_
        refine q_assign hO (fun w hO => ?_)
        refine CR4 (CR1 ?_)
        refine l_y rfl rfl (D5 hO rfl) ?_
        refine l_y rfl rfl (y_move rfl) ?_
        refine s_lit (parts := [(0, .tmp 20)]) (enc := (eI .i64)) [x] [.int .i64 x] hO rfl (fun b21 w hO => ?_)
        refine s_app hO rfl rfl (src_own hO) (fun p22 c22 w hO gs22 => ?_)
        refine Y1 hO rfl rfl (fun w hO => ?_)
        simp only [List.set_cons_zero, List.set_cons_succ] at hO
        refine K2 (K8 ?_)
        exact q_bodyend ⟨_, ⟨_, _, rfl⟩, rfl⟩ (hO.only [.o L, .b a, .p p, .b b2, .b b3, .b b5, .p p22, .s, .o D])
    · obtain ⟨q, d, rfl⟩ := hM
      simp only [List.cons_append, List.nil_append] at hO
      refine K8 (K3 (K0 (K1 ?_)))
      refine l_y rfl rfl (D5 hO rfl) ?_
      refine l_y rfl rfl (y_assign rfl) ?_
      refine K2 (K3 (K6 ?_))
      refine finM hO (fun w hO => ?_)
      exact fin1 rfl rfl ⟨_, .inr ⟨hid, q, d, rfl, rfl⟩, ((arenaL_shut (hO.ks [.s, .b a, .p p])).ks [.o a, .p q]).two⟩
    · exact hM.elim
end Go.Proofs.YtoohapbaelmkcaaGreat
