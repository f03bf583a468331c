/- The walk of the law NodeLinks. -/
import Derived.Test.YtnolpajggmfpdaaAbove
set_option linter.unusedVariables false
set_option linter.unusedSimpArgs false
set_option maxRecDepth 100000
namespace Go.Proofs.Ytnolpajggmfpdaa
open Go Go.Hb Go.RowKit
theorem split_at {l : List Int} {j : Nat} (h : j < l.length) : l = l.take j ++ at_ l j :: l.drop (j + 1) := by
  have e : l[j] = at_ l j := (at_eq (List.getElem?_eq_getElem h)).symm
  rw [← e, ← List.drop_eq_getElem_cons h, List.take_append_drop]
theorem lastL_take {l : List Int} {j : Nat} (h : j < l.length) : lastL (l.take (j + 1)) = at_ l j := by
  rw [take_succ_at h, lastL_app]
structure KidF (A : List Node_one) (K : Int → List Int) (i : Int) (j : Nat) : Prop where
  inA : InA A (at_ (K i) j)
  parent : (nodeA A (at_ (K i) j)).Parent = i
  zero : j = 0 → (nodeA A (at_ (K i) j)).Prev = -1 ∧ (nodeA A i).First = at_ (K i) j
  prev : 0 < j → (nodeA A (at_ (K i) j)).Prev = at_ (K i) (j - 1)
  last : j + 1 = (K i).length → (nodeA A i).Last = at_ (K i) j ∧ (nodeA A (at_ (K i) j)).Next = -1
theorem kid_facts {A : List Node_one} {K : Int → List Int} (t : Tree A K) {i : Int} (hi : InA A i) {j : Nat} (hj : j < (K i).length) : KidF A K i j := by
  have hL := t.lnk i hi
  obtain ⟨h1, h2, h3, h4⟩ := hL.kid _ _ _ (split_at hj)
  refine ⟨h1, h2, fun e => ?_, fun e => ?_, fun e => ?_⟩
  · subst e
    refine ⟨by rw [h3]; rfl, ?_⟩
    rw [hL.first]
    cases hk : K i with
    | nil => rw [hk] at hj; simp at hj
    | cons y l => rfl
  · obtain ⟨m, rfl⟩ : ∃ m, j = m + 1 := ⟨j - 1, by omega⟩
    rw [h3, lastL_take (by omega)]; rfl
  · refine ⟨?_, ?_⟩
    · rw [hL.last]
      have := lastL_take hj
      rwa [List.take_of_length_le (by omega)] at this
    · rw [h4, List.drop_of_length_le (by omega)]; rfl
theorem row_empty {A : List Node_one} {K : Int → List Int} (t : Tree A K) {i : Int} (hi : InA A i) : ((K i).length = 0 ↔ (nodeA A i).First = -1) ∧ ((K i).length = 0 ↔ (nodeA A i).Last = -1) := by
  have hL := t.lnk i hi
  rw [hL.first, hL.last]
  by_cases e : K i = []
  · rw [e]; exact ⟨⟨fun _ => rfl, fun _ => rfl⟩, ⟨fun _ => rfl, fun _ => rfl⟩⟩
  · have h1 := (hL.mem (headL_mem e)).1.1
    have h2 := (hL.mem (lastL_mem e)).1.1
    have h3 : (K i).length ≠ 0 := fun h => e (List.eq_nil_of_length_eq_zero h)
    exact ⟨⟨fun h => absurd h h3, fun h => by omega⟩, ⟨fun h => absurd h h3, fun h => by omega⟩⟩
theorem anc_rank {A : List Node_one} {rk : Int → Nat} (hrk : ∀ x, hasB A x = true → nextUp A x = -1 ∨ hasB A (nextUp A x) = true ∧ rk (nextUp A x) < rk x) {x y : Int} (h : Anc A x y) : hasB A x = true → y = -1 ∨ rk y ≤ rk x := by
  induction h with
  | refl => exact fun _ => .inr (Nat.le_refl _)
  | step h1 h2 ih =>
    intro hx
    rcases hrk _ hx with h3 | ⟨h3, h4⟩
    · rw [h3] at h2; exact .inl (anc_none h2)
    · exact (ih h3).imp (fun h => h) fun h => by omega
theorem not_above {A : List Node_one} {K : Int → List Int} (t : Tree A K) {i : Int} (hi : InA A i) (hp : (nodeA A i).Parent ≠ -1) : aboveB A (nodeA A i).Parent i = false := by
  have hn : ¬ Anc A (nodeA A i).Parent i := fun h => by
    obtain ⟨rk, hrk⟩ := t.rank
    have e : nextUp A i = (nodeA A i).Parent := by simp only [nodeA] at hp ⊢; rw [nextUp, if_neg hp]
    have h1 := hrk i hi.b
    rw [e] at h1
    have h2 := h1.resolve_left hp
    have h3 := anc_rank hrk h h2.1
    have := hi.1
    omega
  rw [aboveB, ancB_not hn, Bool.and_false]
theorem NodeT_spec {k : Ctx} {w : World} {a : Nat} {A : List Node_one} {id : Int} (hi : InA A id) (ha : AttrsOk A) (hO : Own k w [arenaL a A]) :
    Tri Try.prog 15 #[.pointer (some ⟨a, 0, none⟩), .int .i64 id] k w fun v m => ∃ q d, v = .tuple #[.agg (Api_node.cells (ownN (at_ A id.toNat).Node q d)).toArray, .int .i64 0] ∧ m = [arenaL a A, sls q d 24 4 Api_attr.cells (at_ A id.toNat).Node.Attrs] :=
  NodeOk_spec (at_get (by have h1 := hi.1; have h2 := hi.2; omega)) hi.1 ha hO
set_option maxHeartbeats 8000000 in
theorem NodeLinks_spec {k : Ctx} {w : World} {sp : Option Addr} {sc : Nat} {l : List Law01_op} (hs : Scr k sp sc l) (hO : Own k w []) :
    Tri Try.prog 7 #[.slice sp l.length sc] k w fun v m => v = .bool true := by
  refine enter (args := [.slice sp l.length sc]) Try.func7 rfl rfl ?_
  have hsl := hs.sli
  have hgs := sli_gs hsl
  have hll := hs.len
  refine K0 (K1 ?_)
  refine l_y rfl rfl (y_assign rfl) ?_
  refine K2 (K3 (K0 (K1 ?_)))
  refine CK [] hO rfl (fun k' hx hr hO' => New_spec (hO := hO')) ?_
  rintro _ _ w ⟨a13, rfl, rfl⟩ hO
  simp only [List.cons_append, List.nil_append] at hO
  refine l_y rfl rfl (y_assign rfl) ?_
  refine K2 (K3 (K0 (K0 (K1 ?_))))
  refine l_y rfl rfl (y_move rfl) ?_
  refine l_y rfl rfl (y_eqPnil rfl rfl rfl) ?_
  refine K2 (K3 (L9 (K5 (K3 (K0 (K1 ?_))))))
  refine CK [] hO rfl (fun k' hx hr hO' => rNew_spec (hO := hO')) ?_
  rintro _ _ w ⟨r16, rfl, rfl⟩ hO
  simp only [List.cons_append, List.nil_append] at hO
  refine l_y rfl rfl (y_assign rfl) ?_
  refine K2 (K3 (K0 (K0 (K1 ?_))))
  refine l_y rfl rfl (y_assign rfl) ?_
  refine K2 (K3 (K4 ?_))
  refine c_rounds (X := Nat × List Node_one × (Int → List Int) × List Ref01_one) (fun x => [(0, .slice sp l.length sc), (2, .bool false), (3, .pointer (some ⟨a13, 0, none⟩)), (4, .pointer (some ⟨r16, 0, none⟩)), (5, .int .i64 (x.1 : Int))]) (fun x w => Own k w [arenaL a13 x.2.1, rarL r16 x.2.2.2] ∧ (x.1 ≤ l.length) ∧ (Two x.2.1 x.2.2.1 x.2.2.2)) (fun x => l.length - x.1) ((0, [docD], fun _ => [], [docR])) ⟨rfl, rfl, rfl, rfl, rfl, trivial⟩ ⟨hO.only [.o a13, .o r16], Nat.zero_le _, Two.new⟩ ?_
  rintro x w m hm ⟨hO, hi, t⟩
  refine K0 (K0 (K1 ?_))
  refine l_y rfl rfl (y_move rfl) ?_
  refine l_y rfl rfl (y_move rfl) ?_
  refine l_y rfl rfl (y_lenL rfl) ?_
  refine Z0 (fun h6_3 => ?_) (fun h6_3 => ?_)
  · refine l_y rfl rfl (y_move rfl) ?_
    refine l_y rfl rfl (y_move rfl) ?_
    refine Z0 (fun h6_6 => ?_) (fun h6_6 => ?_)
    · refine l_y rfl rfl (y_pick_t rfl rfl) ?_
      refine K2 (K3 (L8 (K5 (K3 (K0 (K4 (K1 ?_)))))))
      refine l_y rfl rfl (y_move rfl) ?_
      refine l_y rfl rfl (y_move rfl) ?_
      refine l_y rfl rfl (y_move rfl) ?_
      refine l_y rfl rfl (y_move rfl) ?_
      refine l_y rfl rfl (y_idx rfl rfl) ?_
      refine l_y rfl rfl (y_rA (x0 := 0) (enc := Law01_op.cells) (xs := l) (cs := [.int .i64 (at_ l ((x.1 : Int) : Int).toNat).What, .int .i64 (at_ l ((x.1 : Int) : Int).toNat).A, .int .i64 (at_ l ((x.1 : Int) : Int).toNat).B, .int .i64 (at_ l ((x.1 : Int) : Int).toNat).C, .int .i64 (at_ l ((x.1 : Int) : Int).toNat).N, .string (at_ l ((x.1 : Int) : Int).toNat).Text, .string (at_ l ((x.1 : Int) : Int).toNat).More, .int .i64 (at_ l ((x.1 : Int) : Int).toNat).X.Space, .string (at_ l ((x.1 : Int) : Int).toNat).X.Prefix, .string (at_ l ((x.1 : Int) : Int).toNat).X.Name, .string (at_ l ((x.1 : Int) : Int).toNat).X.Value, .slice (at_ l ((x.1 : Int) : Int).toNat).LP (at_ l ((x.1 : Int) : Int).toNat).L.length (at_ l ((x.1 : Int) : Int).toNat).LC]) hO rfl) ?_
      refine CK [.o a13, .o r16] hO rfl (fun k' hx hr hO' => play_spec (o := at_ l x.1) t ((hs.one _ (at_mem (by omega))).1.ext hO hx) (hs.one _ (at_mem (by omega))).2 (hO := hO')) ?_
      rintro _ _ w ⟨b9, rfl, hb9, A9, Kz, R9, t9, rfl⟩ hO
      simp only [List.cons_append, List.nil_append] at hO
      refine K2 (K8 (K3 (K1 ?_)))
      refine l_y rfl rfl (y_move rfl) ?_
      refine l_y rfl rfl (D4) ?_
      refine l_y rfl rfl (y_assign rfl) ?_
      refine K2 ?_
      exact q_next ((x.1 + 1, A9, Kz, R9)) ⟨rfl, rfl, rfl, rfl, rfl, trivial⟩ ⟨hO.only [.o a13, .o r16], by dsimp only; omega, t9⟩ (by dsimp only; omega)
    · refine l_y rfl rfl (y_pick_t rfl rfl) ?_
      refine K2 (K3 (L9 (K7 (L1 (L1 (L2 (K3 (K0 (K0 ?_)))))))))
      have hAp := t.pos
      have hAm := t.max
      refine K1 ?_
      refine l_y rfl rfl (y_assign rfl) ?_
      refine K2 (K3 (K4 ?_))
      refine c_rounds (X := Nat) (fun i => [(2, .bool false), (3, .pointer (some ⟨a13, 0, none⟩)), (6, .int .i64 (i : Int))]) (fun i w => Own k w [arenaL a13 x.2.1] ∧ (True)) (fun i => x.2.1.length - i) (0) ⟨rfl, rfl, rfl, trivial⟩ ⟨hO.only [.o a13], trivial⟩ ?_
      rintro i w m hm ⟨hO, hT0⟩
      refine K0 (K0 (K1 ?_))
      refine l_y rfl rfl (y_move rfl) ?_
      refine l_y rfl rfl (y_move rfl) ?_
      refine CK [.o a13] hO rfl (fun k' hx hr hO' => LenC_spec hAp (hO := hO')) ?_
      rintro _ _ w ⟨rfl, rfl⟩ hO
      simp only [List.cons_append, List.nil_append] at hO
      refine Z0 (fun h10_3 => ?_) (fun h10_3 => ?_)
      · refine K2 (K3 (L8 (K5 (K3 (K0 (K4 (K0 ?_)))))))
        have hiA : InA x.2.1 (i : Int) := ⟨by omega, by omega⟩
        have hkl := t.tree.len hiA
        obtain ⟨hfe, hle⟩ := row_empty t.tree hiA
        refine K1 ?_
        refine l_y rfl rfl (y_move rfl) ?_
        refine l_y rfl rfl (y_move rfl) ?_
        refine CK [.o a13] hO rfl (fun k' hx hr hO' => NodeT_spec hiA t.tree.attrs (hO := hO')) ?_
        rintro _ _ w ⟨q7, d7, rfl, rfl⟩ hO
        simp only [List.cons_append, List.nil_append] at hO
        refine l_y rfl rfl (y_move rfl) ?_
        refine l_y rfl rfl (y_extract rfl rfl) ?_
        refine l_y rfl rfl (y_extract rfl rfl) ?_
        refine s_alloc (vs := [.int .i64 0, .int .i64 0, .string ⟨#[]⟩, .slice none 0 0, .string ⟨#[]⟩, .string ⟨#[]⟩, .int .i64 0, .int .i64 0, .int .i64 0, .int .i64 0, .int .i64 0, .int .i64 0]) hO rfl rfl rfl fun b7 w hO => ?_
        refine Y3 hO rfl rfl (fun w hO => ?_)
        refine l_y rfl rfl (y_assign rfl) ?_
        refine K2 (K3 (K0 (K1 ?_)))
        refine l_y rfl rfl (y_move rfl) ?_
        refine l_y rfl rfl (y_move rfl) ?_
        refine CK [.o a13] hO rfl (fun k' hx hr hO' => KidsT_spec t.tree hiA hAm (hO := hO')) ?_
        rintro _ _ w ⟨q9, d9, rfl, rfl⟩ hO
        simp only [List.cons_append, List.nil_append] at hO
        have hg9 := (sls_fct (p := q9) hO).2
        refine l_y rfl rfl (y_assign rfl) ?_
        refine K2 (K3 (K0 (K0 ?_)))
        have hfe2 : (x.2.2.1 (i : Int)).length = 0 ↔ (ownN (at_ x.2.1 (i : Int).toNat).Node q7 d7).First = -1 := hfe
        have hd1 : decide (((x.2.2.1 (i : Int)).length : Int) = 0) = decide ((ownN (at_ x.2.1 (i : Int).toNat).Node q7 d7).First = -1) := decide_eq_decide.2 ⟨fun h => hfe2.1 (by omega), fun h => by have := hfe2.2 h; omega⟩
        have hle2 : (x.2.2.1 (i : Int)).length = 0 ↔ (ownN (at_ x.2.1 (i : Int).toNat).Node q7 d7).Last = -1 := hle
        have hd2 : decide (((x.2.2.1 (i : Int)).length : Int) = 0) = decide ((ownN (at_ x.2.1 (i : Int).toNat).Node q7 d7).Last = -1) := decide_eq_decide.2 ⟨fun h => hle2.1 (by omega), fun h => by have := hle2.2 h; omega⟩
        refine K1 ?_
        refine l_y rfl rfl (y_move rfl) ?_
        refine N4 ?_
        refine l_y rfl rfl (y_move rfl) ?_
        refine l_y rfl rfl (y_move rfl) ?_
        refine l_y rfl rfl (y_lenL rfl) ?_
        refine l_y rfl rfl (y_cmpI rfl rfl rfl) ?_
        refine l_y rfl rfl (y_fldb (o' := 7) rfl) ?_
        refine l_y rfl rfl (D5 hO rfl) ?_
        refine l_y rfl rfl (y_cmpI rfl rfl rfl) ?_
        refine l_y rfl rfl (y_neB (c := false) rfl rfl (show (!(decide (((x.2.2.1 (i : Int)).length : Int) = 0) == decide ((ownN (at_ x.2.1 (i : Int).toNat).Node q7 d7).First = -1))) = false by rw [hd1]; simp)) ?_
        refine l_y rfl rfl (y_pick_f rfl rfl) ?_
        refine l_y rfl rfl (y_move rfl) ?_
        refine l_y rfl rfl (y_move rfl) ?_
        refine l_y rfl rfl (y_lenL rfl) ?_
        refine l_y rfl rfl (y_cmpI rfl rfl rfl) ?_
        refine l_y rfl rfl (y_fldb (o' := 8) rfl) ?_
        refine l_y rfl rfl (D5 hO rfl) ?_
        refine l_y rfl rfl (y_cmpI rfl rfl rfl) ?_
        refine l_y rfl rfl (y_neB (c := false) rfl rfl (show (!(decide (((x.2.2.1 (i : Int)).length : Int) = 0) == decide ((ownN (at_ x.2.1 (i : Int).toNat).Node q7 d7).Last = -1))) = false by rw [hd2]; simp)) ?_
        refine l_y rfl rfl (y_pick_f rfl rfl) ?_
        refine l_y rfl rfl (y_move rfl) ?_
        refine l_y rfl rfl (y_fldb (o' := 6) rfl) ?_
        refine l_y rfl rfl (D5 hO rfl) ?_
        refine Z1 (fun h14_23 => ?_) (fun h14_23 => ?_)
        · refine l_y rfl rfl (y_move rfl) ?_
          refine l_y rfl rfl (y_move rfl) ?_
          refine l_y rfl rfl (y_fldb (o' := 6) rfl) ?_
          refine l_y rfl rfl (D5 hO rfl) ?_
          refine l_y rfl rfl (y_move rfl) ?_
          refine CK [.o a13] hO rfl (fun k' hx hr hO' => AboveC_spec hAp t.tree.rank (hO := hO')) ?_
          rintro _ _ w ⟨rfl, rfl⟩ hO
          simp only [List.cons_append, List.nil_append] at hO
          rw [show aboveB x.2.1 (ownN (at_ x.2.1 (i : Int).toNat).Node q7 d7).Parent (i : Int) = false from not_above t.tree hiA h14_23]
          refine l_y rfl rfl (y_pick_t rfl rfl) ?_
          refine l_y rfl rfl (y_pick_f rfl rfl) ?_
          refine K2 (K3 (L9 (K5 (K3 (K0 (K1 ?_))))))
          refine l_y rfl rfl (y_assign rfl) ?_
          refine K2 (K3 (K4 ?_))
          refine c_rounds (X := Nat) (fun j => [(2, .bool false), (3, .pointer (some ⟨a13, 0, none⟩)), (6, .int .i64 (i : Int)), (7, .pointer (some ⟨b7, 0, none⟩)), (9, .slice q9 (x.2.2.1 (i : Int)).length d9), (10, .int .i64 (j : Int))]) (fun j w => Own k w [arenaL a13 x.2.1, blk b7 33 (Api_node.cells (ownN (at_ x.2.1 (i : Int).toNat).Node q7 d7)), sls q9 d9 3 1 (eI .i64) (x.2.2.1 (i : Int))] ∧ (True)) (fun j => (x.2.2.1 (i : Int)).length - j) (0) ⟨rfl, rfl, rfl, rfl, rfl, rfl, trivial⟩ ⟨hO.only [.o a13, .b b7, .p q9], trivial⟩ ?_
          rintro j w m hm ⟨hO, hT0⟩
          refine K0 (K0 (K1 ?_))
          refine l_y rfl rfl (y_move rfl) ?_
          refine l_y rfl rfl (y_move rfl) ?_
          refine l_y rfl rfl (y_lenL rfl) ?_
          refine Z0 (fun h17_3 => ?_) (fun h17_3 => ?_)
          · refine K2 (K3 (L8 (K5 (K3 (K0 (K4 (K0 ?_)))))))
            have hkf := kid_facts t.tree hiA (j := j) (by omega)
            refine K1 ?_
            refine l_y rfl rfl (y_move rfl) ?_
            refine l_y rfl rfl (y_move rfl) ?_
            refine l_y rfl rfl (y_move rfl) ?_
            refine l_y rfl rfl (y_idx rfl rfl) ?_
            refine l_y rfl rfl (y_e1 (x0 := 0) hO rfl) ?_
            refine CK [.o a13] hO rfl (fun k' hx hr hO' => NodeT_spec hkf.inA t.tree.attrs (hO := hO')) ?_
            rintro _ _ w ⟨q11, d11, rfl, rfl⟩ hO
            simp only [List.cons_append, List.nil_append] at hO
            refine l_y rfl rfl (y_move rfl) ?_
            refine l_y rfl rfl (y_extract rfl rfl) ?_
            refine l_y rfl rfl (y_extract rfl rfl) ?_
            refine s_alloc (vs := [.int .i64 0, .int .i64 0, .string ⟨#[]⟩, .slice none 0 0, .string ⟨#[]⟩, .string ⟨#[]⟩, .int .i64 0, .int .i64 0, .int .i64 0, .int .i64 0, .int .i64 0, .int .i64 0]) hO rfl rfl rfl fun b11 w hO => ?_
            refine Y3 hO rfl rfl (fun w hO => ?_)
            refine l_y rfl rfl (y_assign rfl) ?_
            refine K2 (K3 (K0 ?_))
            refine da_region (by intro c a d v w h; cases d <;> exact h) ?_
            have hO := hO.drew
            refine da_phase _ [] (SO.ks [.b b11, .b b7, .p q9] hO) ?_
            refine dx_u 0 (by kernel_rfl) rfl rfl rfl (fun w => y_move rfl) ?_
            refine dx_y 1 (by kernel_rfl) rfl rfl rfl (fun w ⟨m, hw⟩ => D2) ?_
            refine dx_u 2 (by kernel_rfl) rfl rfl rfl (fun w => y_move rfl) ?_
            refine dx_u 3 (by kernel_rfl) rfl rfl rfl (fun w => y_fldb (o' := 6) rfl) ?_
            refine dx_y 4 (by kernel_rfl) rfl rfl rfl (fun w ⟨m, hw⟩ => D5 hw rfl) ?_
            refine dx_u 5 (by kernel_rfl) rfl rfl rfl (fun w => y_move rfl) ?_
            refine dx_y 6 (by kernel_rfl) rfl rfl rfl (fun w ⟨m, hw⟩ => D2 (hp := hkf.parent)) ?_
            refine dx_u 7 (by kernel_rfl) rfl rfl rfl (fun w => y_pick_f rfl rfl) ?_
            refine dx_u 8 (by kernel_rfl) rfl rfl rfl (fun w => y_move rfl) ?_
            refine dx_u 9 (by kernel_rfl) rfl rfl rfl (fun w => y_move rfl) ?_
            refine dx_u 10 (by kernel_rfl) rfl rfl rfl (fun w => y_cmpI rfl rfl rfl) ?_
            refine dx_u 11 (by kernel_rfl) rfl rfl rfl (fun w => y_move rfl) ?_
            refine dx_split 107 rfl (fun hg107 => ?_) (fun hg107 => ?_)
            · have h20_10 := of_decide_eq_true hg107
              refine dx_u 12 (by kernel_rfl) rfl rfl rfl (fun w => y_fldb (o' := 7) rfl) ?_
              refine dx_y 13 (by kernel_rfl) rfl rfl rfl (fun w ⟨m, hw⟩ => D5 hw rfl) ?_
              refine dx_u 14 (by kernel_rfl) rfl rfl rfl (fun w => y_move rfl) ?_
              refine dx_u 15 (by kernel_rfl) rfl rfl rfl (fun w => y_move rfl) ?_
              refine dx_u 16 (by kernel_rfl) rfl rfl rfl (fun w => y_idx rfl rfl) ?_
              refine dx_y 17 (by kernel_rfl) rfl rfl rfl (fun w ⟨m, hw⟩ => y_e1 (x0 := 0) hw rfl) ?_
              refine dx_y 18 (by kernel_rfl) rfl rfl rfl (fun w ⟨m, hw⟩ => D2 (hp := (hkf.zero (by omega)).2)) ?_
              refine dx_u 19 (by kernel_rfl) rfl rfl rfl (fun w => y_move rfl) ?_
              refine dx_u 20 (by kernel_rfl) rfl rfl rfl (fun w => y_fldb (o' := 9) rfl) ?_
              refine dx_y 21 (by kernel_rfl) rfl rfl rfl (fun w ⟨m, hw⟩ => D5 hw rfl) ?_
              refine dx_y 22 (by kernel_rfl) rfl rfl rfl (fun w ⟨m, hw⟩ => D2 (hp := (hkf.zero (by omega)).1)) ?_
              refine dx_u 23 (by kernel_rfl) rfl rfl rfl (fun w => y_pick_f rfl rfl) ?_
              refine dx_u 24 (by kernel_rfl) rfl rfl rfl (fun w => y_pick_t rfl rfl) ?_
              refine dx_u 25 (by kernel_rfl) rfl rfl rfl (fun w => y_pick_f rfl rfl) ?_
              refine dx_u 26 (by kernel_rfl) rfl rfl rfl (fun w => y_move rfl) ?_
              refine dx_u 27 (by kernel_rfl) rfl rfl rfl (fun w => y_move rfl) ?_
              refine dx_u 28 (by kernel_rfl) rfl rfl rfl (fun w => y_cmpI rfl rfl rfl) ?_
              refine dx_u 29 (by kernel_rfl) rfl rfl rfl (fun w => y_move rfl) ?_
              refine dx_split 125 rfl (fun hg125 => ?_) (fun hg125 => ?_)
              · have h20_28 := of_decide_eq_true hg125
                refine dx_u 30 (by kernel_rfl) rfl rfl rfl (fun w => y_fldb (o' := 9) rfl) ?_
                refine dx_y 31 (by kernel_rfl) rfl rfl rfl (fun w ⟨m, hw⟩ => D5 hw rfl) ?_
                refine dx_u 32 (by kernel_rfl) rfl rfl rfl (fun w => y_move rfl) ?_
                refine dx_u 33 (by kernel_rfl) rfl rfl rfl (fun w => y_move rfl) ?_
                refine dx_u 34 (by kernel_rfl) rfl rfl rfl (fun w => D4) ?_
                refine dx_u 35 (by kernel_rfl) rfl rfl rfl (fun w => y_idx rfl rfl) ?_
                refine dx_y 36 (by kernel_rfl) rfl rfl rfl (fun w ⟨m, hw⟩ => y_e1 (x0 := 0) hw rfl) ?_
                refine dx_y 37 (by kernel_rfl) rfl rfl rfl (fun w ⟨m, hw⟩ => D2 (hp := (by rw [show ((j : Int) - 1).toNat = j - 1 by omega]; exact hkf.prev (by omega)))) ?_
                refine dx_u 38 (by kernel_rfl) rfl rfl rfl (fun w => y_pick_t rfl rfl) ?_
                refine dx_u 39 (by kernel_rfl) rfl rfl rfl (fun w => y_pick_f rfl rfl) ?_
                refine dx_u 40 (by kernel_rfl) rfl rfl rfl (fun w => y_move rfl) ?_
                refine dx_u 41 (by kernel_rfl) rfl rfl rfl (fun w => y_move rfl) ?_
                refine dx_u 42 (by kernel_rfl) rfl rfl rfl (fun w => y_move rfl) ?_
                refine dx_u 43 (by kernel_rfl) rfl rfl rfl (fun w => y_lenL rfl) ?_
                refine dx_u 44 (by kernel_rfl) rfl rfl rfl (fun w => D4) ?_
                refine dx_u 45 (by kernel_rfl) rfl rfl rfl (fun w => y_cmpI rfl rfl rfl) ?_
                refine dx_u 46 (by kernel_rfl) rfl rfl rfl (fun w => y_move rfl) ?_
                refine dx_split 142 rfl (fun hg142 => ?_) (fun hg142 => ?_)
                · have h20_45 := of_decide_eq_true hg142
                  refine dx_u 47 (by kernel_rfl) rfl rfl rfl (fun w => y_fldb (o' := 8) rfl) ?_
                  refine dx_y 48 (by kernel_rfl) rfl rfl rfl (fun w ⟨m, hw⟩ => D5 hw rfl) ?_
                  refine dx_u 49 (by kernel_rfl) rfl rfl rfl (fun w => y_move rfl) ?_
                  refine dx_u 50 (by kernel_rfl) rfl rfl rfl (fun w => y_move rfl) ?_
                  refine dx_u 51 (by kernel_rfl) rfl rfl rfl (fun w => y_idx rfl rfl) ?_
                  refine dx_y 52 (by kernel_rfl) rfl rfl rfl (fun w ⟨m, hw⟩ => y_e1 (x0 := 0) hw rfl) ?_
                  refine dx_y 53 (by kernel_rfl) rfl rfl rfl (fun w ⟨m, hw⟩ => D2 (hp := (hkf.last (by omega)).1)) ?_
                  refine dx_u 54 (by kernel_rfl) rfl rfl rfl (fun w => y_move rfl) ?_
                  refine dx_u 55 (by kernel_rfl) rfl rfl rfl (fun w => y_fldb (o' := 10) rfl) ?_
                  refine dx_y 56 (by kernel_rfl) rfl rfl rfl (fun w ⟨m, hw⟩ => D5 hw rfl) ?_
                  refine dx_y 57 (by kernel_rfl) rfl rfl rfl (fun w ⟨m, hw⟩ => D2 (hp := (hkf.last (by omega)).2)) ?_
                  refine dx_u 58 (by kernel_rfl) rfl rfl rfl (fun w => y_pick_f rfl rfl) ?_
                  refine dx_u 59 (by kernel_rfl) rfl rfl rfl (fun w => y_pick_t rfl rfl) ?_
                  refine dx_u 60 (by kernel_rfl) rfl rfl rfl (fun w => y_pick_f rfl rfl) ?_
                  refine dx_end (by kernel_rfl) ?_
                  refine K3 (L9 (K5 (K8 (K3 (K1 ?_)))))
                  refine l_y rfl rfl (y_move rfl) ?_
                  refine l_y rfl rfl (D4) ?_
                  refine l_y rfl rfl (y_assign rfl) ?_
                  refine K2 ?_
                  exact q_next (j + 1) ⟨rfl, rfl, rfl, rfl, rfl, rfl, trivial⟩ ⟨hO.only [.o a13, .b b7, .p q9], trivial⟩ (by omega)
                · have h20_45 := of_decide_eq_false hg142
                  refine dx_pass 47 (by kernel_rfl) rfl rfl rfl ?_
                  refine dx_pass 48 (by kernel_rfl) rfl rfl rfl ?_
                  refine dx_pass 49 (by kernel_rfl) rfl rfl rfl ?_
                  refine dx_pass 50 (by kernel_rfl) rfl rfl rfl ?_
                  refine dx_pass 51 (by kernel_rfl) rfl rfl rfl ?_
                  refine dx_pass 52 (by kernel_rfl) rfl rfl rfl ?_
                  refine dx_pass 53 (by kernel_rfl) rfl rfl rfl ?_
                  refine dx_pass 54 (by kernel_rfl) rfl rfl rfl ?_
                  refine dx_pass 55 (by kernel_rfl) rfl rfl rfl ?_
                  refine dx_pass 56 (by kernel_rfl) rfl rfl rfl ?_
                  refine dx_pass 57 (by kernel_rfl) rfl rfl rfl ?_
                  refine dx_pass 58 (by kernel_rfl) rfl rfl rfl ?_
                  refine dx_u 59 (by kernel_rfl) rfl rfl rfl (fun w => y_pick_f rfl rfl) ?_
                  refine dx_u 60 (by kernel_rfl) rfl rfl rfl (fun w => y_pick_f rfl rfl) ?_
                  refine dx_end (by kernel_rfl) ?_
                  refine K3 (L9 (K5 (K8 (K3 (K1 ?_)))))
                  refine l_y rfl rfl (y_move rfl) ?_
                  refine l_y rfl rfl (D4) ?_
                  refine l_y rfl rfl (y_assign rfl) ?_
                  refine K2 ?_
                  exact q_next (j + 1) ⟨rfl, rfl, rfl, rfl, rfl, rfl, trivial⟩ ⟨hO.only [.o a13, .b b7, .p q9], trivial⟩ (by omega)
              · have h20_28 := of_decide_eq_false hg125
                refine dx_pass 30 (by kernel_rfl) rfl rfl rfl ?_
                refine dx_pass 31 (by kernel_rfl) rfl rfl rfl ?_
                refine dx_pass 32 (by kernel_rfl) rfl rfl rfl ?_
                refine dx_pass 33 (by kernel_rfl) rfl rfl rfl ?_
                refine dx_pass 34 (by kernel_rfl) rfl rfl rfl ?_
                refine dx_pass 35 (by kernel_rfl) rfl rfl rfl ?_
                refine dx_pass 36 (by kernel_rfl) rfl rfl rfl ?_
                refine dx_pass 37 (by kernel_rfl) rfl rfl rfl ?_
                refine dx_u 38 (by kernel_rfl) rfl rfl rfl (fun w => y_pick_f rfl rfl) ?_
                refine dx_u 39 (by kernel_rfl) rfl rfl rfl (fun w => y_pick_f rfl rfl) ?_
                refine dx_u 40 (by kernel_rfl) rfl rfl rfl (fun w => y_move rfl) ?_
                refine dx_u 41 (by kernel_rfl) rfl rfl rfl (fun w => y_move rfl) ?_
                refine dx_u 42 (by kernel_rfl) rfl rfl rfl (fun w => y_move rfl) ?_
                refine dx_u 43 (by kernel_rfl) rfl rfl rfl (fun w => y_lenL rfl) ?_
                refine dx_u 44 (by kernel_rfl) rfl rfl rfl (fun w => D4) ?_
                refine dx_u 45 (by kernel_rfl) rfl rfl rfl (fun w => y_cmpI rfl rfl rfl) ?_
                refine dx_u 46 (by kernel_rfl) rfl rfl rfl (fun w => y_move rfl) ?_
                refine dx_split 142 rfl (fun hg142 => ?_) (fun hg142 => ?_)
                · have h20_45 := of_decide_eq_true hg142
                  refine dx_u 47 (by kernel_rfl) rfl rfl rfl (fun w => y_fldb (o' := 8) rfl) ?_
                  refine dx_y 48 (by kernel_rfl) rfl rfl rfl (fun w ⟨m, hw⟩ => D5 hw rfl) ?_
                  refine dx_u 49 (by kernel_rfl) rfl rfl rfl (fun w => y_move rfl) ?_
                  refine dx_u 50 (by kernel_rfl) rfl rfl rfl (fun w => y_move rfl) ?_
                  refine dx_u 51 (by kernel_rfl) rfl rfl rfl (fun w => y_idx rfl rfl) ?_
                  refine dx_y 52 (by kernel_rfl) rfl rfl rfl (fun w ⟨m, hw⟩ => y_e1 (x0 := 0) hw rfl) ?_
                  refine dx_y 53 (by kernel_rfl) rfl rfl rfl (fun w ⟨m, hw⟩ => D2 (hp := (hkf.last (by omega)).1)) ?_
                  refine dx_u 54 (by kernel_rfl) rfl rfl rfl (fun w => y_move rfl) ?_
                  refine dx_u 55 (by kernel_rfl) rfl rfl rfl (fun w => y_fldb (o' := 10) rfl) ?_
                  refine dx_y 56 (by kernel_rfl) rfl rfl rfl (fun w ⟨m, hw⟩ => D5 hw rfl) ?_
                  refine dx_y 57 (by kernel_rfl) rfl rfl rfl (fun w ⟨m, hw⟩ => D2 (hp := (hkf.last (by omega)).2)) ?_
                  refine dx_u 58 (by kernel_rfl) rfl rfl rfl (fun w => y_pick_f rfl rfl) ?_
                  refine dx_u 59 (by kernel_rfl) rfl rfl rfl (fun w => y_pick_t rfl rfl) ?_
                  refine dx_u 60 (by kernel_rfl) rfl rfl rfl (fun w => y_pick_f rfl rfl) ?_
                  refine dx_end (by kernel_rfl) ?_
                  refine K3 (L9 (K5 (K8 (K3 (K1 ?_)))))
                  refine l_y rfl rfl (y_move rfl) ?_
                  refine l_y rfl rfl (D4) ?_
                  refine l_y rfl rfl (y_assign rfl) ?_
                  refine K2 ?_
                  exact q_next (j + 1) ⟨rfl, rfl, rfl, rfl, rfl, rfl, trivial⟩ ⟨hO.only [.o a13, .b b7, .p q9], trivial⟩ (by omega)
                · have h20_45 := of_decide_eq_false hg142
                  refine dx_pass 47 (by kernel_rfl) rfl rfl rfl ?_
                  refine dx_pass 48 (by kernel_rfl) rfl rfl rfl ?_
                  refine dx_pass 49 (by kernel_rfl) rfl rfl rfl ?_
                  refine dx_pass 50 (by kernel_rfl) rfl rfl rfl ?_
                  refine dx_pass 51 (by kernel_rfl) rfl rfl rfl ?_
                  refine dx_pass 52 (by kernel_rfl) rfl rfl rfl ?_
                  refine dx_pass 53 (by kernel_rfl) rfl rfl rfl ?_
                  refine dx_pass 54 (by kernel_rfl) rfl rfl rfl ?_
                  refine dx_pass 55 (by kernel_rfl) rfl rfl rfl ?_
                  refine dx_pass 56 (by kernel_rfl) rfl rfl rfl ?_
                  refine dx_pass 57 (by kernel_rfl) rfl rfl rfl ?_
                  refine dx_pass 58 (by kernel_rfl) rfl rfl rfl ?_
                  refine dx_u 59 (by kernel_rfl) rfl rfl rfl (fun w => y_pick_f rfl rfl) ?_
                  refine dx_u 60 (by kernel_rfl) rfl rfl rfl (fun w => y_pick_f rfl rfl) ?_
                  refine dx_end (by kernel_rfl) ?_
                  refine K3 (L9 (K5 (K8 (K3 (K1 ?_)))))
                  refine l_y rfl rfl (y_move rfl) ?_
                  refine l_y rfl rfl (D4) ?_
                  refine l_y rfl rfl (y_assign rfl) ?_
                  refine K2 ?_
                  exact q_next (j + 1) ⟨rfl, rfl, rfl, rfl, rfl, rfl, trivial⟩ ⟨hO.only [.o a13, .b b7, .p q9], trivial⟩ (by omega)
            · have h20_10 := of_decide_eq_false hg107
              refine dx_pass 12 (by kernel_rfl) rfl rfl rfl ?_
              refine dx_pass 13 (by kernel_rfl) rfl rfl rfl ?_
              refine dx_pass 14 (by kernel_rfl) rfl rfl rfl ?_
              refine dx_pass 15 (by kernel_rfl) rfl rfl rfl ?_
              refine dx_pass 16 (by kernel_rfl) rfl rfl rfl ?_
              refine dx_pass 17 (by kernel_rfl) rfl rfl rfl ?_
              refine dx_pass 18 (by kernel_rfl) rfl rfl rfl ?_
              refine dx_pass 19 (by kernel_rfl) rfl rfl rfl ?_
              refine dx_pass 20 (by kernel_rfl) rfl rfl rfl ?_
              refine dx_pass 21 (by kernel_rfl) rfl rfl rfl ?_
              refine dx_pass 22 (by kernel_rfl) rfl rfl rfl ?_
              refine dx_pass 23 (by kernel_rfl) rfl rfl rfl ?_
              refine dx_u 24 (by kernel_rfl) rfl rfl rfl (fun w => y_pick_f rfl rfl) ?_
              refine dx_u 25 (by kernel_rfl) rfl rfl rfl (fun w => y_pick_f rfl rfl) ?_
              refine dx_u 26 (by kernel_rfl) rfl rfl rfl (fun w => y_move rfl) ?_
              refine dx_u 27 (by kernel_rfl) rfl rfl rfl (fun w => y_move rfl) ?_
              refine dx_u 28 (by kernel_rfl) rfl rfl rfl (fun w => y_cmpI rfl rfl rfl) ?_
              refine dx_u 29 (by kernel_rfl) rfl rfl rfl (fun w => y_move rfl) ?_
              refine dx_split 125 rfl (fun hg125 => ?_) (fun hg125 => ?_)
              · have h20_28 := of_decide_eq_true hg125
                refine dx_u 30 (by kernel_rfl) rfl rfl rfl (fun w => y_fldb (o' := 9) rfl) ?_
                refine dx_y 31 (by kernel_rfl) rfl rfl rfl (fun w ⟨m, hw⟩ => D5 hw rfl) ?_
                refine dx_u 32 (by kernel_rfl) rfl rfl rfl (fun w => y_move rfl) ?_
                refine dx_u 33 (by kernel_rfl) rfl rfl rfl (fun w => y_move rfl) ?_
                refine dx_u 34 (by kernel_rfl) rfl rfl rfl (fun w => D4) ?_
                refine dx_u 35 (by kernel_rfl) rfl rfl rfl (fun w => y_idx rfl rfl) ?_
                refine dx_y 36 (by kernel_rfl) rfl rfl rfl (fun w ⟨m, hw⟩ => y_e1 (x0 := 0) hw rfl) ?_
                refine dx_y 37 (by kernel_rfl) rfl rfl rfl (fun w ⟨m, hw⟩ => D2 (hp := (by rw [show ((j : Int) - 1).toNat = j - 1 by omega]; exact hkf.prev (by omega)))) ?_
                refine dx_u 38 (by kernel_rfl) rfl rfl rfl (fun w => y_pick_t rfl rfl) ?_
                refine dx_u 39 (by kernel_rfl) rfl rfl rfl (fun w => y_pick_f rfl rfl) ?_
                refine dx_u 40 (by kernel_rfl) rfl rfl rfl (fun w => y_move rfl) ?_
                refine dx_u 41 (by kernel_rfl) rfl rfl rfl (fun w => y_move rfl) ?_
                refine dx_u 42 (by kernel_rfl) rfl rfl rfl (fun w => y_move rfl) ?_
                refine dx_u 43 (by kernel_rfl) rfl rfl rfl (fun w => y_lenL rfl) ?_
                refine dx_u 44 (by kernel_rfl) rfl rfl rfl (fun w => D4) ?_
                refine dx_u 45 (by kernel_rfl) rfl rfl rfl (fun w => y_cmpI rfl rfl rfl) ?_
                refine dx_u 46 (by kernel_rfl) rfl rfl rfl (fun w => y_move rfl) ?_
                refine dx_split 142 rfl (fun hg142 => ?_) (fun hg142 => ?_)
                · have h20_45 := of_decide_eq_true hg142
                  refine dx_u 47 (by kernel_rfl) rfl rfl rfl (fun w => y_fldb (o' := 8) rfl) ?_
                  refine dx_y 48 (by kernel_rfl) rfl rfl rfl (fun w ⟨m, hw⟩ => D5 hw rfl) ?_
                  refine dx_u 49 (by kernel_rfl) rfl rfl rfl (fun w => y_move rfl) ?_
                  refine dx_u 50 (by kernel_rfl) rfl rfl rfl (fun w => y_move rfl) ?_
                  refine dx_u 51 (by kernel_rfl) rfl rfl rfl (fun w => y_idx rfl rfl) ?_
                  refine dx_y 52 (by kernel_rfl) rfl rfl rfl (fun w ⟨m, hw⟩ => y_e1 (x0 := 0) hw rfl) ?_
                  refine dx_y 53 (by kernel_rfl) rfl rfl rfl (fun w ⟨m, hw⟩ => D2 (hp := (hkf.last (by omega)).1)) ?_
                  refine dx_u 54 (by kernel_rfl) rfl rfl rfl (fun w => y_move rfl) ?_
                  refine dx_u 55 (by kernel_rfl) rfl rfl rfl (fun w => y_fldb (o' := 10) rfl) ?_
                  refine dx_y 56 (by kernel_rfl) rfl rfl rfl (fun w ⟨m, hw⟩ => D5 hw rfl) ?_
                  refine dx_y 57 (by kernel_rfl) rfl rfl rfl (fun w ⟨m, hw⟩ => D2 (hp := (hkf.last (by omega)).2)) ?_
                  refine dx_u 58 (by kernel_rfl) rfl rfl rfl (fun w => y_pick_f rfl rfl) ?_
                  refine dx_u 59 (by kernel_rfl) rfl rfl rfl (fun w => y_pick_t rfl rfl) ?_
                  refine dx_u 60 (by kernel_rfl) rfl rfl rfl (fun w => y_pick_f rfl rfl) ?_
                  refine dx_end (by kernel_rfl) ?_
                  refine K3 (L9 (K5 (K8 (K3 (K1 ?_)))))
                  refine l_y rfl rfl (y_move rfl) ?_
                  refine l_y rfl rfl (D4) ?_
                  refine l_y rfl rfl (y_assign rfl) ?_
                  refine K2 ?_
                  exact q_next (j + 1) ⟨rfl, rfl, rfl, rfl, rfl, rfl, trivial⟩ ⟨hO.only [.o a13, .b b7, .p q9], trivial⟩ (by omega)
                · have h20_45 := of_decide_eq_false hg142
                  refine dx_pass 47 (by kernel_rfl) rfl rfl rfl ?_
                  refine dx_pass 48 (by kernel_rfl) rfl rfl rfl ?_
                  refine dx_pass 49 (by kernel_rfl) rfl rfl rfl ?_
                  refine dx_pass 50 (by kernel_rfl) rfl rfl rfl ?_
                  refine dx_pass 51 (by kernel_rfl) rfl rfl rfl ?_
                  refine dx_pass 52 (by kernel_rfl) rfl rfl rfl ?_
                  refine dx_pass 53 (by kernel_rfl) rfl rfl rfl ?_
                  refine dx_pass 54 (by kernel_rfl) rfl rfl rfl ?_
                  refine dx_pass 55 (by kernel_rfl) rfl rfl rfl ?_
                  refine dx_pass 56 (by kernel_rfl) rfl rfl rfl ?_
                  refine dx_pass 57 (by kernel_rfl) rfl rfl rfl ?_
                  refine dx_pass 58 (by kernel_rfl) rfl rfl rfl ?_
                  refine dx_u 59 (by kernel_rfl) rfl rfl rfl (fun w => y_pick_f rfl rfl) ?_
                  refine dx_u 60 (by kernel_rfl) rfl rfl rfl (fun w => y_pick_f rfl rfl) ?_
                  refine dx_end (by kernel_rfl) ?_
                  refine K3 (L9 (K5 (K8 (K3 (K1 ?_)))))
                  refine l_y rfl rfl (y_move rfl) ?_
                  refine l_y rfl rfl (D4) ?_
                  refine l_y rfl rfl (y_assign rfl) ?_
                  refine K2 ?_
                  exact q_next (j + 1) ⟨rfl, rfl, rfl, rfl, rfl, rfl, trivial⟩ ⟨hO.only [.o a13, .b b7, .p q9], trivial⟩ (by omega)
              · have h20_28 := of_decide_eq_false hg125
                refine dx_pass 30 (by kernel_rfl) rfl rfl rfl ?_
                refine dx_pass 31 (by kernel_rfl) rfl rfl rfl ?_
                refine dx_pass 32 (by kernel_rfl) rfl rfl rfl ?_
                refine dx_pass 33 (by kernel_rfl) rfl rfl rfl ?_
                refine dx_pass 34 (by kernel_rfl) rfl rfl rfl ?_
                refine dx_pass 35 (by kernel_rfl) rfl rfl rfl ?_
                refine dx_pass 36 (by kernel_rfl) rfl rfl rfl ?_
                refine dx_pass 37 (by kernel_rfl) rfl rfl rfl ?_
                refine dx_u 38 (by kernel_rfl) rfl rfl rfl (fun w => y_pick_f rfl rfl) ?_
                refine dx_u 39 (by kernel_rfl) rfl rfl rfl (fun w => y_pick_f rfl rfl) ?_
                refine dx_u 40 (by kernel_rfl) rfl rfl rfl (fun w => y_move rfl) ?_
                refine dx_u 41 (by kernel_rfl) rfl rfl rfl (fun w => y_move rfl) ?_
                refine dx_u 42 (by kernel_rfl) rfl rfl rfl (fun w => y_move rfl) ?_
                refine dx_u 43 (by kernel_rfl) rfl rfl rfl (fun w => y_lenL rfl) ?_
                refine dx_u 44 (by kernel_rfl) rfl rfl rfl (fun w => D4) ?_
                refine dx_u 45 (by kernel_rfl) rfl rfl rfl (fun w => y_cmpI rfl rfl rfl) ?_
                refine dx_u 46 (by kernel_rfl) rfl rfl rfl (fun w => y_move rfl) ?_
                refine dx_split 142 rfl (fun hg142 => ?_) (fun hg142 => ?_)
                · have h20_45 := of_decide_eq_true hg142
                  refine dx_u 47 (by kernel_rfl) rfl rfl rfl (fun w => y_fldb (o' := 8) rfl) ?_
                  refine dx_y 48 (by kernel_rfl) rfl rfl rfl (fun w ⟨m, hw⟩ => D5 hw rfl) ?_
                  refine dx_u 49 (by kernel_rfl) rfl rfl rfl (fun w => y_move rfl) ?_
                  refine dx_u 50 (by kernel_rfl) rfl rfl rfl (fun w => y_move rfl) ?_
                  refine dx_u 51 (by kernel_rfl) rfl rfl rfl (fun w => y_idx rfl rfl) ?_
                  refine dx_y 52 (by kernel_rfl) rfl rfl rfl (fun w ⟨m, hw⟩ => y_e1 (x0 := 0) hw rfl) ?_
                  refine dx_y 53 (by kernel_rfl) rfl rfl rfl (fun w ⟨m, hw⟩ => D2 (hp := (hkf.last (by omega)).1)) ?_
                  refine dx_u 54 (by kernel_rfl) rfl rfl rfl (fun w => y_move rfl) ?_
                  refine dx_u 55 (by kernel_rfl) rfl rfl rfl (fun w => y_fldb (o' := 10) rfl) ?_
                  refine dx_y 56 (by kernel_rfl) rfl rfl rfl (fun w ⟨m, hw⟩ => D5 hw rfl) ?_
                  refine dx_y 57 (by kernel_rfl) rfl rfl rfl (fun w ⟨m, hw⟩ => D2 (hp := (hkf.last (by omega)).2)) ?_
                  refine dx_u 58 (by kernel_rfl) rfl rfl rfl (fun w => y_pick_f rfl rfl) ?_
                  refine dx_u 59 (by kernel_rfl) rfl rfl rfl (fun w => y_pick_t rfl rfl) ?_
                  refine dx_u 60 (by kernel_rfl) rfl rfl rfl (fun w => y_pick_f rfl rfl) ?_
                  refine dx_end (by kernel_rfl) ?_
                  refine K3 (L9 (K5 (K8 (K3 (K1 ?_)))))
                  refine l_y rfl rfl (y_move rfl) ?_
                  refine l_y rfl rfl (D4) ?_
                  refine l_y rfl rfl (y_assign rfl) ?_
                  refine K2 ?_
                  exact q_next (j + 1) ⟨rfl, rfl, rfl, rfl, rfl, rfl, trivial⟩ ⟨hO.only [.o a13, .b b7, .p q9], trivial⟩ (by omega)
                · have h20_45 := of_decide_eq_false hg142
                  refine dx_pass 47 (by kernel_rfl) rfl rfl rfl ?_
                  refine dx_pass 48 (by kernel_rfl) rfl rfl rfl ?_
                  refine dx_pass 49 (by kernel_rfl) rfl rfl rfl ?_
                  refine dx_pass 50 (by kernel_rfl) rfl rfl rfl ?_
                  refine dx_pass 51 (by kernel_rfl) rfl rfl rfl ?_
                  refine dx_pass 52 (by kernel_rfl) rfl rfl rfl ?_
                  refine dx_pass 53 (by kernel_rfl) rfl rfl rfl ?_
                  refine dx_pass 54 (by kernel_rfl) rfl rfl rfl ?_
                  refine dx_pass 55 (by kernel_rfl) rfl rfl rfl ?_
                  refine dx_pass 56 (by kernel_rfl) rfl rfl rfl ?_
                  refine dx_pass 57 (by kernel_rfl) rfl rfl rfl ?_
                  refine dx_pass 58 (by kernel_rfl) rfl rfl rfl ?_
                  refine dx_u 59 (by kernel_rfl) rfl rfl rfl (fun w => y_pick_f rfl rfl) ?_
                  refine dx_u 60 (by kernel_rfl) rfl rfl rfl (fun w => y_pick_f rfl rfl) ?_
                  refine dx_end (by kernel_rfl) ?_
                  refine K3 (L9 (K5 (K8 (K3 (K1 ?_)))))
                  refine l_y rfl rfl (y_move rfl) ?_
                  refine l_y rfl rfl (D4) ?_
                  refine l_y rfl rfl (y_assign rfl) ?_
                  refine K2 ?_
                  exact q_next (j + 1) ⟨rfl, rfl, rfl, rfl, rfl, rfl, trivial⟩ ⟨hO.only [.o a13, .b b7, .p q9], trivial⟩ (by omega)
          · refine K2 (K3 (L9 (K7 (L1 (L1 (L2 (K8 (K3 (K1 ?_)))))))))
            refine l_y rfl rfl (y_move rfl) ?_
            refine l_y rfl rfl (D4) ?_
            refine l_y rfl rfl (y_assign rfl) ?_
            refine K2 ?_
            exact q_next (i + 1) ⟨rfl, rfl, rfl, trivial⟩ ⟨hO.only [.o a13], trivial⟩ (by omega)
        · refine l_y rfl rfl (y_move rfl) ?_
          repeat refine M2 ?_
          refine l_y rfl rfl (y_pick_f rfl rfl) ?_
          refine l_y rfl rfl (y_pick_f rfl rfl) ?_
          refine K2 (K3 (L9 (K5 (K3 (K0 (K1 ?_))))))
          refine l_y rfl rfl (y_assign rfl) ?_
          refine K2 (K3 (K4 ?_))
          refine c_rounds (X := Nat) (fun j => [(2, .bool false), (3, .pointer (some ⟨a13, 0, none⟩)), (6, .int .i64 (i : Int)), (7, .pointer (some ⟨b7, 0, none⟩)), (9, .slice q9 (x.2.2.1 (i : Int)).length d9), (10, .int .i64 (j : Int))]) (fun j w => Own k w [arenaL a13 x.2.1, blk b7 33 (Api_node.cells (ownN (at_ x.2.1 (i : Int).toNat).Node q7 d7)), sls q9 d9 3 1 (eI .i64) (x.2.2.1 (i : Int))] ∧ (True)) (fun j => (x.2.2.1 (i : Int)).length - j) (0) ⟨rfl, rfl, rfl, rfl, rfl, rfl, trivial⟩ ⟨hO.only [.o a13, .b b7, .p q9], trivial⟩ ?_
          rintro j w m hm ⟨hO, hT0⟩
          refine K0 (K0 (K1 ?_))
          refine l_y rfl rfl (y_move rfl) ?_
          refine l_y rfl rfl (y_move rfl) ?_
          refine l_y rfl rfl (y_lenL rfl) ?_
          refine Z0 (fun h17_3 => ?_) (fun h17_3 => ?_)
          · refine K2 (K3 (L8 (K5 (K3 (K0 (K4 (K0 ?_)))))))
            have hkf := kid_facts t.tree hiA (j := j) (by omega)
            refine K1 ?_
            refine l_y rfl rfl (y_move rfl) ?_
            refine l_y rfl rfl (y_move rfl) ?_
            refine l_y rfl rfl (y_move rfl) ?_
            refine l_y rfl rfl (y_idx rfl rfl) ?_
            refine l_y rfl rfl (y_e1 (x0 := 0) hO rfl) ?_
            refine CK [.o a13] hO rfl (fun k' hx hr hO' => NodeT_spec hkf.inA t.tree.attrs (hO := hO')) ?_
            rintro _ _ w ⟨q11, d11, rfl, rfl⟩ hO
            simp only [List.cons_append, List.nil_append] at hO
            refine l_y rfl rfl (y_move rfl) ?_
            refine l_y rfl rfl (y_extract rfl rfl) ?_
            refine l_y rfl rfl (y_extract rfl rfl) ?_
            refine s_alloc (vs := [.int .i64 0, .int .i64 0, .string ⟨#[]⟩, .slice none 0 0, .string ⟨#[]⟩, .string ⟨#[]⟩, .int .i64 0, .int .i64 0, .int .i64 0, .int .i64 0, .int .i64 0, .int .i64 0]) hO rfl rfl rfl fun b11 w hO => ?_
            refine Y3 hO rfl rfl (fun w hO => ?_)
            refine l_y rfl rfl (y_assign rfl) ?_
            refine K2 (K3 (K0 ?_))
            refine da_region (by intro c a d v w h; cases d <;> exact h) ?_
            have hO := hO.drew
            refine da_phase _ [] (SO.ks [.b b11, .b b7, .p q9] hO) ?_
            refine dx_u 0 (by kernel_rfl) rfl rfl rfl (fun w => y_move rfl) ?_
            refine dx_y 1 (by kernel_rfl) rfl rfl rfl (fun w ⟨m, hw⟩ => D2) ?_
            refine dx_u 2 (by kernel_rfl) rfl rfl rfl (fun w => y_move rfl) ?_
            refine dx_u 3 (by kernel_rfl) rfl rfl rfl (fun w => y_fldb (o' := 6) rfl) ?_
            refine dx_y 4 (by kernel_rfl) rfl rfl rfl (fun w ⟨m, hw⟩ => D5 hw rfl) ?_
            refine dx_u 5 (by kernel_rfl) rfl rfl rfl (fun w => y_move rfl) ?_
            refine dx_y 6 (by kernel_rfl) rfl rfl rfl (fun w ⟨m, hw⟩ => D2 (hp := hkf.parent)) ?_
            refine dx_u 7 (by kernel_rfl) rfl rfl rfl (fun w => y_pick_f rfl rfl) ?_
            refine dx_u 8 (by kernel_rfl) rfl rfl rfl (fun w => y_move rfl) ?_
            refine dx_u 9 (by kernel_rfl) rfl rfl rfl (fun w => y_move rfl) ?_
            refine dx_u 10 (by kernel_rfl) rfl rfl rfl (fun w => y_cmpI rfl rfl rfl) ?_
            refine dx_u 11 (by kernel_rfl) rfl rfl rfl (fun w => y_move rfl) ?_
            refine dx_split 107 rfl (fun hg107 => ?_) (fun hg107 => ?_)
            · have h20_10 := of_decide_eq_true hg107
              refine dx_u 12 (by kernel_rfl) rfl rfl rfl (fun w => y_fldb (o' := 7) rfl) ?_
              refine dx_y 13 (by kernel_rfl) rfl rfl rfl (fun w ⟨m, hw⟩ => D5 hw rfl) ?_
              refine dx_u 14 (by kernel_rfl) rfl rfl rfl (fun w => y_move rfl) ?_
              refine dx_u 15 (by kernel_rfl) rfl rfl rfl (fun w => y_move rfl) ?_
              refine dx_u 16 (by kernel_rfl) rfl rfl rfl (fun w => y_idx rfl rfl) ?_
              refine dx_y 17 (by kernel_rfl) rfl rfl rfl (fun w ⟨m, hw⟩ => y_e1 (x0 := 0) hw rfl) ?_
              refine dx_y 18 (by kernel_rfl) rfl rfl rfl (fun w ⟨m, hw⟩ => D2 (hp := (hkf.zero (by omega)).2)) ?_
              refine dx_u 19 (by kernel_rfl) rfl rfl rfl (fun w => y_move rfl) ?_
              refine dx_u 20 (by kernel_rfl) rfl rfl rfl (fun w => y_fldb (o' := 9) rfl) ?_
              refine dx_y 21 (by kernel_rfl) rfl rfl rfl (fun w ⟨m, hw⟩ => D5 hw rfl) ?_
              refine dx_y 22 (by kernel_rfl) rfl rfl rfl (fun w ⟨m, hw⟩ => D2 (hp := (hkf.zero (by omega)).1)) ?_
              refine dx_u 23 (by kernel_rfl) rfl rfl rfl (fun w => y_pick_f rfl rfl) ?_
              refine dx_u 24 (by kernel_rfl) rfl rfl rfl (fun w => y_pick_t rfl rfl) ?_
              refine dx_u 25 (by kernel_rfl) rfl rfl rfl (fun w => y_pick_f rfl rfl) ?_
              refine dx_u 26 (by kernel_rfl) rfl rfl rfl (fun w => y_move rfl) ?_
              refine dx_u 27 (by kernel_rfl) rfl rfl rfl (fun w => y_move rfl) ?_
              refine dx_u 28 (by kernel_rfl) rfl rfl rfl (fun w => y_cmpI rfl rfl rfl) ?_
              refine dx_u 29 (by kernel_rfl) rfl rfl rfl (fun w => y_move rfl) ?_
              refine dx_split 125 rfl (fun hg125 => ?_) (fun hg125 => ?_)
              · have h20_28 := of_decide_eq_true hg125
                refine dx_u 30 (by kernel_rfl) rfl rfl rfl (fun w => y_fldb (o' := 9) rfl) ?_
                refine dx_y 31 (by kernel_rfl) rfl rfl rfl (fun w ⟨m, hw⟩ => D5 hw rfl) ?_
                refine dx_u 32 (by kernel_rfl) rfl rfl rfl (fun w => y_move rfl) ?_
                refine dx_u 33 (by kernel_rfl) rfl rfl rfl (fun w => y_move rfl) ?_
                refine dx_u 34 (by kernel_rfl) rfl rfl rfl (fun w => D4) ?_
                refine dx_u 35 (by kernel_rfl) rfl rfl rfl (fun w => y_idx rfl rfl) ?_
                refine dx_y 36 (by kernel_rfl) rfl rfl rfl (fun w ⟨m, hw⟩ => y_e1 (x0 := 0) hw rfl) ?_
                refine dx_y 37 (by kernel_rfl) rfl rfl rfl (fun w ⟨m, hw⟩ => D2 (hp := (by rw [show ((j : Int) - 1).toNat = j - 1 by omega]; exact hkf.prev (by omega)))) ?_
                refine dx_u 38 (by kernel_rfl) rfl rfl rfl (fun w => y_pick_t rfl rfl) ?_
                refine dx_u 39 (by kernel_rfl) rfl rfl rfl (fun w => y_pick_f rfl rfl) ?_
                refine dx_u 40 (by kernel_rfl) rfl rfl rfl (fun w => y_move rfl) ?_
                refine dx_u 41 (by kernel_rfl) rfl rfl rfl (fun w => y_move rfl) ?_
                refine dx_u 42 (by kernel_rfl) rfl rfl rfl (fun w => y_move rfl) ?_
                refine dx_u 43 (by kernel_rfl) rfl rfl rfl (fun w => y_lenL rfl) ?_
                refine dx_u 44 (by kernel_rfl) rfl rfl rfl (fun w => D4) ?_
                refine dx_u 45 (by kernel_rfl) rfl rfl rfl (fun w => y_cmpI rfl rfl rfl) ?_
                refine dx_u 46 (by kernel_rfl) rfl rfl rfl (fun w => y_move rfl) ?_
                refine dx_split 142 rfl (fun hg142 => ?_) (fun hg142 => ?_)
                · have h20_45 := of_decide_eq_true hg142
                  refine dx_u 47 (by kernel_rfl) rfl rfl rfl (fun w => y_fldb (o' := 8) rfl) ?_
                  refine dx_y 48 (by kernel_rfl) rfl rfl rfl (fun w ⟨m, hw⟩ => D5 hw rfl) ?_
                  refine dx_u 49 (by kernel_rfl) rfl rfl rfl (fun w => y_move rfl) ?_
                  refine dx_u 50 (by kernel_rfl) rfl rfl rfl (fun w => y_move rfl) ?_
                  refine dx_u 51 (by kernel_rfl) rfl rfl rfl (fun w => y_idx rfl rfl) ?_
                  refine dx_y 52 (by kernel_rfl) rfl rfl rfl (fun w ⟨m, hw⟩ => y_e1 (x0 := 0) hw rfl) ?_
                  refine dx_y 53 (by kernel_rfl) rfl rfl rfl (fun w ⟨m, hw⟩ => D2 (hp := (hkf.last (by omega)).1)) ?_
                  refine dx_u 54 (by kernel_rfl) rfl rfl rfl (fun w => y_move rfl) ?_
                  refine dx_u 55 (by kernel_rfl) rfl rfl rfl (fun w => y_fldb (o' := 10) rfl) ?_
                  refine dx_y 56 (by kernel_rfl) rfl rfl rfl (fun w ⟨m, hw⟩ => D5 hw rfl) ?_
                  refine dx_y 57 (by kernel_rfl) rfl rfl rfl (fun w ⟨m, hw⟩ => D2 (hp := (hkf.last (by omega)).2)) ?_
                  refine dx_u 58 (by kernel_rfl) rfl rfl rfl (fun w => y_pick_f rfl rfl) ?_
                  refine dx_u 59 (by kernel_rfl) rfl rfl rfl (fun w => y_pick_t rfl rfl) ?_
                  refine dx_u 60 (by kernel_rfl) rfl rfl rfl (fun w => y_pick_f rfl rfl) ?_
                  refine dx_end (by kernel_rfl) ?_
                  refine K3 (L9 (K5 (K8 (K3 (K1 ?_)))))
                  refine l_y rfl rfl (y_move rfl) ?_
                  refine l_y rfl rfl (D4) ?_
                  refine l_y rfl rfl (y_assign rfl) ?_
                  refine K2 ?_
                  exact q_next (j + 1) ⟨rfl, rfl, rfl, rfl, rfl, rfl, trivial⟩ ⟨hO.only [.o a13, .b b7, .p q9], trivial⟩ (by omega)
                · have h20_45 := of_decide_eq_false hg142
                  refine dx_pass 47 (by kernel_rfl) rfl rfl rfl ?_
                  refine dx_pass 48 (by kernel_rfl) rfl rfl rfl ?_
                  refine dx_pass 49 (by kernel_rfl) rfl rfl rfl ?_
                  refine dx_pass 50 (by kernel_rfl) rfl rfl rfl ?_
                  refine dx_pass 51 (by kernel_rfl) rfl rfl rfl ?_
                  refine dx_pass 52 (by kernel_rfl) rfl rfl rfl ?_
                  refine dx_pass 53 (by kernel_rfl) rfl rfl rfl ?_
                  refine dx_pass 54 (by kernel_rfl) rfl rfl rfl ?_
                  refine dx_pass 55 (by kernel_rfl) rfl rfl rfl ?_
                  refine dx_pass 56 (by kernel_rfl) rfl rfl rfl ?_
                  refine dx_pass 57 (by kernel_rfl) rfl rfl rfl ?_
                  refine dx_pass 58 (by kernel_rfl) rfl rfl rfl ?_
                  refine dx_u 59 (by kernel_rfl) rfl rfl rfl (fun w => y_pick_f rfl rfl) ?_
                  refine dx_u 60 (by kernel_rfl) rfl rfl rfl (fun w => y_pick_f rfl rfl) ?_
                  refine dx_end (by kernel_rfl) ?_
                  refine K3 (L9 (K5 (K8 (K3 (K1 ?_)))))
                  refine l_y rfl rfl (y_move rfl) ?_
                  refine l_y rfl rfl (D4) ?_
                  refine l_y rfl rfl (y_assign rfl) ?_
                  refine K2 ?_
                  exact q_next (j + 1) ⟨rfl, rfl, rfl, rfl, rfl, rfl, trivial⟩ ⟨hO.only [.o a13, .b b7, .p q9], trivial⟩ (by omega)
              · have h20_28 := of_decide_eq_false hg125
                refine dx_pass 30 (by kernel_rfl) rfl rfl rfl ?_
                refine dx_pass 31 (by kernel_rfl) rfl rfl rfl ?_
                refine dx_pass 32 (by kernel_rfl) rfl rfl rfl ?_
                refine dx_pass 33 (by kernel_rfl) rfl rfl rfl ?_
                refine dx_pass 34 (by kernel_rfl) rfl rfl rfl ?_
                refine dx_pass 35 (by kernel_rfl) rfl rfl rfl ?_
                refine dx_pass 36 (by kernel_rfl) rfl rfl rfl ?_
                refine dx_pass 37 (by kernel_rfl) rfl rfl rfl ?_
                refine dx_u 38 (by kernel_rfl) rfl rfl rfl (fun w => y_pick_f rfl rfl) ?_
                refine dx_u 39 (by kernel_rfl) rfl rfl rfl (fun w => y_pick_f rfl rfl) ?_
                refine dx_u 40 (by kernel_rfl) rfl rfl rfl (fun w => y_move rfl) ?_
                refine dx_u 41 (by kernel_rfl) rfl rfl rfl (fun w => y_move rfl) ?_
                refine dx_u 42 (by kernel_rfl) rfl rfl rfl (fun w => y_move rfl) ?_
                refine dx_u 43 (by kernel_rfl) rfl rfl rfl (fun w => y_lenL rfl) ?_
                refine dx_u 44 (by kernel_rfl) rfl rfl rfl (fun w => D4) ?_
                refine dx_u 45 (by kernel_rfl) rfl rfl rfl (fun w => y_cmpI rfl rfl rfl) ?_
                refine dx_u 46 (by kernel_rfl) rfl rfl rfl (fun w => y_move rfl) ?_
                refine dx_split 142 rfl (fun hg142 => ?_) (fun hg142 => ?_)
                · have h20_45 := of_decide_eq_true hg142
                  refine dx_u 47 (by kernel_rfl) rfl rfl rfl (fun w => y_fldb (o' := 8) rfl) ?_
                  refine dx_y 48 (by kernel_rfl) rfl rfl rfl (fun w ⟨m, hw⟩ => D5 hw rfl) ?_
                  refine dx_u 49 (by kernel_rfl) rfl rfl rfl (fun w => y_move rfl) ?_
                  refine dx_u 50 (by kernel_rfl) rfl rfl rfl (fun w => y_move rfl) ?_
                  refine dx_u 51 (by kernel_rfl) rfl rfl rfl (fun w => y_idx rfl rfl) ?_
                  refine dx_y 52 (by kernel_rfl) rfl rfl rfl (fun w ⟨m, hw⟩ => y_e1 (x0 := 0) hw rfl) ?_
                  refine dx_y 53 (by kernel_rfl) rfl rfl rfl (fun w ⟨m, hw⟩ => D2 (hp := (hkf.last (by omega)).1)) ?_
                  refine dx_u 54 (by kernel_rfl) rfl rfl rfl (fun w => y_move rfl) ?_
                  refine dx_u 55 (by kernel_rfl) rfl rfl rfl (fun w => y_fldb (o' := 10) rfl) ?_
                  refine dx_y 56 (by kernel_rfl) rfl rfl rfl (fun w ⟨m, hw⟩ => D5 hw rfl) ?_
                  refine dx_y 57 (by kernel_rfl) rfl rfl rfl (fun w ⟨m, hw⟩ => D2 (hp := (hkf.last (by omega)).2)) ?_
                  refine dx_u 58 (by kernel_rfl) rfl rfl rfl (fun w => y_pick_f rfl rfl) ?_
                  refine dx_u 59 (by kernel_rfl) rfl rfl rfl (fun w => y_pick_t rfl rfl) ?_
                  refine dx_u 60 (by kernel_rfl) rfl rfl rfl (fun w => y_pick_f rfl rfl) ?_
                  refine dx_end (by kernel_rfl) ?_
                  refine K3 (L9 (K5 (K8 (K3 (K1 ?_)))))
                  refine l_y rfl rfl (y_move rfl) ?_
                  refine l_y rfl rfl (D4) ?_
                  refine l_y rfl rfl (y_assign rfl) ?_
                  refine K2 ?_
                  exact q_next (j + 1) ⟨rfl, rfl, rfl, rfl, rfl, rfl, trivial⟩ ⟨hO.only [.o a13, .b b7, .p q9], trivial⟩ (by omega)
                · have h20_45 := of_decide_eq_false hg142
                  refine dx_pass 47 (by kernel_rfl) rfl rfl rfl ?_
                  refine dx_pass 48 (by kernel_rfl) rfl rfl rfl ?_
                  refine dx_pass 49 (by kernel_rfl) rfl rfl rfl ?_
                  refine dx_pass 50 (by kernel_rfl) rfl rfl rfl ?_
                  refine dx_pass 51 (by kernel_rfl) rfl rfl rfl ?_
                  refine dx_pass 52 (by kernel_rfl) rfl rfl rfl ?_
                  refine dx_pass 53 (by kernel_rfl) rfl rfl rfl ?_
                  refine dx_pass 54 (by kernel_rfl) rfl rfl rfl ?_
                  refine dx_pass 55 (by kernel_rfl) rfl rfl rfl ?_
                  refine dx_pass 56 (by kernel_rfl) rfl rfl rfl ?_
                  refine dx_pass 57 (by kernel_rfl) rfl rfl rfl ?_
                  refine dx_pass 58 (by kernel_rfl) rfl rfl rfl ?_
                  refine dx_u 59 (by kernel_rfl) rfl rfl rfl (fun w => y_pick_f rfl rfl) ?_
                  refine dx_u 60 (by kernel_rfl) rfl rfl rfl (fun w => y_pick_f rfl rfl) ?_
                  refine dx_end (by kernel_rfl) ?_
                  refine K3 (L9 (K5 (K8 (K3 (K1 ?_)))))
                  refine l_y rfl rfl (y_move rfl) ?_
                  refine l_y rfl rfl (D4) ?_
                  refine l_y rfl rfl (y_assign rfl) ?_
                  refine K2 ?_
                  exact q_next (j + 1) ⟨rfl, rfl, rfl, rfl, rfl, rfl, trivial⟩ ⟨hO.only [.o a13, .b b7, .p q9], trivial⟩ (by omega)
            · have h20_10 := of_decide_eq_false hg107
              refine dx_pass 12 (by kernel_rfl) rfl rfl rfl ?_
              refine dx_pass 13 (by kernel_rfl) rfl rfl rfl ?_
              refine dx_pass 14 (by kernel_rfl) rfl rfl rfl ?_
              refine dx_pass 15 (by kernel_rfl) rfl rfl rfl ?_
              refine dx_pass 16 (by kernel_rfl) rfl rfl rfl ?_
              refine dx_pass 17 (by kernel_rfl) rfl rfl rfl ?_
              refine dx_pass 18 (by kernel_rfl) rfl rfl rfl ?_
              refine dx_pass 19 (by kernel_rfl) rfl rfl rfl ?_
              refine dx_pass 20 (by kernel_rfl) rfl rfl rfl ?_
              refine dx_pass 21 (by kernel_rfl) rfl rfl rfl ?_
              refine dx_pass 22 (by kernel_rfl) rfl rfl rfl ?_
              refine dx_pass 23 (by kernel_rfl) rfl rfl rfl ?_
              refine dx_u 24 (by kernel_rfl) rfl rfl rfl (fun w => y_pick_f rfl rfl) ?_
              refine dx_u 25 (by kernel_rfl) rfl rfl rfl (fun w => y_pick_f rfl rfl) ?_
              refine dx_u 26 (by kernel_rfl) rfl rfl rfl (fun w => y_move rfl) ?_
              refine dx_u 27 (by kernel_rfl) rfl rfl rfl (fun w => y_move rfl) ?_
              refine dx_u 28 (by kernel_rfl) rfl rfl rfl (fun w => y_cmpI rfl rfl rfl) ?_
              refine dx_u 29 (by kernel_rfl) rfl rfl rfl (fun w => y_move rfl) ?_
              refine dx_split 125 rfl (fun hg125 => ?_) (fun hg125 => ?_)
              · have h20_28 := of_decide_eq_true hg125
                refine dx_u 30 (by kernel_rfl) rfl rfl rfl (fun w => y_fldb (o' := 9) rfl) ?_
                refine dx_y 31 (by kernel_rfl) rfl rfl rfl (fun w ⟨m, hw⟩ => D5 hw rfl) ?_
                refine dx_u 32 (by kernel_rfl) rfl rfl rfl (fun w => y_move rfl) ?_
                refine dx_u 33 (by kernel_rfl) rfl rfl rfl (fun w => y_move rfl) ?_
                refine dx_u 34 (by kernel_rfl) rfl rfl rfl (fun w => D4) ?_
                refine dx_u 35 (by kernel_rfl) rfl rfl rfl (fun w => y_idx rfl rfl) ?_
                refine dx_y 36 (by kernel_rfl) rfl rfl rfl (fun w ⟨m, hw⟩ => y_e1 (x0 := 0) hw rfl) ?_
                refine dx_y 37 (by kernel_rfl) rfl rfl rfl (fun w ⟨m, hw⟩ => D2 (hp := (by rw [show ((j : Int) - 1).toNat = j - 1 by omega]; exact hkf.prev (by omega)))) ?_
                refine dx_u 38 (by kernel_rfl) rfl rfl rfl (fun w => y_pick_t rfl rfl) ?_
                refine dx_u 39 (by kernel_rfl) rfl rfl rfl (fun w => y_pick_f rfl rfl) ?_
                refine dx_u 40 (by kernel_rfl) rfl rfl rfl (fun w => y_move rfl) ?_
                refine dx_u 41 (by kernel_rfl) rfl rfl rfl (fun w => y_move rfl) ?_
                refine dx_u 42 (by kernel_rfl) rfl rfl rfl (fun w => y_move rfl) ?_
                refine dx_u 43 (by kernel_rfl) rfl rfl rfl (fun w => y_lenL rfl) ?_
                refine dx_u 44 (by kernel_rfl) rfl rfl rfl (fun w => D4) ?_
                refine dx_u 45 (by kernel_rfl) rfl rfl rfl (fun w => y_cmpI rfl rfl rfl) ?_
                refine dx_u 46 (by kernel_rfl) rfl rfl rfl (fun w => y_move rfl) ?_
                refine dx_split 142 rfl (fun hg142 => ?_) (fun hg142 => ?_)
                · have h20_45 := of_decide_eq_true hg142
                  refine dx_u 47 (by kernel_rfl) rfl rfl rfl (fun w => y_fldb (o' := 8) rfl) ?_
                  refine dx_y 48 (by kernel_rfl) rfl rfl rfl (fun w ⟨m, hw⟩ => D5 hw rfl) ?_
                  refine dx_u 49 (by kernel_rfl) rfl rfl rfl (fun w => y_move rfl) ?_
                  refine dx_u 50 (by kernel_rfl) rfl rfl rfl (fun w => y_move rfl) ?_
                  refine dx_u 51 (by kernel_rfl) rfl rfl rfl (fun w => y_idx rfl rfl) ?_
                  refine dx_y 52 (by kernel_rfl) rfl rfl rfl (fun w ⟨m, hw⟩ => y_e1 (x0 := 0) hw rfl) ?_
                  refine dx_y 53 (by kernel_rfl) rfl rfl rfl (fun w ⟨m, hw⟩ => D2 (hp := (hkf.last (by omega)).1)) ?_
                  refine dx_u 54 (by kernel_rfl) rfl rfl rfl (fun w => y_move rfl) ?_
                  refine dx_u 55 (by kernel_rfl) rfl rfl rfl (fun w => y_fldb (o' := 10) rfl) ?_
                  refine dx_y 56 (by kernel_rfl) rfl rfl rfl (fun w ⟨m, hw⟩ => D5 hw rfl) ?_
                  refine dx_y 57 (by kernel_rfl) rfl rfl rfl (fun w ⟨m, hw⟩ => D2 (hp := (hkf.last (by omega)).2)) ?_
                  refine dx_u 58 (by kernel_rfl) rfl rfl rfl (fun w => y_pick_f rfl rfl) ?_
                  refine dx_u 59 (by kernel_rfl) rfl rfl rfl (fun w => y_pick_t rfl rfl) ?_
                  refine dx_u 60 (by kernel_rfl) rfl rfl rfl (fun w => y_pick_f rfl rfl) ?_
                  refine dx_end (by kernel_rfl) ?_
                  refine K3 (L9 (K5 (K8 (K3 (K1 ?_)))))
                  refine l_y rfl rfl (y_move rfl) ?_
                  refine l_y rfl rfl (D4) ?_
                  refine l_y rfl rfl (y_assign rfl) ?_
                  refine K2 ?_
                  exact q_next (j + 1) ⟨rfl, rfl, rfl, rfl, rfl, rfl, trivial⟩ ⟨hO.only [.o a13, .b b7, .p q9], trivial⟩ (by omega)
                · have h20_45 := of_decide_eq_false hg142
                  refine dx_pass 47 (by kernel_rfl) rfl rfl rfl ?_
                  refine dx_pass 48 (by kernel_rfl) rfl rfl rfl ?_
                  refine dx_pass 49 (by kernel_rfl) rfl rfl rfl ?_
                  refine dx_pass 50 (by kernel_rfl) rfl rfl rfl ?_
                  refine dx_pass 51 (by kernel_rfl) rfl rfl rfl ?_
                  refine dx_pass 52 (by kernel_rfl) rfl rfl rfl ?_
                  refine dx_pass 53 (by kernel_rfl) rfl rfl rfl ?_
                  refine dx_pass 54 (by kernel_rfl) rfl rfl rfl ?_
                  refine dx_pass 55 (by kernel_rfl) rfl rfl rfl ?_
                  refine dx_pass 56 (by kernel_rfl) rfl rfl rfl ?_
                  refine dx_pass 57 (by kernel_rfl) rfl rfl rfl ?_
                  refine dx_pass 58 (by kernel_rfl) rfl rfl rfl ?_
                  refine dx_u 59 (by kernel_rfl) rfl rfl rfl (fun w => y_pick_f rfl rfl) ?_
                  refine dx_u 60 (by kernel_rfl) rfl rfl rfl (fun w => y_pick_f rfl rfl) ?_
                  refine dx_end (by kernel_rfl) ?_
                  refine K3 (L9 (K5 (K8 (K3 (K1 ?_)))))
                  refine l_y rfl rfl (y_move rfl) ?_
                  refine l_y rfl rfl (D4) ?_
                  refine l_y rfl rfl (y_assign rfl) ?_
                  refine K2 ?_
                  exact q_next (j + 1) ⟨rfl, rfl, rfl, rfl, rfl, rfl, trivial⟩ ⟨hO.only [.o a13, .b b7, .p q9], trivial⟩ (by omega)
              · have h20_28 := of_decide_eq_false hg125
                refine dx_pass 30 (by kernel_rfl) rfl rfl rfl ?_
                refine dx_pass 31 (by kernel_rfl) rfl rfl rfl ?_
                refine dx_pass 32 (by kernel_rfl) rfl rfl rfl ?_
                refine dx_pass 33 (by kernel_rfl) rfl rfl rfl ?_
                refine dx_pass 34 (by kernel_rfl) rfl rfl rfl ?_
                refine dx_pass 35 (by kernel_rfl) rfl rfl rfl ?_
                refine dx_pass 36 (by kernel_rfl) rfl rfl rfl ?_
                refine dx_pass 37 (by kernel_rfl) rfl rfl rfl ?_
                refine dx_u 38 (by kernel_rfl) rfl rfl rfl (fun w => y_pick_f rfl rfl) ?_
                refine dx_u 39 (by kernel_rfl) rfl rfl rfl (fun w => y_pick_f rfl rfl) ?_
                refine dx_u 40 (by kernel_rfl) rfl rfl rfl (fun w => y_move rfl) ?_
                refine dx_u 41 (by kernel_rfl) rfl rfl rfl (fun w => y_move rfl) ?_
                refine dx_u 42 (by kernel_rfl) rfl rfl rfl (fun w => y_move rfl) ?_
                refine dx_u 43 (by kernel_rfl) rfl rfl rfl (fun w => y_lenL rfl) ?_
                refine dx_u 44 (by kernel_rfl) rfl rfl rfl (fun w => D4) ?_
                refine dx_u 45 (by kernel_rfl) rfl rfl rfl (fun w => y_cmpI rfl rfl rfl) ?_
                refine dx_u 46 (by kernel_rfl) rfl rfl rfl (fun w => y_move rfl) ?_
                refine dx_split 142 rfl (fun hg142 => ?_) (fun hg142 => ?_)
                · have h20_45 := of_decide_eq_true hg142
                  refine dx_u 47 (by kernel_rfl) rfl rfl rfl (fun w => y_fldb (o' := 8) rfl) ?_
                  refine dx_y 48 (by kernel_rfl) rfl rfl rfl (fun w ⟨m, hw⟩ => D5 hw rfl) ?_
                  refine dx_u 49 (by kernel_rfl) rfl rfl rfl (fun w => y_move rfl) ?_
                  refine dx_u 50 (by kernel_rfl) rfl rfl rfl (fun w => y_move rfl) ?_
                  refine dx_u 51 (by kernel_rfl) rfl rfl rfl (fun w => y_idx rfl rfl) ?_
                  refine dx_y 52 (by kernel_rfl) rfl rfl rfl (fun w ⟨m, hw⟩ => y_e1 (x0 := 0) hw rfl) ?_
                  refine dx_y 53 (by kernel_rfl) rfl rfl rfl (fun w ⟨m, hw⟩ => D2 (hp := (hkf.last (by omega)).1)) ?_
                  refine dx_u 54 (by kernel_rfl) rfl rfl rfl (fun w => y_move rfl) ?_
                  refine dx_u 55 (by kernel_rfl) rfl rfl rfl (fun w => y_fldb (o' := 10) rfl) ?_
                  refine dx_y 56 (by kernel_rfl) rfl rfl rfl (fun w ⟨m, hw⟩ => D5 hw rfl) ?_
                  refine dx_y 57 (by kernel_rfl) rfl rfl rfl (fun w ⟨m, hw⟩ => D2 (hp := (hkf.last (by omega)).2)) ?_
                  refine dx_u 58 (by kernel_rfl) rfl rfl rfl (fun w => y_pick_f rfl rfl) ?_
                  refine dx_u 59 (by kernel_rfl) rfl rfl rfl (fun w => y_pick_t rfl rfl) ?_
                  refine dx_u 60 (by kernel_rfl) rfl rfl rfl (fun w => y_pick_f rfl rfl) ?_
                  refine dx_end (by kernel_rfl) ?_
                  refine K3 (L9 (K5 (K8 (K3 (K1 ?_)))))
                  refine l_y rfl rfl (y_move rfl) ?_
                  refine l_y rfl rfl (D4) ?_
                  refine l_y rfl rfl (y_assign rfl) ?_
                  refine K2 ?_
                  exact q_next (j + 1) ⟨rfl, rfl, rfl, rfl, rfl, rfl, trivial⟩ ⟨hO.only [.o a13, .b b7, .p q9], trivial⟩ (by omega)
                · have h20_45 := of_decide_eq_false hg142
                  refine dx_pass 47 (by kernel_rfl) rfl rfl rfl ?_
                  refine dx_pass 48 (by kernel_rfl) rfl rfl rfl ?_
                  refine dx_pass 49 (by kernel_rfl) rfl rfl rfl ?_
                  refine dx_pass 50 (by kernel_rfl) rfl rfl rfl ?_
                  refine dx_pass 51 (by kernel_rfl) rfl rfl rfl ?_
                  refine dx_pass 52 (by kernel_rfl) rfl rfl rfl ?_
                  refine dx_pass 53 (by kernel_rfl) rfl rfl rfl ?_
                  refine dx_pass 54 (by kernel_rfl) rfl rfl rfl ?_
                  refine dx_pass 55 (by kernel_rfl) rfl rfl rfl ?_
                  refine dx_pass 56 (by kernel_rfl) rfl rfl rfl ?_
                  refine dx_pass 57 (by kernel_rfl) rfl rfl rfl ?_
                  refine dx_pass 58 (by kernel_rfl) rfl rfl rfl ?_
                  refine dx_u 59 (by kernel_rfl) rfl rfl rfl (fun w => y_pick_f rfl rfl) ?_
                  refine dx_u 60 (by kernel_rfl) rfl rfl rfl (fun w => y_pick_f rfl rfl) ?_
                  refine dx_end (by kernel_rfl) ?_
                  refine K3 (L9 (K5 (K8 (K3 (K1 ?_)))))
                  refine l_y rfl rfl (y_move rfl) ?_
                  refine l_y rfl rfl (D4) ?_
                  refine l_y rfl rfl (y_assign rfl) ?_
                  refine K2 ?_
                  exact q_next (j + 1) ⟨rfl, rfl, rfl, rfl, rfl, rfl, trivial⟩ ⟨hO.only [.o a13, .b b7, .p q9], trivial⟩ (by omega)
          · refine K2 (K3 (L9 (K7 (L1 (L1 (L2 (K8 (K3 (K1 ?_)))))))))
            refine l_y rfl rfl (y_move rfl) ?_
            refine l_y rfl rfl (D4) ?_
            refine l_y rfl rfl (y_assign rfl) ?_
            refine K2 ?_
            exact q_next (i + 1) ⟨rfl, rfl, rfl, trivial⟩ ⟨hO.only [.o a13], trivial⟩ (by omega)
      · refine K2 (K3 (L9 (K7 (L1 (L1 (L2 (K3 (K0 (K1 ?_)))))))))
        refine CK [] hO rfl (fun k' hx hr hO' => awake_spec (hO := hO')) ?_
        rintro _ _ w ⟨rfl, rfl⟩ hO
        simp only [List.cons_append, List.nil_append] at hO
        refine l_y rfl rfl (y_assign rfl) ?_
        refine K2 (K3 (K6 ?_))
        exact fin1 rfl rfl ⟨_, rfl, hO⟩
  · refine l_y rfl rfl (y_move rfl) ?_
    repeat refine M2 ?_
    refine l_y rfl rfl (y_pick_f rfl rfl) ?_
    refine K2 (K3 (L9 (K7 (L1 (L1 (L2 (K3 (K0 (K0 ?_)))))))))
    have hAp := t.pos
    have hAm := t.max
    refine K1 ?_
    refine l_y rfl rfl (y_assign rfl) ?_
    refine K2 (K3 (K4 ?_))
    refine c_rounds (X := Nat) (fun i => [(2, .bool false), (3, .pointer (some ⟨a13, 0, none⟩)), (6, .int .i64 (i : Int))]) (fun i w => Own k w [arenaL a13 x.2.1] ∧ (True)) (fun i => x.2.1.length - i) (0) ⟨rfl, rfl, rfl, trivial⟩ ⟨hO.only [.o a13], trivial⟩ ?_
    rintro i w m hm ⟨hO, hT0⟩
    refine K0 (K0 (K1 ?_))
    refine l_y rfl rfl (y_move rfl) ?_
    refine l_y rfl rfl (y_move rfl) ?_
    refine CK [.o a13] hO rfl (fun k' hx hr hO' => LenC_spec hAp (hO := hO')) ?_
    rintro _ _ w ⟨rfl, rfl⟩ hO
    simp only [List.cons_append, List.nil_append] at hO
    refine Z0 (fun h10_3 => ?_) (fun h10_3 => ?_)
    · refine K2 (K3 (L8 (K5 (K3 (K0 (K4 (K0 ?_)))))))
      have hiA : InA x.2.1 (i : Int) := ⟨by omega, by omega⟩
      have hkl := t.tree.len hiA
      obtain ⟨hfe, hle⟩ := row_empty t.tree hiA
      refine K1 ?_
      refine l_y rfl rfl (y_move rfl) ?_
      refine l_y rfl rfl (y_move rfl) ?_
      refine CK [.o a13] hO rfl (fun k' hx hr hO' => NodeT_spec hiA t.tree.attrs (hO := hO')) ?_
      rintro _ _ w ⟨q7, d7, rfl, rfl⟩ hO
      simp only [List.cons_append, List.nil_append] at hO
      refine l_y rfl rfl (y_move rfl) ?_
      refine l_y rfl rfl (y_extract rfl rfl) ?_
      refine l_y rfl rfl (y_extract rfl rfl) ?_
      refine s_alloc (vs := [.int .i64 0, .int .i64 0, .string ⟨#[]⟩, .slice none 0 0, .string ⟨#[]⟩, .string ⟨#[]⟩, .int .i64 0, .int .i64 0, .int .i64 0, .int .i64 0, .int .i64 0, .int .i64 0]) hO rfl rfl rfl fun b7 w hO => ?_
      refine Y3 hO rfl rfl (fun w hO => ?_)
      refine l_y rfl rfl (y_assign rfl) ?_
      refine K2 (K3 (K0 (K1 ?_)))
      refine l_y rfl rfl (y_move rfl) ?_
      refine l_y rfl rfl (y_move rfl) ?_
      refine CK [.o a13] hO rfl (fun k' hx hr hO' => KidsT_spec t.tree hiA hAm (hO := hO')) ?_
      rintro _ _ w ⟨q9, d9, rfl, rfl⟩ hO
      simp only [List.cons_append, List.nil_append] at hO
      have hg9 := (sls_fct (p := q9) hO).2
      refine l_y rfl rfl (y_assign rfl) ?_
      refine K2 (K3 (K0 (K0 ?_)))
      have hfe2 : (x.2.2.1 (i : Int)).length = 0 ↔ (ownN (at_ x.2.1 (i : Int).toNat).Node q7 d7).First = -1 := hfe
      have hd1 : decide (((x.2.2.1 (i : Int)).length : Int) = 0) = decide ((ownN (at_ x.2.1 (i : Int).toNat).Node q7 d7).First = -1) := decide_eq_decide.2 ⟨fun h => hfe2.1 (by omega), fun h => by have := hfe2.2 h; omega⟩
      have hle2 : (x.2.2.1 (i : Int)).length = 0 ↔ (ownN (at_ x.2.1 (i : Int).toNat).Node q7 d7).Last = -1 := hle
      have hd2 : decide (((x.2.2.1 (i : Int)).length : Int) = 0) = decide ((ownN (at_ x.2.1 (i : Int).toNat).Node q7 d7).Last = -1) := decide_eq_decide.2 ⟨fun h => hle2.1 (by omega), fun h => by have := hle2.2 h; omega⟩
      refine K1 ?_
      refine l_y rfl rfl (y_move rfl) ?_
      refine N4 ?_
      refine l_y rfl rfl (y_move rfl) ?_
      refine l_y rfl rfl (y_move rfl) ?_
      refine l_y rfl rfl (y_lenL rfl) ?_
      refine l_y rfl rfl (y_cmpI rfl rfl rfl) ?_
      refine l_y rfl rfl (y_fldb (o' := 7) rfl) ?_
      refine l_y rfl rfl (D5 hO rfl) ?_
      refine l_y rfl rfl (y_cmpI rfl rfl rfl) ?_
      refine l_y rfl rfl (y_neB (c := false) rfl rfl (show (!(decide (((x.2.2.1 (i : Int)).length : Int) = 0) == decide ((ownN (at_ x.2.1 (i : Int).toNat).Node q7 d7).First = -1))) = false by rw [hd1]; simp)) ?_
      refine l_y rfl rfl (y_pick_f rfl rfl) ?_
      refine l_y rfl rfl (y_move rfl) ?_
      refine l_y rfl rfl (y_move rfl) ?_
      refine l_y rfl rfl (y_lenL rfl) ?_
      refine l_y rfl rfl (y_cmpI rfl rfl rfl) ?_
      refine l_y rfl rfl (y_fldb (o' := 8) rfl) ?_
      refine l_y rfl rfl (D5 hO rfl) ?_
      refine l_y rfl rfl (y_cmpI rfl rfl rfl) ?_
      refine l_y rfl rfl (y_neB (c := false) rfl rfl (show (!(decide (((x.2.2.1 (i : Int)).length : Int) = 0) == decide ((ownN (at_ x.2.1 (i : Int).toNat).Node q7 d7).Last = -1))) = false by rw [hd2]; simp)) ?_
      refine l_y rfl rfl (y_pick_f rfl rfl) ?_
      refine l_y rfl rfl (y_move rfl) ?_
      refine l_y rfl rfl (y_fldb (o' := 6) rfl) ?_
      refine l_y rfl rfl (D5 hO rfl) ?_
      refine Z1 (fun h14_23 => ?_) (fun h14_23 => ?_)
      · refine l_y rfl rfl (y_move rfl) ?_
        refine l_y rfl rfl (y_move rfl) ?_
        refine l_y rfl rfl (y_fldb (o' := 6) rfl) ?_
        refine l_y rfl rfl (D5 hO rfl) ?_
        refine l_y rfl rfl (y_move rfl) ?_
        refine CK [.o a13] hO rfl (fun k' hx hr hO' => AboveC_spec hAp t.tree.rank (hO := hO')) ?_
        rintro _ _ w ⟨rfl, rfl⟩ hO
        simp only [List.cons_append, List.nil_append] at hO
        rw [show aboveB x.2.1 (ownN (at_ x.2.1 (i : Int).toNat).Node q7 d7).Parent (i : Int) = false from not_above t.tree hiA h14_23]
        refine l_y rfl rfl (y_pick_t rfl rfl) ?_
        refine l_y rfl rfl (y_pick_f rfl rfl) ?_
        refine K2 (K3 (L9 (K5 (K3 (K0 (K1 ?_))))))
        refine l_y rfl rfl (y_assign rfl) ?_
        refine K2 (K3 (K4 ?_))
        refine c_rounds (X := Nat) (fun j => [(2, .bool false), (3, .pointer (some ⟨a13, 0, none⟩)), (6, .int .i64 (i : Int)), (7, .pointer (some ⟨b7, 0, none⟩)), (9, .slice q9 (x.2.2.1 (i : Int)).length d9), (10, .int .i64 (j : Int))]) (fun j w => Own k w [arenaL a13 x.2.1, blk b7 33 (Api_node.cells (ownN (at_ x.2.1 (i : Int).toNat).Node q7 d7)), sls q9 d9 3 1 (eI .i64) (x.2.2.1 (i : Int))] ∧ (True)) (fun j => (x.2.2.1 (i : Int)).length - j) (0) ⟨rfl, rfl, rfl, rfl, rfl, rfl, trivial⟩ ⟨hO.only [.o a13, .b b7, .p q9], trivial⟩ ?_
        rintro j w m hm ⟨hO, hT0⟩
        refine K0 (K0 (K1 ?_))
        refine l_y rfl rfl (y_move rfl) ?_
        refine l_y rfl rfl (y_move rfl) ?_
        refine l_y rfl rfl (y_lenL rfl) ?_
        refine Z0 (fun h17_3 => ?_) (fun h17_3 => ?_)
        · refine K2 (K3 (L8 (K5 (K3 (K0 (K4 (K0 ?_)))))))
          have hkf := kid_facts t.tree hiA (j := j) (by omega)
          refine K1 ?_
          refine l_y rfl rfl (y_move rfl) ?_
          refine l_y rfl rfl (y_move rfl) ?_
          refine l_y rfl rfl (y_move rfl) ?_
          refine l_y rfl rfl (y_idx rfl rfl) ?_
          refine l_y rfl rfl (y_e1 (x0 := 0) hO rfl) ?_
          refine CK [.o a13] hO rfl (fun k' hx hr hO' => NodeT_spec hkf.inA t.tree.attrs (hO := hO')) ?_
          rintro _ _ w ⟨q11, d11, rfl, rfl⟩ hO
          simp only [List.cons_append, List.nil_append] at hO
          refine l_y rfl rfl (y_move rfl) ?_
          refine l_y rfl rfl (y_extract rfl rfl) ?_
          refine l_y rfl rfl (y_extract rfl rfl) ?_
          refine s_alloc (vs := [.int .i64 0, .int .i64 0, .string ⟨#[]⟩, .slice none 0 0, .string ⟨#[]⟩, .string ⟨#[]⟩, .int .i64 0, .int .i64 0, .int .i64 0, .int .i64 0, .int .i64 0, .int .i64 0]) hO rfl rfl rfl fun b11 w hO => ?_
          refine Y3 hO rfl rfl (fun w hO => ?_)
          refine l_y rfl rfl (y_assign rfl) ?_
          refine K2 (K3 (K0 ?_))
          refine da_region (by intro c a d v w h; cases d <;> exact h) ?_
          have hO := hO.drew
          refine da_phase _ [] (SO.ks [.b b11, .b b7, .p q9] hO) ?_
          refine dx_u 0 (by kernel_rfl) rfl rfl rfl (fun w => y_move rfl) ?_
          refine dx_y 1 (by kernel_rfl) rfl rfl rfl (fun w ⟨m, hw⟩ => D2) ?_
          refine dx_u 2 (by kernel_rfl) rfl rfl rfl (fun w => y_move rfl) ?_
          refine dx_u 3 (by kernel_rfl) rfl rfl rfl (fun w => y_fldb (o' := 6) rfl) ?_
          refine dx_y 4 (by kernel_rfl) rfl rfl rfl (fun w ⟨m, hw⟩ => D5 hw rfl) ?_
          refine dx_u 5 (by kernel_rfl) rfl rfl rfl (fun w => y_move rfl) ?_
          refine dx_y 6 (by kernel_rfl) rfl rfl rfl (fun w ⟨m, hw⟩ => D2 (hp := hkf.parent)) ?_
          refine dx_u 7 (by kernel_rfl) rfl rfl rfl (fun w => y_pick_f rfl rfl) ?_
          refine dx_u 8 (by kernel_rfl) rfl rfl rfl (fun w => y_move rfl) ?_
          refine dx_u 9 (by kernel_rfl) rfl rfl rfl (fun w => y_move rfl) ?_
          refine dx_u 10 (by kernel_rfl) rfl rfl rfl (fun w => y_cmpI rfl rfl rfl) ?_
          refine dx_u 11 (by kernel_rfl) rfl rfl rfl (fun w => y_move rfl) ?_
          refine dx_split 107 rfl (fun hg107 => ?_) (fun hg107 => ?_)
          · have h20_10 := of_decide_eq_true hg107
            refine dx_u 12 (by kernel_rfl) rfl rfl rfl (fun w => y_fldb (o' := 7) rfl) ?_
            refine dx_y 13 (by kernel_rfl) rfl rfl rfl (fun w ⟨m, hw⟩ => D5 hw rfl) ?_
            refine dx_u 14 (by kernel_rfl) rfl rfl rfl (fun w => y_move rfl) ?_
            refine dx_u 15 (by kernel_rfl) rfl rfl rfl (fun w => y_move rfl) ?_
            refine dx_u 16 (by kernel_rfl) rfl rfl rfl (fun w => y_idx rfl rfl) ?_
            refine dx_y 17 (by kernel_rfl) rfl rfl rfl (fun w ⟨m, hw⟩ => y_e1 (x0 := 0) hw rfl) ?_
            refine dx_y 18 (by kernel_rfl) rfl rfl rfl (fun w ⟨m, hw⟩ => D2 (hp := (hkf.zero (by omega)).2)) ?_
            refine dx_u 19 (by kernel_rfl) rfl rfl rfl (fun w => y_move rfl) ?_
            refine dx_u 20 (by kernel_rfl) rfl rfl rfl (fun w => y_fldb (o' := 9) rfl) ?_
            refine dx_y 21 (by kernel_rfl) rfl rfl rfl (fun w ⟨m, hw⟩ => D5 hw rfl) ?_
            refine dx_y 22 (by kernel_rfl) rfl rfl rfl (fun w ⟨m, hw⟩ => D2 (hp := (hkf.zero (by omega)).1)) ?_
            refine dx_u 23 (by kernel_rfl) rfl rfl rfl (fun w => y_pick_f rfl rfl) ?_
            refine dx_u 24 (by kernel_rfl) rfl rfl rfl (fun w => y_pick_t rfl rfl) ?_
            refine dx_u 25 (by kernel_rfl) rfl rfl rfl (fun w => y_pick_f rfl rfl) ?_
            refine dx_u 26 (by kernel_rfl) rfl rfl rfl (fun w => y_move rfl) ?_
            refine dx_u 27 (by kernel_rfl) rfl rfl rfl (fun w => y_move rfl) ?_
            refine dx_u 28 (by kernel_rfl) rfl rfl rfl (fun w => y_cmpI rfl rfl rfl) ?_
            refine dx_u 29 (by kernel_rfl) rfl rfl rfl (fun w => y_move rfl) ?_
            refine dx_split 125 rfl (fun hg125 => ?_) (fun hg125 => ?_)
            · have h20_28 := of_decide_eq_true hg125
              refine dx_u 30 (by kernel_rfl) rfl rfl rfl (fun w => y_fldb (o' := 9) rfl) ?_
              refine dx_y 31 (by kernel_rfl) rfl rfl rfl (fun w ⟨m, hw⟩ => D5 hw rfl) ?_
              refine dx_u 32 (by kernel_rfl) rfl rfl rfl (fun w => y_move rfl) ?_
              refine dx_u 33 (by kernel_rfl) rfl rfl rfl (fun w => y_move rfl) ?_
              refine dx_u 34 (by kernel_rfl) rfl rfl rfl (fun w => D4) ?_
              refine dx_u 35 (by kernel_rfl) rfl rfl rfl (fun w => y_idx rfl rfl) ?_
              refine dx_y 36 (by kernel_rfl) rfl rfl rfl (fun w ⟨m, hw⟩ => y_e1 (x0 := 0) hw rfl) ?_
              refine dx_y 37 (by kernel_rfl) rfl rfl rfl (fun w ⟨m, hw⟩ => D2 (hp := (by rw [show ((j : Int) - 1).toNat = j - 1 by omega]; exact hkf.prev (by omega)))) ?_
              refine dx_u 38 (by kernel_rfl) rfl rfl rfl (fun w => y_pick_t rfl rfl) ?_
              refine dx_u 39 (by kernel_rfl) rfl rfl rfl (fun w => y_pick_f rfl rfl) ?_
              refine dx_u 40 (by kernel_rfl) rfl rfl rfl (fun w => y_move rfl) ?_
              refine dx_u 41 (by kernel_rfl) rfl rfl rfl (fun w => y_move rfl) ?_
              refine dx_u 42 (by kernel_rfl) rfl rfl rfl (fun w => y_move rfl) ?_
              refine dx_u 43 (by kernel_rfl) rfl rfl rfl (fun w => y_lenL rfl) ?_
              refine dx_u 44 (by kernel_rfl) rfl rfl rfl (fun w => D4) ?_
              refine dx_u 45 (by kernel_rfl) rfl rfl rfl (fun w => y_cmpI rfl rfl rfl) ?_
              refine dx_u 46 (by kernel_rfl) rfl rfl rfl (fun w => y_move rfl) ?_
              refine dx_split 142 rfl (fun hg142 => ?_) (fun hg142 => ?_)
              · have h20_45 := of_decide_eq_true hg142
                refine dx_u 47 (by kernel_rfl) rfl rfl rfl (fun w => y_fldb (o' := 8) rfl) ?_
                refine dx_y 48 (by kernel_rfl) rfl rfl rfl (fun w ⟨m, hw⟩ => D5 hw rfl) ?_
                refine dx_u 49 (by kernel_rfl) rfl rfl rfl (fun w => y_move rfl) ?_
                refine dx_u 50 (by kernel_rfl) rfl rfl rfl (fun w => y_move rfl) ?_
                refine dx_u 51 (by kernel_rfl) rfl rfl rfl (fun w => y_idx rfl rfl) ?_
                refine dx_y 52 (by kernel_rfl) rfl rfl rfl (fun w ⟨m, hw⟩ => y_e1 (x0 := 0) hw rfl) ?_
                refine dx_y 53 (by kernel_rfl) rfl rfl rfl (fun w ⟨m, hw⟩ => D2 (hp := (hkf.last (by omega)).1)) ?_
                refine dx_u 54 (by kernel_rfl) rfl rfl rfl (fun w => y_move rfl) ?_
                refine dx_u 55 (by kernel_rfl) rfl rfl rfl (fun w => y_fldb (o' := 10) rfl) ?_
                refine dx_y 56 (by kernel_rfl) rfl rfl rfl (fun w ⟨m, hw⟩ => D5 hw rfl) ?_
                refine dx_y 57 (by kernel_rfl) rfl rfl rfl (fun w ⟨m, hw⟩ => D2 (hp := (hkf.last (by omega)).2)) ?_
                refine dx_u 58 (by kernel_rfl) rfl rfl rfl (fun w => y_pick_f rfl rfl) ?_
                refine dx_u 59 (by kernel_rfl) rfl rfl rfl (fun w => y_pick_t rfl rfl) ?_
                refine dx_u 60 (by kernel_rfl) rfl rfl rfl (fun w => y_pick_f rfl rfl) ?_
                refine dx_end (by kernel_rfl) ?_
                refine K3 (L9 (K5 (K8 (K3 (K1 ?_)))))
                refine l_y rfl rfl (y_move rfl) ?_
                refine l_y rfl rfl (D4) ?_
                refine l_y rfl rfl (y_assign rfl) ?_
                refine K2 ?_
                exact q_next (j + 1) ⟨rfl, rfl, rfl, rfl, rfl, rfl, trivial⟩ ⟨hO.only [.o a13, .b b7, .p q9], trivial⟩ (by omega)
              · have h20_45 := of_decide_eq_false hg142
                refine dx_pass 47 (by kernel_rfl) rfl rfl rfl ?_
                refine dx_pass 48 (by kernel_rfl) rfl rfl rfl ?_
                refine dx_pass 49 (by kernel_rfl) rfl rfl rfl ?_
                refine dx_pass 50 (by kernel_rfl) rfl rfl rfl ?_
                refine dx_pass 51 (by kernel_rfl) rfl rfl rfl ?_
                refine dx_pass 52 (by kernel_rfl) rfl rfl rfl ?_
                refine dx_pass 53 (by kernel_rfl) rfl rfl rfl ?_
                refine dx_pass 54 (by kernel_rfl) rfl rfl rfl ?_
                refine dx_pass 55 (by kernel_rfl) rfl rfl rfl ?_
                refine dx_pass 56 (by kernel_rfl) rfl rfl rfl ?_
                refine dx_pass 57 (by kernel_rfl) rfl rfl rfl ?_
                refine dx_pass 58 (by kernel_rfl) rfl rfl rfl ?_
                refine dx_u 59 (by kernel_rfl) rfl rfl rfl (fun w => y_pick_f rfl rfl) ?_
                refine dx_u 60 (by kernel_rfl) rfl rfl rfl (fun w => y_pick_f rfl rfl) ?_
                refine dx_end (by kernel_rfl) ?_
                refine K3 (L9 (K5 (K8 (K3 (K1 ?_)))))
                refine l_y rfl rfl (y_move rfl) ?_
                refine l_y rfl rfl (D4) ?_
                refine l_y rfl rfl (y_assign rfl) ?_
                refine K2 ?_
                exact q_next (j + 1) ⟨rfl, rfl, rfl, rfl, rfl, rfl, trivial⟩ ⟨hO.only [.o a13, .b b7, .p q9], trivial⟩ (by omega)
            · have h20_28 := of_decide_eq_false hg125
              refine dx_pass 30 (by kernel_rfl) rfl rfl rfl ?_
              refine dx_pass 31 (by kernel_rfl) rfl rfl rfl ?_
              refine dx_pass 32 (by kernel_rfl) rfl rfl rfl ?_
              refine dx_pass 33 (by kernel_rfl) rfl rfl rfl ?_
              refine dx_pass 34 (by kernel_rfl) rfl rfl rfl ?_
              refine dx_pass 35 (by kernel_rfl) rfl rfl rfl ?_
              refine dx_pass 36 (by kernel_rfl) rfl rfl rfl ?_
              refine dx_pass 37 (by kernel_rfl) rfl rfl rfl ?_
              refine dx_u 38 (by kernel_rfl) rfl rfl rfl (fun w => y_pick_f rfl rfl) ?_
              refine dx_u 39 (by kernel_rfl) rfl rfl rfl (fun w => y_pick_f rfl rfl) ?_
              refine dx_u 40 (by kernel_rfl) rfl rfl rfl (fun w => y_move rfl) ?_
              refine dx_u 41 (by kernel_rfl) rfl rfl rfl (fun w => y_move rfl) ?_
              refine dx_u 42 (by kernel_rfl) rfl rfl rfl (fun w => y_move rfl) ?_
              refine dx_u 43 (by kernel_rfl) rfl rfl rfl (fun w => y_lenL rfl) ?_
              refine dx_u 44 (by kernel_rfl) rfl rfl rfl (fun w => D4) ?_
              refine dx_u 45 (by kernel_rfl) rfl rfl rfl (fun w => y_cmpI rfl rfl rfl) ?_
              refine dx_u 46 (by kernel_rfl) rfl rfl rfl (fun w => y_move rfl) ?_
              refine dx_split 142 rfl (fun hg142 => ?_) (fun hg142 => ?_)
              · have h20_45 := of_decide_eq_true hg142
                refine dx_u 47 (by kernel_rfl) rfl rfl rfl (fun w => y_fldb (o' := 8) rfl) ?_
                refine dx_y 48 (by kernel_rfl) rfl rfl rfl (fun w ⟨m, hw⟩ => D5 hw rfl) ?_
                refine dx_u 49 (by kernel_rfl) rfl rfl rfl (fun w => y_move rfl) ?_
                refine dx_u 50 (by kernel_rfl) rfl rfl rfl (fun w => y_move rfl) ?_
                refine dx_u 51 (by kernel_rfl) rfl rfl rfl (fun w => y_idx rfl rfl) ?_
                refine dx_y 52 (by kernel_rfl) rfl rfl rfl (fun w ⟨m, hw⟩ => y_e1 (x0 := 0) hw rfl) ?_
                refine dx_y 53 (by kernel_rfl) rfl rfl rfl (fun w ⟨m, hw⟩ => D2 (hp := (hkf.last (by omega)).1)) ?_
                refine dx_u 54 (by kernel_rfl) rfl rfl rfl (fun w => y_move rfl) ?_
                refine dx_u 55 (by kernel_rfl) rfl rfl rfl (fun w => y_fldb (o' := 10) rfl) ?_
                refine dx_y 56 (by kernel_rfl) rfl rfl rfl (fun w ⟨m, hw⟩ => D5 hw rfl) ?_
                refine dx_y 57 (by kernel_rfl) rfl rfl rfl (fun w ⟨m, hw⟩ => D2 (hp := (hkf.last (by omega)).2)) ?_
                refine dx_u 58 (by kernel_rfl) rfl rfl rfl (fun w => y_pick_f rfl rfl) ?_
                refine dx_u 59 (by kernel_rfl) rfl rfl rfl (fun w => y_pick_t rfl rfl) ?_
                refine dx_u 60 (by kernel_rfl) rfl rfl rfl (fun w => y_pick_f rfl rfl) ?_
                refine dx_end (by kernel_rfl) ?_
                refine K3 (L9 (K5 (K8 (K3 (K1 ?_)))))
                refine l_y rfl rfl (y_move rfl) ?_
                refine l_y rfl rfl (D4) ?_
                refine l_y rfl rfl (y_assign rfl) ?_
                refine K2 ?_
                exact q_next (j + 1) ⟨rfl, rfl, rfl, rfl, rfl, rfl, trivial⟩ ⟨hO.only [.o a13, .b b7, .p q9], trivial⟩ (by omega)
              · have h20_45 := of_decide_eq_false hg142
                refine dx_pass 47 (by kernel_rfl) rfl rfl rfl ?_
                refine dx_pass 48 (by kernel_rfl) rfl rfl rfl ?_
                refine dx_pass 49 (by kernel_rfl) rfl rfl rfl ?_
                refine dx_pass 50 (by kernel_rfl) rfl rfl rfl ?_
                refine dx_pass 51 (by kernel_rfl) rfl rfl rfl ?_
                refine dx_pass 52 (by kernel_rfl) rfl rfl rfl ?_
                refine dx_pass 53 (by kernel_rfl) rfl rfl rfl ?_
                refine dx_pass 54 (by kernel_rfl) rfl rfl rfl ?_
                refine dx_pass 55 (by kernel_rfl) rfl rfl rfl ?_
                refine dx_pass 56 (by kernel_rfl) rfl rfl rfl ?_
                refine dx_pass 57 (by kernel_rfl) rfl rfl rfl ?_
                refine dx_pass 58 (by kernel_rfl) rfl rfl rfl ?_
                refine dx_u 59 (by kernel_rfl) rfl rfl rfl (fun w => y_pick_f rfl rfl) ?_
                refine dx_u 60 (by kernel_rfl) rfl rfl rfl (fun w => y_pick_f rfl rfl) ?_
                refine dx_end (by kernel_rfl) ?_
                refine K3 (L9 (K5 (K8 (K3 (K1 ?_)))))
                refine l_y rfl rfl (y_move rfl) ?_
                refine l_y rfl rfl (D4) ?_
                refine l_y rfl rfl (y_assign rfl) ?_
                refine K2 ?_
                exact q_next (j + 1) ⟨rfl, rfl, rfl, rfl, rfl, rfl, trivial⟩ ⟨hO.only [.o a13, .b b7, .p q9], trivial⟩ (by omega)
          · have h20_10 := of_decide_eq_false hg107
            refine dx_pass 12 (by kernel_rfl) rfl rfl rfl ?_
            refine dx_pass 13 (by kernel_rfl) rfl rfl rfl ?_
            refine dx_pass 14 (by kernel_rfl) rfl rfl rfl ?_
            refine dx_pass 15 (by kernel_rfl) rfl rfl rfl ?_
            refine dx_pass 16 (by kernel_rfl) rfl rfl rfl ?_
            refine dx_pass 17 (by kernel_rfl) rfl rfl rfl ?_
            refine dx_pass 18 (by kernel_rfl) rfl rfl rfl ?_
            refine dx_pass 19 (by kernel_rfl) rfl rfl rfl ?_
            refine dx_pass 20 (by kernel_rfl) rfl rfl rfl ?_
            refine dx_pass 21 (by kernel_rfl) rfl rfl rfl ?_
            refine dx_pass 22 (by kernel_rfl) rfl rfl rfl ?_
            refine dx_pass 23 (by kernel_rfl) rfl rfl rfl ?_
            refine dx_u 24 (by kernel_rfl) rfl rfl rfl (fun w => y_pick_f rfl rfl) ?_
            refine dx_u 25 (by kernel_rfl) rfl rfl rfl (fun w => y_pick_f rfl rfl) ?_
            refine dx_u 26 (by kernel_rfl) rfl rfl rfl (fun w => y_move rfl) ?_
            refine dx_u 27 (by kernel_rfl) rfl rfl rfl (fun w => y_move rfl) ?_
            refine dx_u 28 (by kernel_rfl) rfl rfl rfl (fun w => y_cmpI rfl rfl rfl) ?_
            refine dx_u 29 (by kernel_rfl) rfl rfl rfl (fun w => y_move rfl) ?_
            refine dx_split 125 rfl (fun hg125 => ?_) (fun hg125 => ?_)
            · have h20_28 := of_decide_eq_true hg125
              refine dx_u 30 (by kernel_rfl) rfl rfl rfl (fun w => y_fldb (o' := 9) rfl) ?_
              refine dx_y 31 (by kernel_rfl) rfl rfl rfl (fun w ⟨m, hw⟩ => D5 hw rfl) ?_
              refine dx_u 32 (by kernel_rfl) rfl rfl rfl (fun w => y_move rfl) ?_
              refine dx_u 33 (by kernel_rfl) rfl rfl rfl (fun w => y_move rfl) ?_
              refine dx_u 34 (by kernel_rfl) rfl rfl rfl (fun w => D4) ?_
              refine dx_u 35 (by kernel_rfl) rfl rfl rfl (fun w => y_idx rfl rfl) ?_
              refine dx_y 36 (by kernel_rfl) rfl rfl rfl (fun w ⟨m, hw⟩ => y_e1 (x0 := 0) hw rfl) ?_
              refine dx_y 37 (by kernel_rfl) rfl rfl rfl (fun w ⟨m, hw⟩ => D2 (hp := (by rw [show ((j : Int) - 1).toNat = j - 1 by omega]; exact hkf.prev (by omega)))) ?_
              refine dx_u 38 (by kernel_rfl) rfl rfl rfl (fun w => y_pick_t rfl rfl) ?_
              refine dx_u 39 (by kernel_rfl) rfl rfl rfl (fun w => y_pick_f rfl rfl) ?_
              refine dx_u 40 (by kernel_rfl) rfl rfl rfl (fun w => y_move rfl) ?_
              refine dx_u 41 (by kernel_rfl) rfl rfl rfl (fun w => y_move rfl) ?_
              refine dx_u 42 (by kernel_rfl) rfl rfl rfl (fun w => y_move rfl) ?_
              refine dx_u 43 (by kernel_rfl) rfl rfl rfl (fun w => y_lenL rfl) ?_
              refine dx_u 44 (by kernel_rfl) rfl rfl rfl (fun w => D4) ?_
              refine dx_u 45 (by kernel_rfl) rfl rfl rfl (fun w => y_cmpI rfl rfl rfl) ?_
              refine dx_u 46 (by kernel_rfl) rfl rfl rfl (fun w => y_move rfl) ?_
              refine dx_split 142 rfl (fun hg142 => ?_) (fun hg142 => ?_)
              · have h20_45 := of_decide_eq_true hg142
                refine dx_u 47 (by kernel_rfl) rfl rfl rfl (fun w => y_fldb (o' := 8) rfl) ?_
                refine dx_y 48 (by kernel_rfl) rfl rfl rfl (fun w ⟨m, hw⟩ => D5 hw rfl) ?_
                refine dx_u 49 (by kernel_rfl) rfl rfl rfl (fun w => y_move rfl) ?_
                refine dx_u 50 (by kernel_rfl) rfl rfl rfl (fun w => y_move rfl) ?_
                refine dx_u 51 (by kernel_rfl) rfl rfl rfl (fun w => y_idx rfl rfl) ?_
                refine dx_y 52 (by kernel_rfl) rfl rfl rfl (fun w ⟨m, hw⟩ => y_e1 (x0 := 0) hw rfl) ?_
                refine dx_y 53 (by kernel_rfl) rfl rfl rfl (fun w ⟨m, hw⟩ => D2 (hp := (hkf.last (by omega)).1)) ?_
                refine dx_u 54 (by kernel_rfl) rfl rfl rfl (fun w => y_move rfl) ?_
                refine dx_u 55 (by kernel_rfl) rfl rfl rfl (fun w => y_fldb (o' := 10) rfl) ?_
                refine dx_y 56 (by kernel_rfl) rfl rfl rfl (fun w ⟨m, hw⟩ => D5 hw rfl) ?_
                refine dx_y 57 (by kernel_rfl) rfl rfl rfl (fun w ⟨m, hw⟩ => D2 (hp := (hkf.last (by omega)).2)) ?_
                refine dx_u 58 (by kernel_rfl) rfl rfl rfl (fun w => y_pick_f rfl rfl) ?_
                refine dx_u 59 (by kernel_rfl) rfl rfl rfl (fun w => y_pick_t rfl rfl) ?_
                refine dx_u 60 (by kernel_rfl) rfl rfl rfl (fun w => y_pick_f rfl rfl) ?_
                refine dx_end (by kernel_rfl) ?_
                refine K3 (L9 (K5 (K8 (K3 (K1 ?_)))))
                refine l_y rfl rfl (y_move rfl) ?_
                refine l_y rfl rfl (D4) ?_
                refine l_y rfl rfl (y_assign rfl) ?_
                refine K2 ?_
                exact q_next (j + 1) ⟨rfl, rfl, rfl, rfl, rfl, rfl, trivial⟩ ⟨hO.only [.o a13, .b b7, .p q9], trivial⟩ (by omega)
              · have h20_45 := of_decide_eq_false hg142
                refine dx_pass 47 (by kernel_rfl) rfl rfl rfl ?_
                refine dx_pass 48 (by kernel_rfl) rfl rfl rfl ?_
                refine dx_pass 49 (by kernel_rfl) rfl rfl rfl ?_
                refine dx_pass 50 (by kernel_rfl) rfl rfl rfl ?_
                refine dx_pass 51 (by kernel_rfl) rfl rfl rfl ?_
                refine dx_pass 52 (by kernel_rfl) rfl rfl rfl ?_
                refine dx_pass 53 (by kernel_rfl) rfl rfl rfl ?_
                refine dx_pass 54 (by kernel_rfl) rfl rfl rfl ?_
                refine dx_pass 55 (by kernel_rfl) rfl rfl rfl ?_
                refine dx_pass 56 (by kernel_rfl) rfl rfl rfl ?_
                refine dx_pass 57 (by kernel_rfl) rfl rfl rfl ?_
                refine dx_pass 58 (by kernel_rfl) rfl rfl rfl ?_
                refine dx_u 59 (by kernel_rfl) rfl rfl rfl (fun w => y_pick_f rfl rfl) ?_
                refine dx_u 60 (by kernel_rfl) rfl rfl rfl (fun w => y_pick_f rfl rfl) ?_
                refine dx_end (by kernel_rfl) ?_
                refine K3 (L9 (K5 (K8 (K3 (K1 ?_)))))
                refine l_y rfl rfl (y_move rfl) ?_
                refine l_y rfl rfl (D4) ?_
                refine l_y rfl rfl (y_assign rfl) ?_
                refine K2 ?_
                exact q_next (j + 1) ⟨rfl, rfl, rfl, rfl, rfl, rfl, trivial⟩ ⟨hO.only [.o a13, .b b7, .p q9], trivial⟩ (by omega)
            · have h20_28 := of_decide_eq_false hg125
              refine dx_pass 30 (by kernel_rfl) rfl rfl rfl ?_
              refine dx_pass 31 (by kernel_rfl) rfl rfl rfl ?_
              refine dx_pass 32 (by kernel_rfl) rfl rfl rfl ?_
              refine dx_pass 33 (by kernel_rfl) rfl rfl rfl ?_
              refine dx_pass 34 (by kernel_rfl) rfl rfl rfl ?_
              refine dx_pass 35 (by kernel_rfl) rfl rfl rfl ?_
              refine dx_pass 36 (by kernel_rfl) rfl rfl rfl ?_
              refine dx_pass 37 (by kernel_rfl) rfl rfl rfl ?_
              refine dx_u 38 (by kernel_rfl) rfl rfl rfl (fun w => y_pick_f rfl rfl) ?_
              refine dx_u 39 (by kernel_rfl) rfl rfl rfl (fun w => y_pick_f rfl rfl) ?_
              refine dx_u 40 (by kernel_rfl) rfl rfl rfl (fun w => y_move rfl) ?_
              refine dx_u 41 (by kernel_rfl) rfl rfl rfl (fun w => y_move rfl) ?_
              refine dx_u 42 (by kernel_rfl) rfl rfl rfl (fun w => y_move rfl) ?_
              refine dx_u 43 (by kernel_rfl) rfl rfl rfl (fun w => y_lenL rfl) ?_
              refine dx_u 44 (by kernel_rfl) rfl rfl rfl (fun w => D4) ?_
              refine dx_u 45 (by kernel_rfl) rfl rfl rfl (fun w => y_cmpI rfl rfl rfl) ?_
              refine dx_u 46 (by kernel_rfl) rfl rfl rfl (fun w => y_move rfl) ?_
              refine dx_split 142 rfl (fun hg142 => ?_) (fun hg142 => ?_)
              · have h20_45 := of_decide_eq_true hg142
                refine dx_u 47 (by kernel_rfl) rfl rfl rfl (fun w => y_fldb (o' := 8) rfl) ?_
                refine dx_y 48 (by kernel_rfl) rfl rfl rfl (fun w ⟨m, hw⟩ => D5 hw rfl) ?_
                refine dx_u 49 (by kernel_rfl) rfl rfl rfl (fun w => y_move rfl) ?_
                refine dx_u 50 (by kernel_rfl) rfl rfl rfl (fun w => y_move rfl) ?_
                refine dx_u 51 (by kernel_rfl) rfl rfl rfl (fun w => y_idx rfl rfl) ?_
                refine dx_y 52 (by kernel_rfl) rfl rfl rfl (fun w ⟨m, hw⟩ => y_e1 (x0 := 0) hw rfl) ?_
                refine dx_y 53 (by kernel_rfl) rfl rfl rfl (fun w ⟨m, hw⟩ => D2 (hp := (hkf.last (by omega)).1)) ?_
                refine dx_u 54 (by kernel_rfl) rfl rfl rfl (fun w => y_move rfl) ?_
                refine dx_u 55 (by kernel_rfl) rfl rfl rfl (fun w => y_fldb (o' := 10) rfl) ?_
                refine dx_y 56 (by kernel_rfl) rfl rfl rfl (fun w ⟨m, hw⟩ => D5 hw rfl) ?_
                refine dx_y 57 (by kernel_rfl) rfl rfl rfl (fun w ⟨m, hw⟩ => D2 (hp := (hkf.last (by omega)).2)) ?_
                refine dx_u 58 (by kernel_rfl) rfl rfl rfl (fun w => y_pick_f rfl rfl) ?_
                refine dx_u 59 (by kernel_rfl) rfl rfl rfl (fun w => y_pick_t rfl rfl) ?_
                refine dx_u 60 (by kernel_rfl) rfl rfl rfl (fun w => y_pick_f rfl rfl) ?_
                refine dx_end (by kernel_rfl) ?_
                refine K3 (L9 (K5 (K8 (K3 (K1 ?_)))))
                refine l_y rfl rfl (y_move rfl) ?_
                refine l_y rfl rfl (D4) ?_
                refine l_y rfl rfl (y_assign rfl) ?_
                refine K2 ?_
                exact q_next (j + 1) ⟨rfl, rfl, rfl, rfl, rfl, rfl, trivial⟩ ⟨hO.only [.o a13, .b b7, .p q9], trivial⟩ (by omega)
              · have h20_45 := of_decide_eq_false hg142
                refine dx_pass 47 (by kernel_rfl) rfl rfl rfl ?_
                refine dx_pass 48 (by kernel_rfl) rfl rfl rfl ?_
                refine dx_pass 49 (by kernel_rfl) rfl rfl rfl ?_
                refine dx_pass 50 (by kernel_rfl) rfl rfl rfl ?_
                refine dx_pass 51 (by kernel_rfl) rfl rfl rfl ?_
                refine dx_pass 52 (by kernel_rfl) rfl rfl rfl ?_
                refine dx_pass 53 (by kernel_rfl) rfl rfl rfl ?_
                refine dx_pass 54 (by kernel_rfl) rfl rfl rfl ?_
                refine dx_pass 55 (by kernel_rfl) rfl rfl rfl ?_
                refine dx_pass 56 (by kernel_rfl) rfl rfl rfl ?_
                refine dx_pass 57 (by kernel_rfl) rfl rfl rfl ?_
                refine dx_pass 58 (by kernel_rfl) rfl rfl rfl ?_
                refine dx_u 59 (by kernel_rfl) rfl rfl rfl (fun w => y_pick_f rfl rfl) ?_
                refine dx_u 60 (by kernel_rfl) rfl rfl rfl (fun w => y_pick_f rfl rfl) ?_
                refine dx_end (by kernel_rfl) ?_
                refine K3 (L9 (K5 (K8 (K3 (K1 ?_)))))
                refine l_y rfl rfl (y_move rfl) ?_
                refine l_y rfl rfl (D4) ?_
                refine l_y rfl rfl (y_assign rfl) ?_
                refine K2 ?_
                exact q_next (j + 1) ⟨rfl, rfl, rfl, rfl, rfl, rfl, trivial⟩ ⟨hO.only [.o a13, .b b7, .p q9], trivial⟩ (by omega)
        · refine K2 (K3 (L9 (K7 (L1 (L1 (L2 (K8 (K3 (K1 ?_)))))))))
          refine l_y rfl rfl (y_move rfl) ?_
          refine l_y rfl rfl (D4) ?_
          refine l_y rfl rfl (y_assign rfl) ?_
          refine K2 ?_
          exact q_next (i + 1) ⟨rfl, rfl, rfl, trivial⟩ ⟨hO.only [.o a13], trivial⟩ (by omega)
      · refine l_y rfl rfl (y_move rfl) ?_
        repeat refine M2 ?_
        refine l_y rfl rfl (y_pick_f rfl rfl) ?_
        refine l_y rfl rfl (y_pick_f rfl rfl) ?_
        refine K2 (K3 (L9 (K5 (K3 (K0 (K1 ?_))))))
        refine l_y rfl rfl (y_assign rfl) ?_
        refine K2 (K3 (K4 ?_))
        refine c_rounds (X := Nat) (fun j => [(2, .bool false), (3, .pointer (some ⟨a13, 0, none⟩)), (6, .int .i64 (i : Int)), (7, .pointer (some ⟨b7, 0, none⟩)), (9, .slice q9 (x.2.2.1 (i : Int)).length d9), (10, .int .i64 (j : Int))]) (fun j w => Own k w [arenaL a13 x.2.1, blk b7 33 (Api_node.cells (ownN (at_ x.2.1 (i : Int).toNat).Node q7 d7)), sls q9 d9 3 1 (eI .i64) (x.2.2.1 (i : Int))] ∧ (True)) (fun j => (x.2.2.1 (i : Int)).length - j) (0) ⟨rfl, rfl, rfl, rfl, rfl, rfl, trivial⟩ ⟨hO.only [.o a13, .b b7, .p q9], trivial⟩ ?_
        rintro j w m hm ⟨hO, hT0⟩
        refine K0 (K0 (K1 ?_))
        refine l_y rfl rfl (y_move rfl) ?_
        refine l_y rfl rfl (y_move rfl) ?_
        refine l_y rfl rfl (y_lenL rfl) ?_
        refine Z0 (fun h17_3 => ?_) (fun h17_3 => ?_)
        · refine K2 (K3 (L8 (K5 (K3 (K0 (K4 (K0 ?_)))))))
          have hkf := kid_facts t.tree hiA (j := j) (by omega)
          refine K1 ?_
          refine l_y rfl rfl (y_move rfl) ?_
          refine l_y rfl rfl (y_move rfl) ?_
          refine l_y rfl rfl (y_move rfl) ?_
          refine l_y rfl rfl (y_idx rfl rfl) ?_
          refine l_y rfl rfl (y_e1 (x0 := 0) hO rfl) ?_
          refine CK [.o a13] hO rfl (fun k' hx hr hO' => NodeT_spec hkf.inA t.tree.attrs (hO := hO')) ?_
          rintro _ _ w ⟨q11, d11, rfl, rfl⟩ hO
          simp only [List.cons_append, List.nil_append] at hO
          refine l_y rfl rfl (y_move rfl) ?_
          refine l_y rfl rfl (y_extract rfl rfl) ?_
          refine l_y rfl rfl (y_extract rfl rfl) ?_
          refine s_alloc (vs := [.int .i64 0, .int .i64 0, .string ⟨#[]⟩, .slice none 0 0, .string ⟨#[]⟩, .string ⟨#[]⟩, .int .i64 0, .int .i64 0, .int .i64 0, .int .i64 0, .int .i64 0, .int .i64 0]) hO rfl rfl rfl fun b11 w hO => ?_
          refine Y3 hO rfl rfl (fun w hO => ?_)
          refine l_y rfl rfl (y_assign rfl) ?_
          refine K2 (K3 (K0 ?_))
          refine da_region (by intro c a d v w h; cases d <;> exact h) ?_
          have hO := hO.drew
          refine da_phase _ [] (SO.ks [.b b11, .b b7, .p q9] hO) ?_
          refine dx_u 0 (by kernel_rfl) rfl rfl rfl (fun w => y_move rfl) ?_
          refine dx_y 1 (by kernel_rfl) rfl rfl rfl (fun w ⟨m, hw⟩ => D2) ?_
          refine dx_u 2 (by kernel_rfl) rfl rfl rfl (fun w => y_move rfl) ?_
          refine dx_u 3 (by kernel_rfl) rfl rfl rfl (fun w => y_fldb (o' := 6) rfl) ?_
          refine dx_y 4 (by kernel_rfl) rfl rfl rfl (fun w ⟨m, hw⟩ => D5 hw rfl) ?_
          refine dx_u 5 (by kernel_rfl) rfl rfl rfl (fun w => y_move rfl) ?_
          refine dx_y 6 (by kernel_rfl) rfl rfl rfl (fun w ⟨m, hw⟩ => D2 (hp := hkf.parent)) ?_
          refine dx_u 7 (by kernel_rfl) rfl rfl rfl (fun w => y_pick_f rfl rfl) ?_
          refine dx_u 8 (by kernel_rfl) rfl rfl rfl (fun w => y_move rfl) ?_
          refine dx_u 9 (by kernel_rfl) rfl rfl rfl (fun w => y_move rfl) ?_
          refine dx_u 10 (by kernel_rfl) rfl rfl rfl (fun w => y_cmpI rfl rfl rfl) ?_
          refine dx_u 11 (by kernel_rfl) rfl rfl rfl (fun w => y_move rfl) ?_
          refine dx_split 107 rfl (fun hg107 => ?_) (fun hg107 => ?_)
          · have h20_10 := of_decide_eq_true hg107
            refine dx_u 12 (by kernel_rfl) rfl rfl rfl (fun w => y_fldb (o' := 7) rfl) ?_
            refine dx_y 13 (by kernel_rfl) rfl rfl rfl (fun w ⟨m, hw⟩ => D5 hw rfl) ?_
            refine dx_u 14 (by kernel_rfl) rfl rfl rfl (fun w => y_move rfl) ?_
            refine dx_u 15 (by kernel_rfl) rfl rfl rfl (fun w => y_move rfl) ?_
            refine dx_u 16 (by kernel_rfl) rfl rfl rfl (fun w => y_idx rfl rfl) ?_
            refine dx_y 17 (by kernel_rfl) rfl rfl rfl (fun w ⟨m, hw⟩ => y_e1 (x0 := 0) hw rfl) ?_
            refine dx_y 18 (by kernel_rfl) rfl rfl rfl (fun w ⟨m, hw⟩ => D2 (hp := (hkf.zero (by omega)).2)) ?_
            refine dx_u 19 (by kernel_rfl) rfl rfl rfl (fun w => y_move rfl) ?_
            refine dx_u 20 (by kernel_rfl) rfl rfl rfl (fun w => y_fldb (o' := 9) rfl) ?_
            refine dx_y 21 (by kernel_rfl) rfl rfl rfl (fun w ⟨m, hw⟩ => D5 hw rfl) ?_
            refine dx_y 22 (by kernel_rfl) rfl rfl rfl (fun w ⟨m, hw⟩ => D2 (hp := (hkf.zero (by omega)).1)) ?_
            refine dx_u 23 (by kernel_rfl) rfl rfl rfl (fun w => y_pick_f rfl rfl) ?_
            refine dx_u 24 (by kernel_rfl) rfl rfl rfl (fun w => y_pick_t rfl rfl) ?_
            refine dx_u 25 (by kernel_rfl) rfl rfl rfl (fun w => y_pick_f rfl rfl) ?_
            refine dx_u 26 (by kernel_rfl) rfl rfl rfl (fun w => y_move rfl) ?_
            refine dx_u 27 (by kernel_rfl) rfl rfl rfl (fun w => y_move rfl) ?_
            refine dx_u 28 (by kernel_rfl) rfl rfl rfl (fun w => y_cmpI rfl rfl rfl) ?_
            refine dx_u 29 (by kernel_rfl) rfl rfl rfl (fun w => y_move rfl) ?_
            refine dx_split 125 rfl (fun hg125 => ?_) (fun hg125 => ?_)
            · have h20_28 := of_decide_eq_true hg125
              refine dx_u 30 (by kernel_rfl) rfl rfl rfl (fun w => y_fldb (o' := 9) rfl) ?_
              refine dx_y 31 (by kernel_rfl) rfl rfl rfl (fun w ⟨m, hw⟩ => D5 hw rfl) ?_
              refine dx_u 32 (by kernel_rfl) rfl rfl rfl (fun w => y_move rfl) ?_
              refine dx_u 33 (by kernel_rfl) rfl rfl rfl (fun w => y_move rfl) ?_
              refine dx_u 34 (by kernel_rfl) rfl rfl rfl (fun w => D4) ?_
              refine dx_u 35 (by kernel_rfl) rfl rfl rfl (fun w => y_idx rfl rfl) ?_
              refine dx_y 36 (by kernel_rfl) rfl rfl rfl (fun w ⟨m, hw⟩ => y_e1 (x0 := 0) hw rfl) ?_
              refine dx_y 37 (by kernel_rfl) rfl rfl rfl (fun w ⟨m, hw⟩ => D2 (hp := (by rw [show ((j : Int) - 1).toNat = j - 1 by omega]; exact hkf.prev (by omega)))) ?_
              refine dx_u 38 (by kernel_rfl) rfl rfl rfl (fun w => y_pick_t rfl rfl) ?_
              refine dx_u 39 (by kernel_rfl) rfl rfl rfl (fun w => y_pick_f rfl rfl) ?_
              refine dx_u 40 (by kernel_rfl) rfl rfl rfl (fun w => y_move rfl) ?_
              refine dx_u 41 (by kernel_rfl) rfl rfl rfl (fun w => y_move rfl) ?_
              refine dx_u 42 (by kernel_rfl) rfl rfl rfl (fun w => y_move rfl) ?_
              refine dx_u 43 (by kernel_rfl) rfl rfl rfl (fun w => y_lenL rfl) ?_
              refine dx_u 44 (by kernel_rfl) rfl rfl rfl (fun w => D4) ?_
              refine dx_u 45 (by kernel_rfl) rfl rfl rfl (fun w => y_cmpI rfl rfl rfl) ?_
              refine dx_u 46 (by kernel_rfl) rfl rfl rfl (fun w => y_move rfl) ?_
              refine dx_split 142 rfl (fun hg142 => ?_) (fun hg142 => ?_)
              · have h20_45 := of_decide_eq_true hg142
                refine dx_u 47 (by kernel_rfl) rfl rfl rfl (fun w => y_fldb (o' := 8) rfl) ?_
                refine dx_y 48 (by kernel_rfl) rfl rfl rfl (fun w ⟨m, hw⟩ => D5 hw rfl) ?_
                refine dx_u 49 (by kernel_rfl) rfl rfl rfl (fun w => y_move rfl) ?_
                refine dx_u 50 (by kernel_rfl) rfl rfl rfl (fun w => y_move rfl) ?_
                refine dx_u 51 (by kernel_rfl) rfl rfl rfl (fun w => y_idx rfl rfl) ?_
                refine dx_y 52 (by kernel_rfl) rfl rfl rfl (fun w ⟨m, hw⟩ => y_e1 (x0 := 0) hw rfl) ?_
                refine dx_y 53 (by kernel_rfl) rfl rfl rfl (fun w ⟨m, hw⟩ => D2 (hp := (hkf.last (by omega)).1)) ?_
                refine dx_u 54 (by kernel_rfl) rfl rfl rfl (fun w => y_move rfl) ?_
                refine dx_u 55 (by kernel_rfl) rfl rfl rfl (fun w => y_fldb (o' := 10) rfl) ?_
                refine dx_y 56 (by kernel_rfl) rfl rfl rfl (fun w ⟨m, hw⟩ => D5 hw rfl) ?_
                refine dx_y 57 (by kernel_rfl) rfl rfl rfl (fun w ⟨m, hw⟩ => D2 (hp := (hkf.last (by omega)).2)) ?_
                refine dx_u 58 (by kernel_rfl) rfl rfl rfl (fun w => y_pick_f rfl rfl) ?_
                refine dx_u 59 (by kernel_rfl) rfl rfl rfl (fun w => y_pick_t rfl rfl) ?_
                refine dx_u 60 (by kernel_rfl) rfl rfl rfl (fun w => y_pick_f rfl rfl) ?_
                refine dx_end (by kernel_rfl) ?_
                refine K3 (L9 (K5 (K8 (K3 (K1 ?_)))))
                refine l_y rfl rfl (y_move rfl) ?_
                refine l_y rfl rfl (D4) ?_
                refine l_y rfl rfl (y_assign rfl) ?_
                refine K2 ?_
                exact q_next (j + 1) ⟨rfl, rfl, rfl, rfl, rfl, rfl, trivial⟩ ⟨hO.only [.o a13, .b b7, .p q9], trivial⟩ (by omega)
              · have h20_45 := of_decide_eq_false hg142
                refine dx_pass 47 (by kernel_rfl) rfl rfl rfl ?_
                refine dx_pass 48 (by kernel_rfl) rfl rfl rfl ?_
                refine dx_pass 49 (by kernel_rfl) rfl rfl rfl ?_
                refine dx_pass 50 (by kernel_rfl) rfl rfl rfl ?_
                refine dx_pass 51 (by kernel_rfl) rfl rfl rfl ?_
                refine dx_pass 52 (by kernel_rfl) rfl rfl rfl ?_
                refine dx_pass 53 (by kernel_rfl) rfl rfl rfl ?_
                refine dx_pass 54 (by kernel_rfl) rfl rfl rfl ?_
                refine dx_pass 55 (by kernel_rfl) rfl rfl rfl ?_
                refine dx_pass 56 (by kernel_rfl) rfl rfl rfl ?_
                refine dx_pass 57 (by kernel_rfl) rfl rfl rfl ?_
                refine dx_pass 58 (by kernel_rfl) rfl rfl rfl ?_
                refine dx_u 59 (by kernel_rfl) rfl rfl rfl (fun w => y_pick_f rfl rfl) ?_
                refine dx_u 60 (by kernel_rfl) rfl rfl rfl (fun w => y_pick_f rfl rfl) ?_
                refine dx_end (by kernel_rfl) ?_
                refine K3 (L9 (K5 (K8 (K3 (K1 ?_)))))
                refine l_y rfl rfl (y_move rfl) ?_
                refine l_y rfl rfl (D4) ?_
                refine l_y rfl rfl (y_assign rfl) ?_
                refine K2 ?_
                exact q_next (j + 1) ⟨rfl, rfl, rfl, rfl, rfl, rfl, trivial⟩ ⟨hO.only [.o a13, .b b7, .p q9], trivial⟩ (by omega)
            · have h20_28 := of_decide_eq_false hg125
              refine dx_pass 30 (by kernel_rfl) rfl rfl rfl ?_
              refine dx_pass 31 (by kernel_rfl) rfl rfl rfl ?_
              refine dx_pass 32 (by kernel_rfl) rfl rfl rfl ?_
              refine dx_pass 33 (by kernel_rfl) rfl rfl rfl ?_
              refine dx_pass 34 (by kernel_rfl) rfl rfl rfl ?_
              refine dx_pass 35 (by kernel_rfl) rfl rfl rfl ?_
              refine dx_pass 36 (by kernel_rfl) rfl rfl rfl ?_
              refine dx_pass 37 (by kernel_rfl) rfl rfl rfl ?_
              refine dx_u 38 (by kernel_rfl) rfl rfl rfl (fun w => y_pick_f rfl rfl) ?_
              refine dx_u 39 (by kernel_rfl) rfl rfl rfl (fun w => y_pick_f rfl rfl) ?_
              refine dx_u 40 (by kernel_rfl) rfl rfl rfl (fun w => y_move rfl) ?_
              refine dx_u 41 (by kernel_rfl) rfl rfl rfl (fun w => y_move rfl) ?_
              refine dx_u 42 (by kernel_rfl) rfl rfl rfl (fun w => y_move rfl) ?_
              refine dx_u 43 (by kernel_rfl) rfl rfl rfl (fun w => y_lenL rfl) ?_
              refine dx_u 44 (by kernel_rfl) rfl rfl rfl (fun w => D4) ?_
              refine dx_u 45 (by kernel_rfl) rfl rfl rfl (fun w => y_cmpI rfl rfl rfl) ?_
              refine dx_u 46 (by kernel_rfl) rfl rfl rfl (fun w => y_move rfl) ?_
              refine dx_split 142 rfl (fun hg142 => ?_) (fun hg142 => ?_)
              · have h20_45 := of_decide_eq_true hg142
                refine dx_u 47 (by kernel_rfl) rfl rfl rfl (fun w => y_fldb (o' := 8) rfl) ?_
                refine dx_y 48 (by kernel_rfl) rfl rfl rfl (fun w ⟨m, hw⟩ => D5 hw rfl) ?_
                refine dx_u 49 (by kernel_rfl) rfl rfl rfl (fun w => y_move rfl) ?_
                refine dx_u 50 (by kernel_rfl) rfl rfl rfl (fun w => y_move rfl) ?_
                refine dx_u 51 (by kernel_rfl) rfl rfl rfl (fun w => y_idx rfl rfl) ?_
                refine dx_y 52 (by kernel_rfl) rfl rfl rfl (fun w ⟨m, hw⟩ => y_e1 (x0 := 0) hw rfl) ?_
                refine dx_y 53 (by kernel_rfl) rfl rfl rfl (fun w ⟨m, hw⟩ => D2 (hp := (hkf.last (by omega)).1)) ?_
                refine dx_u 54 (by kernel_rfl) rfl rfl rfl (fun w => y_move rfl) ?_
                refine dx_u 55 (by kernel_rfl) rfl rfl rfl (fun w => y_fldb (o' := 10) rfl) ?_
                refine dx_y 56 (by kernel_rfl) rfl rfl rfl (fun w ⟨m, hw⟩ => D5 hw rfl) ?_
                refine dx_y 57 (by kernel_rfl) rfl rfl rfl (fun w ⟨m, hw⟩ => D2 (hp := (hkf.last (by omega)).2)) ?_
                refine dx_u 58 (by kernel_rfl) rfl rfl rfl (fun w => y_pick_f rfl rfl) ?_
                refine dx_u 59 (by kernel_rfl) rfl rfl rfl (fun w => y_pick_t rfl rfl) ?_
                refine dx_u 60 (by kernel_rfl) rfl rfl rfl (fun w => y_pick_f rfl rfl) ?_
                refine dx_end (by kernel_rfl) ?_
                refine K3 (L9 (K5 (K8 (K3 (K1 ?_)))))
                refine l_y rfl rfl (y_move rfl) ?_
                refine l_y rfl rfl (D4) ?_
                refine l_y rfl rfl (y_assign rfl) ?_
                refine K2 ?_
                exact q_next (j + 1) ⟨rfl, rfl, rfl, rfl, rfl, rfl, trivial⟩ ⟨hO.only [.o a13, .b b7, .p q9], trivial⟩ (by omega)
              · have h20_45 := of_decide_eq_false hg142
                refine dx_pass 47 (by kernel_rfl) rfl rfl rfl ?_
                refine dx_pass 48 (by kernel_rfl) rfl rfl rfl ?_
                refine dx_pass 49 (by kernel_rfl) rfl rfl rfl ?_
                refine dx_pass 50 (by kernel_rfl) rfl rfl rfl ?_
                refine dx_pass 51 (by kernel_rfl) rfl rfl rfl ?_
                refine dx_pass 52 (by kernel_rfl) rfl rfl rfl ?_
                refine dx_pass 53 (by kernel_rfl) rfl rfl rfl ?_
                refine dx_pass 54 (by kernel_rfl) rfl rfl rfl ?_
                refine dx_pass 55 (by kernel_rfl) rfl rfl rfl ?_
                refine dx_pass 56 (by kernel_rfl) rfl rfl rfl ?_
                refine dx_pass 57 (by kernel_rfl) rfl rfl rfl ?_
                refine dx_pass 58 (by kernel_rfl) rfl rfl rfl ?_
                refine dx_u 59 (by kernel_rfl) rfl rfl rfl (fun w => y_pick_f rfl rfl) ?_
                refine dx_u 60 (by kernel_rfl) rfl rfl rfl (fun w => y_pick_f rfl rfl) ?_
                refine dx_end (by kernel_rfl) ?_
                refine K3 (L9 (K5 (K8 (K3 (K1 ?_)))))
                refine l_y rfl rfl (y_move rfl) ?_
                refine l_y rfl rfl (D4) ?_
                refine l_y rfl rfl (y_assign rfl) ?_
                refine K2 ?_
                exact q_next (j + 1) ⟨rfl, rfl, rfl, rfl, rfl, rfl, trivial⟩ ⟨hO.only [.o a13, .b b7, .p q9], trivial⟩ (by omega)
          · have h20_10 := of_decide_eq_false hg107
            refine dx_pass 12 (by kernel_rfl) rfl rfl rfl ?_
            refine dx_pass 13 (by kernel_rfl) rfl rfl rfl ?_
            refine dx_pass 14 (by kernel_rfl) rfl rfl rfl ?_
            refine dx_pass 15 (by kernel_rfl) rfl rfl rfl ?_
            refine dx_pass 16 (by kernel_rfl) rfl rfl rfl ?_
            refine dx_pass 17 (by kernel_rfl) rfl rfl rfl ?_
            refine dx_pass 18 (by kernel_rfl) rfl rfl rfl ?_
            refine dx_pass 19 (by kernel_rfl) rfl rfl rfl ?_
            refine dx_pass 20 (by kernel_rfl) rfl rfl rfl ?_
            refine dx_pass 21 (by kernel_rfl) rfl rfl rfl ?_
            refine dx_pass 22 (by kernel_rfl) rfl rfl rfl ?_
            refine dx_pass 23 (by kernel_rfl) rfl rfl rfl ?_
            refine dx_u 24 (by kernel_rfl) rfl rfl rfl (fun w => y_pick_f rfl rfl) ?_
            refine dx_u 25 (by kernel_rfl) rfl rfl rfl (fun w => y_pick_f rfl rfl) ?_
            refine dx_u 26 (by kernel_rfl) rfl rfl rfl (fun w => y_move rfl) ?_
            refine dx_u 27 (by kernel_rfl) rfl rfl rfl (fun w => y_move rfl) ?_
            refine dx_u 28 (by kernel_rfl) rfl rfl rfl (fun w => y_cmpI rfl rfl rfl) ?_
            refine dx_u 29 (by kernel_rfl) rfl rfl rfl (fun w => y_move rfl) ?_
            refine dx_split 125 rfl (fun hg125 => ?_) (fun hg125 => ?_)
            · have h20_28 := of_decide_eq_true hg125
              refine dx_u 30 (by kernel_rfl) rfl rfl rfl (fun w => y_fldb (o' := 9) rfl) ?_
              refine dx_y 31 (by kernel_rfl) rfl rfl rfl (fun w ⟨m, hw⟩ => D5 hw rfl) ?_
              refine dx_u 32 (by kernel_rfl) rfl rfl rfl (fun w => y_move rfl) ?_
              refine dx_u 33 (by kernel_rfl) rfl rfl rfl (fun w => y_move rfl) ?_
              refine dx_u 34 (by kernel_rfl) rfl rfl rfl (fun w => D4) ?_
              refine dx_u 35 (by kernel_rfl) rfl rfl rfl (fun w => y_idx rfl rfl) ?_
              refine dx_y 36 (by kernel_rfl) rfl rfl rfl (fun w ⟨m, hw⟩ => y_e1 (x0 := 0) hw rfl) ?_
              refine dx_y 37 (by kernel_rfl) rfl rfl rfl (fun w ⟨m, hw⟩ => D2 (hp := (by rw [show ((j : Int) - 1).toNat = j - 1 by omega]; exact hkf.prev (by omega)))) ?_
              refine dx_u 38 (by kernel_rfl) rfl rfl rfl (fun w => y_pick_t rfl rfl) ?_
              refine dx_u 39 (by kernel_rfl) rfl rfl rfl (fun w => y_pick_f rfl rfl) ?_
              refine dx_u 40 (by kernel_rfl) rfl rfl rfl (fun w => y_move rfl) ?_
              refine dx_u 41 (by kernel_rfl) rfl rfl rfl (fun w => y_move rfl) ?_
              refine dx_u 42 (by kernel_rfl) rfl rfl rfl (fun w => y_move rfl) ?_
              refine dx_u 43 (by kernel_rfl) rfl rfl rfl (fun w => y_lenL rfl) ?_
              refine dx_u 44 (by kernel_rfl) rfl rfl rfl (fun w => D4) ?_
              refine dx_u 45 (by kernel_rfl) rfl rfl rfl (fun w => y_cmpI rfl rfl rfl) ?_
              refine dx_u 46 (by kernel_rfl) rfl rfl rfl (fun w => y_move rfl) ?_
              refine dx_split 142 rfl (fun hg142 => ?_) (fun hg142 => ?_)
              · have h20_45 := of_decide_eq_true hg142
                refine dx_u 47 (by kernel_rfl) rfl rfl rfl (fun w => y_fldb (o' := 8) rfl) ?_
                refine dx_y 48 (by kernel_rfl) rfl rfl rfl (fun w ⟨m, hw⟩ => D5 hw rfl) ?_
                refine dx_u 49 (by kernel_rfl) rfl rfl rfl (fun w => y_move rfl) ?_
                refine dx_u 50 (by kernel_rfl) rfl rfl rfl (fun w => y_move rfl) ?_
                refine dx_u 51 (by kernel_rfl) rfl rfl rfl (fun w => y_idx rfl rfl) ?_
                refine dx_y 52 (by kernel_rfl) rfl rfl rfl (fun w ⟨m, hw⟩ => y_e1 (x0 := 0) hw rfl) ?_
                refine dx_y 53 (by kernel_rfl) rfl rfl rfl (fun w ⟨m, hw⟩ => D2 (hp := (hkf.last (by omega)).1)) ?_
                refine dx_u 54 (by kernel_rfl) rfl rfl rfl (fun w => y_move rfl) ?_
                refine dx_u 55 (by kernel_rfl) rfl rfl rfl (fun w => y_fldb (o' := 10) rfl) ?_
                refine dx_y 56 (by kernel_rfl) rfl rfl rfl (fun w ⟨m, hw⟩ => D5 hw rfl) ?_
                refine dx_y 57 (by kernel_rfl) rfl rfl rfl (fun w ⟨m, hw⟩ => D2 (hp := (hkf.last (by omega)).2)) ?_
                refine dx_u 58 (by kernel_rfl) rfl rfl rfl (fun w => y_pick_f rfl rfl) ?_
                refine dx_u 59 (by kernel_rfl) rfl rfl rfl (fun w => y_pick_t rfl rfl) ?_
                refine dx_u 60 (by kernel_rfl) rfl rfl rfl (fun w => y_pick_f rfl rfl) ?_
                refine dx_end (by kernel_rfl) ?_
                refine K3 (L9 (K5 (K8 (K3 (K1 ?_)))))
                refine l_y rfl rfl (y_move rfl) ?_
                refine l_y rfl rfl (D4) ?_
                refine l_y rfl rfl (y_assign rfl) ?_
                refine K2 ?_
                exact q_next (j + 1) ⟨rfl, rfl, rfl, rfl, rfl, rfl, trivial⟩ ⟨hO.only [.o a13, .b b7, .p q9], trivial⟩ (by omega)
              · have h20_45 := of_decide_eq_false hg142
                refine dx_pass 47 (by kernel_rfl) rfl rfl rfl ?_
                refine dx_pass 48 (by kernel_rfl) rfl rfl rfl ?_
                refine dx_pass 49 (by kernel_rfl) rfl rfl rfl ?_
                refine dx_pass 50 (by kernel_rfl) rfl rfl rfl ?_
                refine dx_pass 51 (by kernel_rfl) rfl rfl rfl ?_
                refine dx_pass 52 (by kernel_rfl) rfl rfl rfl ?_
                refine dx_pass 53 (by kernel_rfl) rfl rfl rfl ?_
                refine dx_pass 54 (by kernel_rfl) rfl rfl rfl ?_
                refine dx_pass 55 (by kernel_rfl) rfl rfl rfl ?_
                refine dx_pass 56 (by kernel_rfl) rfl rfl rfl ?_
                refine dx_pass 57 (by kernel_rfl) rfl rfl rfl ?_
                refine dx_pass 58 (by kernel_rfl) rfl rfl rfl ?_
                refine dx_u 59 (by kernel_rfl) rfl rfl rfl (fun w => y_pick_f rfl rfl) ?_
                refine dx_u 60 (by kernel_rfl) rfl rfl rfl (fun w => y_pick_f rfl rfl) ?_
                refine dx_end (by kernel_rfl) ?_
                refine K3 (L9 (K5 (K8 (K3 (K1 ?_)))))
                refine l_y rfl rfl (y_move rfl) ?_
                refine l_y rfl rfl (D4) ?_
                refine l_y rfl rfl (y_assign rfl) ?_
                refine K2 ?_
                exact q_next (j + 1) ⟨rfl, rfl, rfl, rfl, rfl, rfl, trivial⟩ ⟨hO.only [.o a13, .b b7, .p q9], trivial⟩ (by omega)
            · have h20_28 := of_decide_eq_false hg125
              refine dx_pass 30 (by kernel_rfl) rfl rfl rfl ?_
              refine dx_pass 31 (by kernel_rfl) rfl rfl rfl ?_
              refine dx_pass 32 (by kernel_rfl) rfl rfl rfl ?_
              refine dx_pass 33 (by kernel_rfl) rfl rfl rfl ?_
              refine dx_pass 34 (by kernel_rfl) rfl rfl rfl ?_
              refine dx_pass 35 (by kernel_rfl) rfl rfl rfl ?_
              refine dx_pass 36 (by kernel_rfl) rfl rfl rfl ?_
              refine dx_pass 37 (by kernel_rfl) rfl rfl rfl ?_
              refine dx_u 38 (by kernel_rfl) rfl rfl rfl (fun w => y_pick_f rfl rfl) ?_
              refine dx_u 39 (by kernel_rfl) rfl rfl rfl (fun w => y_pick_f rfl rfl) ?_
              refine dx_u 40 (by kernel_rfl) rfl rfl rfl (fun w => y_move rfl) ?_
              refine dx_u 41 (by kernel_rfl) rfl rfl rfl (fun w => y_move rfl) ?_
              refine dx_u 42 (by kernel_rfl) rfl rfl rfl (fun w => y_move rfl) ?_
              refine dx_u 43 (by kernel_rfl) rfl rfl rfl (fun w => y_lenL rfl) ?_
              refine dx_u 44 (by kernel_rfl) rfl rfl rfl (fun w => D4) ?_
              refine dx_u 45 (by kernel_rfl) rfl rfl rfl (fun w => y_cmpI rfl rfl rfl) ?_
              refine dx_u 46 (by kernel_rfl) rfl rfl rfl (fun w => y_move rfl) ?_
              refine dx_split 142 rfl (fun hg142 => ?_) (fun hg142 => ?_)
              · have h20_45 := of_decide_eq_true hg142
                refine dx_u 47 (by kernel_rfl) rfl rfl rfl (fun w => y_fldb (o' := 8) rfl) ?_
                refine dx_y 48 (by kernel_rfl) rfl rfl rfl (fun w ⟨m, hw⟩ => D5 hw rfl) ?_
                refine dx_u 49 (by kernel_rfl) rfl rfl rfl (fun w => y_move rfl) ?_
                refine dx_u 50 (by kernel_rfl) rfl rfl rfl (fun w => y_move rfl) ?_
                refine dx_u 51 (by kernel_rfl) rfl rfl rfl (fun w => y_idx rfl rfl) ?_
                refine dx_y 52 (by kernel_rfl) rfl rfl rfl (fun w ⟨m, hw⟩ => y_e1 (x0 := 0) hw rfl) ?_
                refine dx_y 53 (by kernel_rfl) rfl rfl rfl (fun w ⟨m, hw⟩ => D2 (hp := (hkf.last (by omega)).1)) ?_
                refine dx_u 54 (by kernel_rfl) rfl rfl rfl (fun w => y_move rfl) ?_
                refine dx_u 55 (by kernel_rfl) rfl rfl rfl (fun w => y_fldb (o' := 10) rfl) ?_
                refine dx_y 56 (by kernel_rfl) rfl rfl rfl (fun w ⟨m, hw⟩ => D5 hw rfl) ?_
                refine dx_y 57 (by kernel_rfl) rfl rfl rfl (fun w ⟨m, hw⟩ => D2 (hp := (hkf.last (by omega)).2)) ?_
                refine dx_u 58 (by kernel_rfl) rfl rfl rfl (fun w => y_pick_f rfl rfl) ?_
                refine dx_u 59 (by kernel_rfl) rfl rfl rfl (fun w => y_pick_t rfl rfl) ?_
                refine dx_u 60 (by kernel_rfl) rfl rfl rfl (fun w => y_pick_f rfl rfl) ?_
                refine dx_end (by kernel_rfl) ?_
                refine K3 (L9 (K5 (K8 (K3 (K1 ?_)))))
                refine l_y rfl rfl (y_move rfl) ?_
                refine l_y rfl rfl (D4) ?_
                refine l_y rfl rfl (y_assign rfl) ?_
                refine K2 ?_
                exact q_next (j + 1) ⟨rfl, rfl, rfl, rfl, rfl, rfl, trivial⟩ ⟨hO.only [.o a13, .b b7, .p q9], trivial⟩ (by omega)
              · have h20_45 := of_decide_eq_false hg142
                refine dx_pass 47 (by kernel_rfl) rfl rfl rfl ?_
                refine dx_pass 48 (by kernel_rfl) rfl rfl rfl ?_
                refine dx_pass 49 (by kernel_rfl) rfl rfl rfl ?_
                refine dx_pass 50 (by kernel_rfl) rfl rfl rfl ?_
                refine dx_pass 51 (by kernel_rfl) rfl rfl rfl ?_
                refine dx_pass 52 (by kernel_rfl) rfl rfl rfl ?_
                refine dx_pass 53 (by kernel_rfl) rfl rfl rfl ?_
                refine dx_pass 54 (by kernel_rfl) rfl rfl rfl ?_
                refine dx_pass 55 (by kernel_rfl) rfl rfl rfl ?_
                refine dx_pass 56 (by kernel_rfl) rfl rfl rfl ?_
                refine dx_pass 57 (by kernel_rfl) rfl rfl rfl ?_
                refine dx_pass 58 (by kernel_rfl) rfl rfl rfl ?_
                refine dx_u 59 (by kernel_rfl) rfl rfl rfl (fun w => y_pick_f rfl rfl) ?_
                refine dx_u 60 (by kernel_rfl) rfl rfl rfl (fun w => y_pick_f rfl rfl) ?_
                refine dx_end (by kernel_rfl) ?_
                refine K3 (L9 (K5 (K8 (K3 (K1 ?_)))))
                refine l_y rfl rfl (y_move rfl) ?_
                refine l_y rfl rfl (D4) ?_
                refine l_y rfl rfl (y_assign rfl) ?_
                refine K2 ?_
                exact q_next (j + 1) ⟨rfl, rfl, rfl, rfl, rfl, rfl, trivial⟩ ⟨hO.only [.o a13, .b b7, .p q9], trivial⟩ (by omega)
        · refine K2 (K3 (L9 (K7 (L1 (L1 (L2 (K8 (K3 (K1 ?_)))))))))
          refine l_y rfl rfl (y_move rfl) ?_
          refine l_y rfl rfl (D4) ?_
          refine l_y rfl rfl (y_assign rfl) ?_
          refine K2 ?_
          exact q_next (i + 1) ⟨rfl, rfl, rfl, trivial⟩ ⟨hO.only [.o a13], trivial⟩ (by omega)
    · refine K2 (K3 (L9 (K7 (L1 (L1 (L2 (K3 (K0 (K1 ?_)))))))))
      refine CK [] hO rfl (fun k' hx hr hO' => awake_spec (hO := hO')) ?_
      rintro _ _ w ⟨rfl, rfl⟩ hO
      simp only [List.cons_append, List.nil_append] at hO
      refine l_y rfl rfl (y_assign rfl) ?_
      refine K2 (K3 (K6 ?_))
      exact fin1 rfl rfl ⟨_, rfl, hO⟩
end Go.Proofs.Ytnolpajggmfpdaa
