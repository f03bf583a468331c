/- The walks of the answer's text: one, Inner. -/
import Derived.Test.YthkmnohghpdjhaaWtx6
set_option linter.unusedVariables false
set_option linter.unusedSimpArgs false
set_option maxRecDepth 100000
namespace Go.Proofs.Ythkmnohghpdjhaa
open Go Go.Hb Go.RowKit
section
variable {k : Ctx} {w : World}
theorem preT_zero {n : Api_node} : [60] ++ tl n.Name = preT n 0 := by simp [preT, attrsT]
theorem preT_next {n : Api_node} {i : Nat} (hi : i < n.Attrs.length) : preT n i ++ [32] ++ tl (shownS (at_ n.Attrs i)) ++ [61, 34] ++ esc true (tl (at_ n.Attrs i).Value) ++ [34] = preT n (i + 1) := by
  rw [preT, preT, attrsT, attrsT, flat_take hi, attrT]; simp
theorem preT_len {n : Api_node} (h : TextN n) (ha : n.Attrs.length ≤ 1024) (i : Nat) : (preT n i).length ≤ 7517251585 := by
  have h1 := attrsT_len (l := n.Attrs.take i) (by
    have e2 : n.Attrs = n.Attrs.take i ++ n.Attrs.drop i := by rw [List.take_append_drop]
    have hna := h.attrs
    rw [show attrTexts n.Attrs = attrTexts (n.Attrs.take i ++ n.Attrs.drop i) from congrArg _ e2, attrTexts, List.flatMap_append, long_app, Bool.or_eq_false_iff] at hna
    exact hna.1)
  have h2 : (n.Attrs.take i).length ≤ 1024 := by rw [List.length_take]; omega
  have := Nat.mul_le_mul_left 7340042 h2
  have := h.name
  have e := tl_len n.Name
  simp only [preT, List.length_append, List.length_cons, List.length_nil]
  omega
theorem attr_text {n : Api_node} (h : TextN n) {i : Nat} (hi : i < n.Attrs.length) : (at_ n.Attrs i).Name.size ≤ 1048576 ∧ (at_ n.Attrs i).Value.size ≤ 1048576 := by
  have e : attrTexts n.Attrs = attrTexts (n.Attrs.take i) ++ ([(at_ n.Attrs i).Prefix, (at_ n.Attrs i).Name, (at_ n.Attrs i).Value] ++ attrTexts (n.Attrs.drop (i + 1))) := by
    have e2 : n.Attrs = n.Attrs.take i ++ at_ n.Attrs i :: n.Attrs.drop (i + 1) := by rw [← Go.Hb.drop_at hi, List.take_append_drop]
    rw [show attrTexts n.Attrs = attrTexts (n.Attrs.take i ++ at_ n.Attrs i :: n.Attrs.drop (i + 1)) from congrArg _ e2]
    simp [attrTexts]
  have hna := h.attrs
  rw [e, long_app, long_app, Bool.or_eq_false_iff, Bool.or_eq_false_iff] at hna
  exact ⟨long_mem (s := (at_ n.Attrs i).Name) hna.2.1 (by simp), long_mem (s := (at_ n.Attrs i).Value) hna.2.1 (by simp)⟩
set_option maxHeartbeats 4000000 in
theorem rone_spec {A : List Node_one} {K : Int → List Int} {R : List Ref01_one} {r : Nat} {p : Option Addr} {c : Nat} {F : Pl} {sc : Bool} {f : Nat} (t : RArg A K R p F) (ih : OneP A K R r p c F sc f) {id up : Int} (hi : InA A id) (hu : InA A up) (hk : 1 ≤ (nodeA A id).Kind ∧ (nodeA A id).Kind ≤ 4) (hf : cnt A id ≤ f + 1) (hO : Own k w (rOpen r p c F R)) :
    Tri Try.prog 81 #[.pointer (some ⟨r, 0, none⟩), .int .i64 id, .int .i64 up, .bool sc] k w fun v m => v = .string (ba (outT A K sc (f + 1) (rawN sc (nodeA A up)) id)) ∧ m = rOpen r p c F R := by
  refine enter (args := [.pointer (some ⟨r, 0, none⟩), .int .i64 id, .int .i64 up, .bool sc]) Try.func81 rfl rfl ?_
  have hg := t.gs
  have hl := t.sim.len
  have hi1 := hi.1
  have hi2 := hi.2
  have hu1 := hu.1
  have hu2 := hu.2
  have hs := t.sim.one id hi
  have hsu := t.sim.one up hu
  have hmax := t.max
  have hx := t.tx.text id hi
  have hla : (nodeA A id).Attrs.length ≤ 1024 := t.tx.tree.attrs id.toNat (by omega)
  have hnd := hx.data
  have hnn := hx.name
  have hsd : (at_ R (id : Int).toNat).Data.size ≤ 1048576 := by rw [hs.data]; exact hnd
  have hattrs := (t.rf.atR (i := id.toNat) (by omega)).attrs
  have hgk := sli_gs hattrs
  have hal : (at_ R id.toNat).Attrs.length = (nodeA A id).Attrs.length := by rw [hs.attrs]
  have e1 := tl_len (nodeA A id).Name
  have e2 := tl_len (nodeA A id).Data
  have hCT : CT = 8589934592 := rfl
  refine K0 (K1 ?_)
  refine l_y rfl rfl (y_assign rfl) ?_
  refine K2 (K3 (K0 (K1 ?_)))
  refine l_y rfl rfl (y_move rfl) ?_
  refine l_y rfl rfl (y_nilCheck rfl rfl) ?_
  refine l_y rfl rfl (y_fldb (o' := 0) rfl) ?_
  refine l_y rfl rfl (D5 hO rfl) ?_
  refine l_y rfl rfl (y_move rfl) ?_
  refine l_y rfl rfl (y_idx rfl rfl) ?_
  refine l_y rfl rfl (y_eA (x0 := 0) (cs := [.int .i64 (at_ R (id : Int).toNat).Kind, .int .i64 (at_ R (id : Int).toNat).Space, .string (at_ R (id : Int).toNat).Name, .slice (at_ R (id : Int).toNat).AttrsP (at_ R (id : Int).toNat).Attrs.length (at_ R (id : Int).toNat).AttrsC, .string (at_ R (id : Int).toNat).Data, .string (at_ R (id : Int).toNat).System, .int .i64 (at_ R (id : Int).toNat).Inner, .int .i64 (at_ R (id : Int).toNat).Host, .int .i64 (at_ R (id : Int).toNat).Up, .slice (at_ R (id : Int).toNat).KidsP (at_ R (id : Int).toNat).Kids.length (at_ R (id : Int).toNat).KidsC]) hO rfl) ?_
  refine s_alloc (vs := [.int .i64 0, .int .i64 0, .string ⟨#[]⟩, .slice none 0 0, .string ⟨#[]⟩, .string ⟨#[]⟩, .int .i64 0, .int .i64 0, .int .i64 0, .slice none 0 0]) hO rfl rfl rfl fun b9 w hO => ?_
  refine Y3 hO rfl rfl (fun w hO => ?_)
  refine K2 (K3 (K0 (K0 (K1 ?_))))
  refine l_y rfl rfl (y_fldb (o' := 0) rfl) ?_
  refine l_y rfl rfl (D5 hO rfl) ?_
  refine K2 (K3 (K4 (K0 (K1 ?_))))
  refine Z0 (fun h3_0 => ?_) (fun h3_0 => ?_)
  · refine l_y rfl rfl (y_assign rfl) ?_
    refine K2 (K3 (L8 (K0 (K1 ?_))))
    refine l_y rfl rfl (y_move rfl) ?_
    refine l_y rfl rfl (y_nilCheck rfl rfl) ?_
    refine l_y rfl rfl (y_fldb (o' := 0) rfl) ?_
    refine l_y rfl rfl (D5 hO rfl) ?_
    refine l_y rfl rfl (y_move rfl) ?_
    refine l_y rfl rfl (y_idx rfl rfl) ?_
    refine l_y rfl rfl (y_eA (x0 := 0) (cs := [.int .i64 (at_ R (up : Int).toNat).Kind, .int .i64 (at_ R (up : Int).toNat).Space, .string (at_ R (up : Int).toNat).Name, .slice (at_ R (up : Int).toNat).AttrsP (at_ R (up : Int).toNat).Attrs.length (at_ R (up : Int).toNat).AttrsC, .string (at_ R (up : Int).toNat).Data, .string (at_ R (up : Int).toNat).System, .int .i64 (at_ R (up : Int).toNat).Inner, .int .i64 (at_ R (up : Int).toNat).Host, .int .i64 (at_ R (up : Int).toNat).Up, .slice (at_ R (up : Int).toNat).KidsP (at_ R (up : Int).toNat).Kids.length (at_ R (up : Int).toNat).KidsC]) hO rfl) ?_
    refine s_alloc (vs := [.int .i64 0, .int .i64 0, .string ⟨#[]⟩, .slice none 0 0, .string ⟨#[]⟩, .string ⟨#[]⟩, .int .i64 0, .int .i64 0, .int .i64 0, .slice none 0 0]) hO rfl rfl rfl fun b10 w hO => ?_
    refine Y3 hO rfl rfl (fun w hO => ?_)
    refine K2 (K3 ?_)
    refine c_cut (X := Unit) (fun u => [(0, .pointer (some ⟨r, 0, none⟩)), (1, .int .i64 id), (3, .bool sc), (8, .string ⟨#[]⟩), (9, .pointer (some ⟨b9, 0, none⟩))]) (fun u w => Own k w [rB r p R.length c, rS p c R, pool F, blk b9 129 (Ref01_one.cells (at_ R (id : Int).toNat))] ∧ (rawN sc (nodeA A up) = false)) ?_ ?_
    · refine K0 (K1 ?_)
      refine l_y rfl rfl (y_fldb (o' := 0) rfl) ?_
      refine l_y rfl rfl (D5 hO rfl) ?_
      refine Z0 (fun h5_2 => ?_) (fun h5_2 => ?_)
      · refine l_y rfl rfl (y_move rfl) ?_
        refine l_y rfl rfl (y_fldb (o' := 1) rfl) ?_
        refine l_y rfl rfl (D5 hO rfl) ?_
        refine Z0 (fun h5_6 => ?_) (fun h5_6 => ?_)
        · refine l_y rfl rfl (y_pick_t rfl rfl) ?_
          refine l_y rfl rfl (y_move rfl) ?_
          refine l_y rfl rfl (y_fldb (o' := 2) rfl) ?_
          refine l_y rfl rfl (D5 hO rfl) ?_
          refine l_y rfl rfl (y_move rfl) ?_
          refine CK [] hO rfl (fun k' hx hr hO' => RPlain_spec hO') ?_
          rintro _ _ w ⟨rfl, rfl⟩ hO
          simp only [List.cons_append, List.nil_append] at hO
          refine l_y rfl rfl (y_pick_t rfl rfl) ?_
          refine K2 (K3 ?_)
          refine c_split rfl (fun hc44 => ?_) (fun hc44 => ?_)
          · refine K0 (K1 ?_)
            refine l_y rfl rfl (y_fldb (o' := 4) rfl) ?_
            refine l_y rfl rfl (D5 hO rfl) ?_
            refine l_y rfl rfl (y_assign rfl) ?_
            refine K2 (K3 (K6 (K9 (L0 (K9 ?_)))))
            have hv : rawN sc (nodeA A up) = true := by
              rw [rawN, ← sim_html hsu, h5_2, h5_6, hc44]; rfl
            have e : outT A K sc (f + 1) (rawN sc (nodeA A up)) id = tl (nodeA A id).Data := by rw [outT, if_pos (by rw [← hs.kind]; exact h3_0), if_pos hv]
            exact fin1 rfl rfl ⟨_, ⟨by rw [e, ← hs.data, ba_tl], rfl⟩, hO.only [.b r, .p p, .f]⟩
          · refine K5 ?_
            exact q_cut (()) ⟨rfl, rfl, rfl, rfl, rfl, trivial⟩ ⟨hO.only [.b r, .p p, .f, .b b9], (by rw [rawN, ← sim_html hsu]; first | (rw [hc44]; simp) | (simp only [Bool.and_eq_false_iff, decide_eq_false_iff_not]; first | exact .inl (.inr h5_6) | exact .inl (.inl h5_2)))⟩
        · refine l_y rfl rfl (y_pick_t rfl rfl) ?_
          refine l_y rfl rfl (y_move rfl) ?_
          repeat refine M2 ?_
          refine l_y rfl rfl (y_pick_f rfl rfl) ?_
          refine K2 (K3 (L9 (K5 ?_)))
          exact q_cut (()) ⟨rfl, rfl, rfl, rfl, rfl, trivial⟩ ⟨hO.only [.b r, .p p, .f, .b b9], (by rw [rawN, ← sim_html hsu]; first | (rw [hc44]; simp) | (simp only [Bool.and_eq_false_iff, decide_eq_false_iff_not]; first | exact .inl (.inr h5_6) | exact .inl (.inl h5_2)))⟩
      · refine l_y rfl rfl (y_move rfl) ?_
        repeat refine M2 ?_
        refine l_y rfl rfl (y_pick_f rfl rfl) ?_
        refine l_y rfl rfl (y_move rfl) ?_
        repeat refine M2 ?_
        refine l_y rfl rfl (y_pick_f rfl rfl) ?_
        refine K2 (K3 (L9 (K5 ?_)))
        exact q_cut (()) ⟨rfl, rfl, rfl, rfl, rfl, trivial⟩ ⟨hO.only [.b r, .p p, .f, .b b9], (by rw [rawN, ← sim_html hsu]; first | (rw [hc44]; simp) | (simp only [Bool.and_eq_false_iff, decide_eq_false_iff_not]; first | exact .inl (.inr h5_6) | exact .inl (.inl h5_2)))⟩
    · rintro u w ⟨hO, hv⟩
      refine K0 (K1 ?_)
      refine l_y rfl rfl (y_fldb (o' := 4) rfl) ?_
      refine l_y rfl rfl (D5 hO rfl) ?_
      refine CK [] hO rfl (fun k' hx hr hO' => rEscB_spec (by omega) hO') ?_
      rintro _ _ w ⟨rfl, rfl⟩ hO
      simp only [List.cons_append, List.nil_append] at hO
      refine l_y rfl rfl (y_assign rfl) ?_
      refine K2 (K3 (K6 (L0 (K9 ?_))))
      have e : outT A K sc (f + 1) (rawN sc (nodeA A up)) id = esc false (tl (nodeA A id).Data) := by rw [outT, if_pos (by rw [← hs.kind]; exact h3_0), hv, if_neg (by simp)]
      exact fin1 rfl rfl ⟨_, ⟨by rw [e, ← hs.data]; exact congrArg _ (ba_eq (tl_escB _ _)), rfl⟩, hO.only [.b r, .p p, .f]⟩
  · refine l_y rfl rfl (y_assign rfl) ?_
    refine K2 (K3 (L9 (K0 (K1 ?_))))
    refine Z0 (fun h8_0 => ?_) (fun h8_0 => ?_)
    · refine l_y rfl rfl (y_assign rfl) ?_
      refine K2 (K3 (L8 (K0 (K1 ?_))))
      refine l_y rfl rfl (y_fldb (o' := 4) rfl) ?_
      refine l_y rfl rfl (D5 hO rfl) ?_
      refine l_y rfl rfl (y_catB rfl rfl (X := [60, 33, 45, 45]) (Y := tl (nodeA A id).Data) rfl (by rw [hs.data]) (by simp only [List.length_cons, List.length_nil]; omega)) ?_
      refine l_y rfl rfl (y_catB rfl rfl (Y := [45, 45, 62]) (tl_ba _) rfl (by simp only [List.length_append, List.length_cons, List.length_nil]; omega)) ?_
      refine l_y rfl rfl (y_assign rfl) ?_
      refine K2 (K3 (K6 (L0 (K9 ?_))))
      have e : outT A K sc (f + 1) (rawN sc (nodeA A up)) id = [60, 33, 45, 45] ++ tl (nodeA A id).Data ++ [45, 45, 62] := by rw [outT, if_neg (by rw [← hs.kind]; exact h3_0), if_pos (by rw [← hs.kind]; exact h8_0)]
      exact fin1 rfl rfl ⟨_, ⟨by rw [e], rfl⟩, hO.only [.b r, .p p, .f]⟩
    · refine l_y rfl rfl (y_assign rfl) ?_
      refine K2 (K3 (L9 (K0 (K1 ?_))))
      refine Z0 (fun h10_0 => ?_) (fun h10_0 => ?_)
      · refine l_y rfl rfl (y_assign rfl) ?_
        refine K2 (K3 (L8 (K0 (K1 ?_))))
        refine l_y rfl rfl (y_fldb (o' := 2) rfl) ?_
        refine l_y rfl rfl (D5 hO rfl) ?_
        refine l_y rfl rfl (y_catB rfl rfl (X := [60, 33, 68, 79, 67, 84, 89, 80, 69, 32]) (Y := tl (nodeA A id).Name) rfl (by rw [hs.name]) (by simp only [List.length_cons, List.length_nil]; omega)) ?_
        refine l_y rfl rfl (y_catB rfl rfl (Y := [62]) (tl_ba _) rfl (by simp only [List.length_append, List.length_cons, List.length_nil]; omega)) ?_
        refine l_y rfl rfl (y_assign rfl) ?_
        refine K2 (K3 (K6 (L0 (K9 ?_))))
        have e : outT A K sc (f + 1) (rawN sc (nodeA A up)) id = [60, 33, 68, 79, 67, 84, 89, 80, 69, 32] ++ tl (nodeA A id).Name ++ [62] := by rw [outT, if_neg (by rw [← hs.kind]; exact h3_0), if_neg (by rw [← hs.kind]; exact h8_0), if_pos (by rw [← hs.kind]; exact h10_0)]
        exact fin1 rfl rfl ⟨_, ⟨by rw [e], rfl⟩, hO.only [.b r, .p p, .f]⟩
      · refine l_y rfl rfl (y_assign rfl) ?_
        refine K2 (K3 (L9 (K5 (K8 (K3 (K0 ?_))))))
        have hk1 : (nodeA A id).Kind = 1 := by
          have g1 : (nodeA A id).Kind ≠ 2 := by rw [← hs.kind]; exact h3_0
          have g2 : (nodeA A id).Kind ≠ 3 := by rw [← hs.kind]; exact h8_0
          have g3 : (nodeA A id).Kind ≠ 4 := by rw [← hs.kind]; exact h10_0
          omega
        refine K1 ?_
        refine l_y rfl rfl (y_fldb (o' := 2) rfl) ?_
        refine l_y rfl rfl (D5 hO rfl) ?_
        refine l_y rfl rfl (y_catB rfl rfl (X := [60]) (Y := tl (nodeA A id).Name) rfl (by rw [hs.name]) (by simp only [List.length_cons, List.length_nil]; omega)) ?_
        rw [preT_zero]
        refine l_y rfl rfl (y_assign rfl) ?_
        refine K2 (K3 (K0 (K0 (K1 ?_))))
        refine l_y rfl rfl (y_assign rfl) ?_
        refine K2 (K3 (K4 ?_))
        refine c_rounds (X := Nat) (fun i => [(0, .pointer (some ⟨r, 0, none⟩)), (1, .int .i64 id), (3, .bool sc), (8, .string ⟨#[]⟩), (9, .pointer (some ⟨b9, 0, none⟩)), (11, .string (ba (preT (nodeA A id) i))), (12, .int .i64 (i : Int))]) (fun i w => Own k w [rB r p R.length c, rS p c R, pool F, blk b9 129 (Ref01_one.cells (at_ R (id : Int).toNat))] ∧ (i ≤ (nodeA A id).Attrs.length)) (fun i => (nodeA A id).Attrs.length - i) (0) ⟨rfl, rfl, rfl, rfl, rfl, rfl, rfl, trivial⟩ ⟨hO.only [.b r, .p p, .f, .b b9], Nat.zero_le _⟩ ?_
        rintro i w m hm ⟨hO, hil⟩
        refine K0 (K0 (K1 ?_))
        refine l_y rfl rfl (y_move rfl) ?_
        refine l_y rfl rfl (y_fldb (o' := 3) rfl) ?_
        refine l_y rfl rfl (D5 hO rfl) ?_
        refine l_y rfl rfl (y_lenL rfl) ?_
        refine Z0 (fun h14_4 => ?_) (fun h14_4 => ?_)
        · refine K2 (K3 (L8 (K5 (K3 (K0 (K4 ?_))))))
          have hpl := preT_len hx hla i
          obtain ⟨hxn, hxv⟩ := attr_text hx (i := i) (by omega)
          have hxs := shownS_len (at_ (nodeA A id).Attrs i)
          have hxe := escB_size true (at_ (nodeA A id).Attrs i).Value
          have hea : at_ (at_ R (id : Int).toNat).Attrs (i : Int).toNat = at_ (nodeA A id).Attrs i := by rw [hs.attrs]; rfl
          have hts := tl_len (shownS (at_ (nodeA A id).Attrs i))
          have hte := tl_len (escB true (at_ (nodeA A id).Attrs i).Value)
          rw [tl_escB] at hte
          refine da_region (by intro c a d v w h; cases d <;> exact h) ?_
          have hO := hO.drew
          refine da_phase _ [] (SO.ks [.b b9, .f] hO) ?_
          refine dx_u 0 (by kernel_rfl) rfl rfl rfl (fun w => y_move rfl) ?_
          refine dx_y 1 (by kernel_rfl) rfl rfl rfl (fun w ⟨m, hw⟩ => y_catB rfl rfl (Y := [32]) (tl_ba _) rfl (by simp only [List.length_cons, List.length_nil]; omega)) ?_
          refine dx_u 2 (by kernel_rfl) rfl rfl rfl (fun w => y_fldb (o' := 3) rfl) ?_
          refine dx_y 3 (by kernel_rfl) rfl rfl rfl (fun w ⟨m, hw⟩ => D5 hw rfl) ?_
          refine dx_u 4 (by kernel_rfl) rfl rfl rfl (fun w => y_move rfl) ?_
          refine dx_u 5 (by kernel_rfl) rfl rfl rfl (fun w => y_idx rfl rfl) ?_
          refine dx_y 6 (by kernel_rfl) rfl rfl rfl (fun w ⟨m, hw⟩ => y_pA (x0 := 0) (enc := Api_attr.cells) (xs := (at_ R id.toNat).Attrs) (cs := [.int .i64 (at_ (at_ R id.toNat).Attrs ((i : Int) : Int).toNat).Space, .string (at_ (at_ R id.toNat).Attrs ((i : Int) : Int).toNat).Prefix, .string (at_ (at_ R id.toNat).Attrs ((i : Int) : Int).toNat).Name, .string (at_ (at_ R id.toNat).Attrs ((i : Int) : Int).toNat).Value]) hw rfl) ?_
          refine dx_u 10 (by kernel_rfl) rfl rfl rfl (fun w => y_fldb (o' := 3) rfl) ?_
          refine dx_y 11 (by kernel_rfl) rfl rfl rfl (fun w ⟨m, hw⟩ => D5 hw rfl) ?_
          refine dx_u 12 (by kernel_rfl) rfl rfl rfl (fun w => y_move rfl) ?_
          refine dx_u 13 (by kernel_rfl) rfl rfl rfl (fun w => y_idx rfl rfl) ?_
          refine dx_u 14 (by kernel_rfl) rfl rfl rfl (fun w => y_fld (j' := 3) rfl) ?_
          refine dx_y 15 (by kernel_rfl) rfl rfl rfl (fun w ⟨m, hw⟩ => y_p1 (x0 := 3) (enc := Api_attr.cells) (xs := (at_ R id.toNat).Attrs) hw rfl) ?_
          refine dx_only 7 (by kernel_rfl) rfl rfl ?_
          refine CK [] hO rfl (fun k' hx hr hO' => rshown_spec (x := at_ (at_ R (id : Int).toNat).Attrs (i : Int).toNat) (by rw [hea]; omega) (hO := hO')) ?_
          rintro _ _ w ⟨rfl, rfl⟩ hO
          simp only [List.cons_append, List.nil_append] at hO
          rw [hea]
          refine o_done ?_
          refine ⟨SO.ks [.b b9, .f] hO, ?_⟩
          refine dx_y 8 (by kernel_rfl) rfl rfl rfl (fun w ⟨m, hw⟩ => y_catB rfl rfl (Y := tl (shownS (at_ (nodeA A id).Attrs i))) (tl_ba _) rfl (by simp only [List.length_append, List.length_cons, List.length_nil]; omega)) ?_
          refine dx_y 9 (by kernel_rfl) rfl rfl rfl (fun w ⟨m, hw⟩ => y_catB rfl rfl (Y := [61, 34]) (tl_ba _) rfl (by simp only [List.length_append, List.length_cons, List.length_nil]; omega)) ?_
          refine dx_only 16 (by kernel_rfl) rfl rfl ?_
          refine CK [] hO rfl (fun k' hx hr hO' => rEscB_spec (s := (at_ (nodeA A id).Attrs i).Value) (by omega) hO') ?_
          rintro _ _ w ⟨rfl, rfl⟩ hO
          simp only [List.cons_append, List.nil_append] at hO
          refine o_done ?_
          refine ⟨SO.ks [.b b9, .f] hO, ?_⟩
          refine dx_y 17 (by kernel_rfl) rfl rfl rfl (fun w ⟨m, hw⟩ => y_catB rfl rfl (tl_ba _) (tl_escB _ _) (by simp only [List.length_append, List.length_cons, List.length_nil]; omega)) ?_
          refine dx_y 18 (by kernel_rfl) rfl rfl rfl (fun w ⟨m, hw⟩ => (show Yld _ _ _ _ _ _ (.string (ba (preT (nodeA A id) (i + 1)))) from by rw [← preT_next (show i < (nodeA A id).Attrs.length by omega)]; exact y_catB rfl rfl (Y := [34]) (tl_ba _) rfl (by simp only [List.length_append, List.length_cons, List.length_nil]; omega))) ?_
          refine dx_u 19 (by kernel_rfl) rfl rfl rfl (fun w => y_assign rfl) ?_
          refine dx_end (by kernel_rfl) ?_
          refine K8 (K3 (K1 ?_))
          refine l_y rfl rfl (y_move rfl) ?_
          refine l_y rfl rfl (D4) ?_
          refine l_y rfl rfl (y_assign rfl) ?_
          refine K2 ?_
          exact q_next (i + 1) ⟨rfl, rfl, rfl, rfl, rfl, rfl, rfl, trivial⟩ ⟨hO.only [.b r, .p p, .f, .b b9], by omega⟩ (by omega)
        · refine K2 (K3 (L9 (K7 (L1 (L1 (L2 (K3 ?_)))))))
          refine c_cut (X := Unit) (fun u => [(0, .pointer (some ⟨r, 0, none⟩)), (1, .int .i64 id), (3, .bool sc), (8, .string ⟨#[]⟩), (9, .pointer (some ⟨b9, 0, none⟩)), (11, .string (ba (openT (nodeA A id))))]) (fun u w => Own k w [rB r p R.length c, rS p c R, pool F, blk b9 129 (Ref01_one.cells (at_ R (id : Int).toNat))] ∧ (voidN (nodeA A id) = false) ∧ ((openT (nodeA A id)).length ≤ 7517251585)) ?_ ?_
          · refine K0 ?_
            have ei : i = (nodeA A id).Attrs.length := by omega
            have hop := openT_len hx hla
            rw [ei, preT_all]
            refine K1 ?_
            refine l_y rfl rfl (y_fldb (o' := 1) rfl) ?_
            refine l_y rfl rfl (D5 hO rfl) ?_
            refine Z0 (fun h17_2 => ?_) (fun h17_2 => ?_)
            · refine l_y rfl rfl (y_move rfl) ?_
              refine l_y rfl rfl (y_fldb (o' := 2) rfl) ?_
              refine l_y rfl rfl (D5 hO rfl) ?_
              refine CK [] hO rfl (fun k' hx hr hO' => RVoid_spec hO') ?_
              rintro _ _ w ⟨rfl, rfl⟩ hO
              simp only [List.cons_append, List.nil_append] at hO
              refine l_y rfl rfl (y_pick_t rfl rfl) ?_
              refine K2 (K3 ?_)
              refine c_split rfl (fun hc98 => ?_) (fun hc98 => ?_)
              · refine K0 (K1 ?_)
                refine l_y rfl rfl (y_move rfl) ?_
                refine l_y rfl rfl (y_catB rfl rfl (Y := [62]) (tl_ba _) rfl (by simp only [List.length_cons, List.length_nil]; omega)) ?_
                refine l_y rfl rfl (y_assign rfl) ?_
                refine K2 (K3 (K6 (K9 ?_)))
                have hv : voidN (nodeA A id) = true := by
                  rw [voidN, ← sim_html hs, hs.kind, show (at_ A id.toNat).Node.Kind = 1 from hk1, h17_2, hc98]; rfl
                have e : outT A K sc (f + 1) (rawN sc (nodeA A up)) id = openT (nodeA A id) ++ [62] := by rw [outT, if_neg (by omega), if_neg (by omega), if_neg (by omega), if_pos hk1, if_pos hv, List.append_nil]
                exact fin1 rfl rfl ⟨_, ⟨by rw [e], rfl⟩, hO.only [.b r, .p p, .f]⟩
              · refine K5 ?_
                exact q_cut (()) ⟨rfl, rfl, rfl, rfl, rfl, rfl, trivial⟩ ⟨hO.only [.b r, .p p, .f, .b b9], (by rw [voidN, ← sim_html hs]; first | (rw [hc98]; simp) | (simp only [Bool.and_eq_false_iff, decide_eq_false_iff_not]; exact .inl (.inr h17_2))), hop⟩
            · refine l_y rfl rfl (y_move rfl) ?_
              repeat refine M2 ?_
              refine l_y rfl rfl (y_pick_f rfl rfl) ?_
              refine K2 (K3 (L9 (K5 ?_)))
              exact q_cut (()) ⟨rfl, rfl, rfl, rfl, rfl, rfl, trivial⟩ ⟨hO.only [.b r, .p p, .f, .b b9], (by rw [voidN, ← sim_html hs]; first | (rw [hc98]; simp) | (simp only [Bool.and_eq_false_iff, decide_eq_false_iff_not]; exact .inl (.inr h17_2))), hop⟩
          · rintro u w ⟨hO, hv, hop⟩
            refine K0 ?_
            have hil2 := innT_len t.tx sc f hi
            have h4 : CT * cnt A id ≤ CT * 32768 := Nat.mul_le_mul_left _ (Nat.le_trans cnt_le hmax)
            have h5 : CT * 32768 = 281474976710656 := rfl
            refine da_region (by intro c a d v w h; cases d <;> exact h) ?_
            have hO := hO.drew
            refine da_phase _ [] (SO.ks [.b b9] hO) ?_
            refine dx_u 0 (by kernel_rfl) rfl rfl rfl (fun w => y_move rfl) ?_
            refine dx_y 1 (by kernel_rfl) rfl rfl rfl (fun w ⟨m, hw⟩ => y_catB rfl rfl (Y := [62]) (tl_ba _) rfl (by simp only [List.length_cons, List.length_nil]; omega)) ?_
            refine dx_u 2 (by kernel_rfl) rfl rfl rfl (fun w => y_move rfl) ?_
            refine dx_u 3 (by kernel_rfl) rfl rfl rfl (fun w => y_move rfl) ?_
            refine dx_u 4 (by kernel_rfl) rfl rfl rfl (fun w => y_move rfl) ?_
            refine dx_u 8 (by kernel_rfl) rfl rfl rfl (fun w => y_fldb (o' := 2) rfl) ?_
            refine dx_y 9 (by kernel_rfl) rfl rfl rfl (fun w ⟨m, hw⟩ => D5 hw rfl) ?_
            refine dx_only 5 (by kernel_rfl) rfl rfl ?_
            refine CK [.b r, .p p, .f] hO rfl (fun k' hx' hr hO' => rbelow_spec t ih hi hf hO') ?_
            rintro _ _ w ⟨rfl, rfl⟩ hO
            simp only [List.cons_append, List.nil_append] at hO
            refine o_done ?_
            refine ⟨SO.ks [.b b9] hO, ?_⟩
            refine dx_y 6 (by kernel_rfl) rfl rfl rfl (fun w ⟨m, hw⟩ => y_catB rfl rfl (tl_ba _) (tl_ba _) (by simp only [List.length_append, List.length_cons, List.length_nil]; omega)) ?_
            refine dx_y 7 (by kernel_rfl) rfl rfl rfl (fun w ⟨m, hw⟩ => y_catB rfl rfl (Y := [60, 47]) (tl_ba _) rfl (by simp only [List.length_append, List.length_cons, List.length_nil]; omega)) ?_
            refine dx_y 10 (by kernel_rfl) rfl rfl rfl (fun w ⟨m, hw⟩ => y_catB rfl rfl (Y := tl (nodeA A id).Name) (tl_ba _) (by rw [hs.name]) (by simp only [List.length_append, List.length_cons, List.length_nil]; omega)) ?_
            refine dx_y 11 (by kernel_rfl) rfl rfl rfl (fun w ⟨m, hw⟩ => y_catB rfl rfl (Y := [62]) (tl_ba _) rfl (by simp only [List.length_append, List.length_cons, List.length_nil]; omega)) ?_
            refine dx_u 12 (by kernel_rfl) rfl rfl rfl (fun w => y_assign rfl) ?_
            refine dx_end (by kernel_rfl) ?_
            refine K3 (K6 ?_)
            have e : outT A K sc (f + 1) (rawN sc (nodeA A up)) id = openT (nodeA A id) ++ [62] ++ innT A K sc (outT A K sc f) id ++ [60, 47] ++ tl (nodeA A id).Name ++ [62] := by
              rw [outT, if_neg (by omega), if_neg (by omega), if_neg (by omega), if_pos hk1, hv, if_neg (by simp), endT]; simp
            exact fin1 rfl rfl ⟨_, ⟨by rw [e], rfl⟩, hO.only [.b r, .p p, .f]⟩
theorem rone_all {A : List Node_one} {K : Int → List Int} {R : List Ref01_one} {r : Nat} {p : Option Addr} {c : Nat} {F : Pl} {sc : Bool} (t : RArg A K R p F) : ∀ f, OneP A K R r p c F sc f
  | 0 => fun k w id up hi hu hk hf hO => absurd (cnt_pos hi) (by omega)
  | f + 1 => fun k w id up hi hu hk hf hO => rone_spec t (rone_all t f) hi hu hk hf hO
end
end Go.Proofs.Ythkmnohghpdjhaa
