/- The walks of the answer's text: below, one, Inner. -/
import Derived.Test.YthkmnohghpdjhaaWtx5
import Derived.Test.YthkmnohghpdjhaaPlay1
set_option linter.unusedVariables false
set_option linter.unusedSimpArgs false
set_option maxRecDepth 100000
namespace Go.Proofs.Ythkmnohghpdjhaa
open Go Go.Hb Go.RowKit
section
variable {k : Ctx} {w : World}
/-- a record of the answer's arena as a node, for the text -/
theorem sim_html {a : Node_one} {ks : List Int} {o : Ref01_one} (s : Sim1 a ks o) (f : ByteArray → Bool) : (decide (o.Kind = 1) && decide (o.Space = 0) && f o.Name) = htmlB a.Node f := by rw [htmlB, s.kind, s.space, s.name]
structure RArg (A : List Node_one) (K : Int → List Int) (R : List Ref01_one) (p : Option Addr) (F : Pl) : Prop where
  tx : TxOk A K
  sim : Sim A K R
  gs : Gs p R.length
  rf : RF F R
  max : A.length ≤ 32768
abbrev rOpen (r : Nat) (p : Option Addr) (c : Nat) (F : Pl) (R : List Ref01_one) : List HP := [rB r p R.length c, rS p c R, pool F]
def OneP (A : List Node_one) (K : Int → List Int) (R : List Ref01_one) (r : Nat) (p : Option Addr) (c : Nat) (F : Pl) (sc : Bool) (f : Nat) : Prop := ∀ (k : Ctx) (w : World) (id up : Int), InA A id → InA A up → 1 ≤ (nodeA A id).Kind ∧ (nodeA A id).Kind ≤ 4 → cnt A id ≤ f → Own k w (rOpen r p c F R) →
  Tri Try.prog 81 #[.pointer (some ⟨r, 0, none⟩), .int .i64 id, .int .i64 up, .bool sc] k w fun v m => v = .string (ba (outT A K sc f (rawN sc (nodeA A up)) id)) ∧ m = rOpen r p c F R
set_option maxHeartbeats 1000000 in
theorem rbelow_spec {A : List Node_one} {K : Int → List Int} {R : List Ref01_one} {r : Nat} {p : Option Addr} {c : Nat} {F : Pl} {sc : Bool} {f : Nat} (t : RArg A K R p F) (ih : OneP A K R r p c F sc f) {id : Int} (hi : InA A id) (hf : cnt A id ≤ f + 1) (hO : Own k w (rOpen r p c F R)) :
    Tri Try.prog 50 #[.pointer (some ⟨r, 0, none⟩), .int .i64 id, .bool sc] k w fun v m => v = .string (ba (innT A K sc (outT A K sc f) id)) ∧ m = rOpen r p c F R := by
  refine enter (args := [.pointer (some ⟨r, 0, none⟩), .int .i64 id, .bool sc]) Try.func50 rfl rfl ?_
  have hg := t.gs
  have hz := innerI_cnt t.tx hi
  have hzi := innerI_in t.tx hi
  have hl := t.sim.len
  have hi1 := hi.1
  have hi2 := hi.2
  have hs := t.sim.one id hi
  have hmax := t.max
  refine K0 (K1 ?_)
  refine l_y rfl rfl (y_assign rfl) ?_
  refine K2 (K3 (K0 (K1 ?_)))
  refine l_y rfl rfl (y_move rfl) ?_
  refine l_y rfl rfl (y_nilCheck rfl rfl) ?_
  refine l_y rfl rfl (y_fldb (o' := 0) rfl) ?_
  refine l_y rfl rfl (D5 hO rfl) ?_
  refine l_y rfl rfl (y_move rfl) ?_
  refine l_y rfl rfl (y_idx rfl rfl) ?_
  refine l_y rfl rfl (y_eA (x0 := 0) (cs := [.int .i64 (at_ R (id : Int).toNat).Kind, .int .i64 (at_ R (id : Int).toNat).Space, .string (at_ R (id : Int).toNat).Name, .slice (at_ R (id : Int).toNat).AttrsP (at_ R (id : Int).toNat).Attrs.length (at_ R (id : Int).toNat).AttrsC, .string (at_ R (id : Int).toNat).Data, .string (at_ R (id : Int).toNat).System, .int .i64 (at_ R (id : Int).toNat).Inner, .int .i64 (at_ R (id : Int).toNat).Host, .int .i64 (at_ R (id : Int).toNat).Up, .slice (at_ R (id : Int).toNat).KidsP (at_ R (id : Int).toNat).Kids.length (at_ R (id : Int).toNat).KidsC]) hO rfl) ?_
  refine s_alloc (vs := [.int .i64 0, .int .i64 0, .string ⟨#[]⟩, .slice none 0 0, .string ⟨#[]⟩, .string ⟨#[]⟩, .int .i64 0, .int .i64 0, .int .i64 0, .slice none 0 0]) hO rfl rfl rfl fun b7 w hO => ?_
  refine Y3 hO rfl rfl (fun w hO => ?_)
  refine K2 (K3 ?_)
  refine c_cut (X := Unit) (fun u => [(0, .pointer (some ⟨r, 0, none⟩)), (1, .int .i64 id), (2, .bool sc), (6, .string ⟨#[]⟩), (7, .pointer (some ⟨b7, 0, none⟩))]) (fun u w => Own k w [rB r p R.length c, rS p c R, pool F, blk b7 129 (Ref01_one.cells (at_ R (id : Int).toNat))] ∧ (voidN (nodeA A id) = false)) ?_ ?_
  · refine K0 (K1 ?_)
    refine l_y rfl rfl (y_fldb (o' := 0) rfl) ?_
    refine l_y rfl rfl (D5 hO rfl) ?_
    refine Z0 (fun h2_2 => ?_) (fun h2_2 => ?_)
    · refine l_y rfl rfl (y_move rfl) ?_
      refine l_y rfl rfl (y_fldb (o' := 1) rfl) ?_
      refine l_y rfl rfl (D5 hO rfl) ?_
      refine Z0 (fun h2_6 => ?_) (fun h2_6 => ?_)
      · refine l_y rfl rfl (y_pick_t rfl rfl) ?_
        refine l_y rfl rfl (y_move rfl) ?_
        refine l_y rfl rfl (y_fldb (o' := 2) rfl) ?_
        refine l_y rfl rfl (D5 hO rfl) ?_
        refine CK [] hO rfl (fun k' hx hr hO' => RVoid_spec hO') ?_
        rintro _ _ w ⟨rfl, rfl⟩ hO
        simp only [List.cons_append, List.nil_append] at hO
        refine l_y rfl rfl (y_pick_t rfl rfl) ?_
        refine K2 (K3 ?_)
        refine c_split rfl (fun hc29 => ?_) (fun hc29 => ?_)
        · refine K0 (K1 ?_)
          refine l_y rfl rfl (y_assign rfl) ?_
          refine K2 (K3 (K6 (K9 ?_)))
          have hv : voidN (nodeA A id) = true := by
            rw [voidN, ← sim_html hs, h2_2, h2_6, hc29]; rfl
          exact fin1 rfl rfl ⟨_, ⟨by rw [innT, if_pos hv], rfl⟩, hO.only [.b r, .p p, .f]⟩
        · refine K5 ?_
          exact q_cut (()) ⟨rfl, rfl, rfl, rfl, rfl, trivial⟩ ⟨hO.only [.b r, .p p, .f, .b b7], (by rw [voidN, ← sim_html hs]; first | (rw [hc29]; simp) | (simp only [Bool.and_eq_false_iff, decide_eq_false_iff_not]; first | exact .inl (.inr h2_6) | exact .inl (.inl h2_2)))⟩
      · refine l_y rfl rfl (y_pick_t rfl rfl) ?_
        refine l_y rfl rfl (y_move rfl) ?_
        repeat refine M2 ?_
        refine l_y rfl rfl (y_pick_f rfl rfl) ?_
        refine K2 (K3 (L9 (K5 ?_)))
        exact q_cut (()) ⟨rfl, rfl, rfl, rfl, rfl, trivial⟩ ⟨hO.only [.b r, .p p, .f, .b b7], (by rw [voidN, ← sim_html hs]; first | (rw [hc29]; simp) | (simp only [Bool.and_eq_false_iff, decide_eq_false_iff_not]; first | exact .inl (.inr h2_6) | exact .inl (.inl h2_2)))⟩
    · refine l_y rfl rfl (y_move rfl) ?_
      repeat refine M2 ?_
      refine l_y rfl rfl (y_pick_f rfl rfl) ?_
      refine l_y rfl rfl (y_move rfl) ?_
      repeat refine M2 ?_
      refine l_y rfl rfl (y_pick_f rfl rfl) ?_
      refine K2 (K3 (L9 (K5 ?_)))
      exact q_cut (()) ⟨rfl, rfl, rfl, rfl, rfl, trivial⟩ ⟨hO.only [.b r, .p p, .f, .b b7], (by rw [voidN, ← sim_html hs]; first | (rw [hc29]; simp) | (simp only [Bool.and_eq_false_iff, decide_eq_false_iff_not]; first | exact .inl (.inr h2_6) | exact .inl (.inl h2_2)))⟩
  · rintro u w ⟨hO, hv⟩
    refine c_cut (X := Int) (fun x => [(0, .pointer (some ⟨r, 0, none⟩)), (1, .int .i64 x), (2, .bool sc), (6, .string ⟨#[]⟩)]) (fun x w => Own k w [rB r p R.length c, rS p c R, pool F] ∧ (x = innerI A id)) ?_ ?_
    · refine K0 (K1 ?_)
      refine l_y rfl rfl (y_fldb (o' := 6) rfl) ?_
      refine l_y rfl rfl (D5 hO rfl) ?_
      refine Z1 (fun h4_2 => ?_) (fun h4_2 => ?_)
      · have hj : (at_ R (id : Int).toNat).Inner = innerI A id := by rw [innerI, if_neg (by rw [← hs.inner]; exact h4_2), hs.inner]
        refine K2 (K3 (L8 (K1 ?_)))
        refine l_y rfl rfl (y_fldb (o' := 6) rfl) ?_
        refine l_y rfl rfl (D5 hO rfl) ?_
        refine l_y rfl rfl (y_assign rfl) ?_
        refine K2 ?_
        exact q_cut (_) ⟨rfl, rfl, rfl, rfl, trivial⟩ ⟨hO.only [.b r, .p p, .f], hj⟩
      · have hj : id = innerI A id := by rw [innerI, if_pos (by rw [← hs.inner]; exact h4_2)]
        refine K2 (K3 (L9 (K5 ?_)))
        exact q_cut (_) ⟨rfl, rfl, rfl, rfl, trivial⟩ ⟨hO.only [.b r, .p p, .f], hj⟩
    · rintro x w ⟨hO, hj⟩
      refine K0 ?_
      have hx : InA A x := by rw [hj]; exact hzi
      have hx1 := hx.1
      have hx2 := hx.2
      have hsx := t.sim.one x hx
      have hks := hsx.kids
      have hz' : ((K x).map (cnt A)).sum + 1 ≤ cnt A id := by rw [hj]; exact hz
      have hkl' : (K x).length ≤ A.length := t.tx.tree.len hx
      have hkids := (t.rf.atR (i := x.toNat) (by omega)).kids
      have hgk := sli_gs hkids
      have hkn : (at_ R x.toNat).Kids.length = (K x).length := by rw [hks]
      refine K1 ?_
      refine l_y rfl rfl (y_assign rfl) ?_
      refine K2 (K3 (K0 (K0 (K1 ?_))))
      refine l_y rfl rfl (y_assign rfl) ?_
      refine K2 (K3 (K4 ?_))
      refine c_rounds (X := Nat) (fun i => [(0, .pointer (some ⟨r, 0, none⟩)), (1, .int .i64 x), (2, .bool sc), (6, .string ⟨#[]⟩), (8, .string (ba (((K x).take i).flatMap (outT A K sc f (rawN sc (nodeA A x)))))), (9, .int .i64 (i : Int))]) (fun i w => Own k w [rB r p R.length c, rS p c R, pool F] ∧ (i ≤ (K x).length)) (fun i => (K x).length - i) (0) ⟨rfl, rfl, rfl, rfl, rfl, rfl, trivial⟩ ⟨hO.only [.b r, .p p, .f], Nat.zero_le _⟩ ?_
      rintro i w m hm ⟨hO, hil⟩
      refine K0 (K0 (K1 ?_))
      refine l_y rfl rfl (y_move rfl) ?_
      refine l_y rfl rfl (y_move rfl) ?_
      refine l_y rfl rfl (y_nilCheck rfl rfl) ?_
      refine l_y rfl rfl (y_fldb (o' := 0) rfl) ?_
      refine l_y rfl rfl (D5 hO rfl) ?_
      refine l_y rfl rfl (y_move rfl) ?_
      refine l_y rfl rfl (y_idx rfl rfl) ?_
      refine l_y rfl rfl (y_fld (j' := 9) rfl) ?_
      refine l_y rfl rfl (y_e1 (x0 := 9) hO rfl) ?_
      refine l_y rfl rfl (y_lenL rfl) ?_
      refine Z0 (fun h8_10 => ?_) (fun h8_10 => ?_)
      · refine K2 (K3 (L8 (K5 (K3 (K0 (K4 ?_))))))
        have hci : InA A (at_ (K x) i) ∧ nextUp A (at_ (K x) i) = x := kid_up t.tx.tree hx (at_mem (by omega))
        have hck := kid_kind t.tx.tree t.tx.knd hx (at_mem (xs := K x) (i := i) (by omega))
        have h1 := sum_take (g := cnt A) (i := i) (l := K x) (by omega)
        have h2 := flat_len (g := outT A K sc f (rawN sc (nodeA A x))) (f := cnt A) (c := CT) (l := (K x).take i) fun y hy => outT_len t.tx sc f _ y (kid_up t.tx.tree hx (List.mem_of_mem_take hy)).1
        have h3 : CT * (((K x).take i).map (cnt A)).sum + CT * cnt A (at_ (K x) i) + CT ≤ CT * cnt A id := by
          rw [← Nat.mul_add]; have := Nat.mul_le_mul_left CT (show (((K x).take i).map (cnt A)).sum + cnt A (at_ (K x) i) + 1 ≤ cnt A id by omega); rw [Nat.mul_add] at this; omega
        have h4 : CT * cnt A id ≤ CT * 32768 := Nat.mul_le_mul_left _ (Nat.le_trans cnt_le hmax)
        have h5 : CT * 32768 = 281474976710656 := rfl
        have h6 := outT_len t.tx sc f (rawN sc (nodeA A x)) _ hci.1
        have hki : at_ (at_ R (x : Int).toNat).Kids (i : Int).toNat = at_ (K x) i := by rw [hks]; rfl
        refine K1 ?_
        refine l_y rfl rfl (y_move rfl) ?_
        refine l_y rfl rfl (y_move rfl) ?_
        refine l_y rfl rfl (y_move rfl) ?_
        refine l_y rfl rfl (y_nilCheck rfl rfl) ?_
        refine l_y rfl rfl (y_fldb (o' := 0) rfl) ?_
        refine l_y rfl rfl (D5 hO rfl) ?_
        refine l_y rfl rfl (y_move rfl) ?_
        refine l_y rfl rfl (y_idx rfl rfl) ?_
        refine l_y rfl rfl (y_fld (j' := 9) rfl) ?_
        refine l_y rfl rfl (y_e1 (x0 := 9) hO rfl) ?_
        refine l_y rfl rfl (y_move rfl) ?_
        refine l_y rfl rfl (y_idx rfl rfl) ?_
        refine l_y rfl rfl (y_p1 (x0 := 0) (enc := (eI .i64)) (xs := (at_ R x.toNat).Kids) hO rfl) ?_
        refine l_y rfl rfl (y_move rfl) ?_
        refine l_y rfl rfl (y_move rfl) ?_
        rw [hki]
        refine CK [.b r, .p p, .f] hO rfl (fun k' hx' hr hO' => ih k' _ _ x hci.1 hx hck (by omega) hO') ?_
        rintro _ _ w ⟨rfl, rfl⟩ hO
        simp only [List.cons_append, List.nil_append] at hO
        refine l_y rfl rfl (y_catB rfl rfl (tl_ba _) (tl_ba _) (by omega)) ?_
        rw [← flat_take (show i < (K x).length by omega)]
        refine l_y rfl rfl (y_assign rfl) ?_
        refine K2 (K8 (K3 (K1 ?_)))
        refine l_y rfl rfl (y_move rfl) ?_
        refine l_y rfl rfl (D4) ?_
        refine l_y rfl rfl (y_assign rfl) ?_
        refine K2 ?_
        exact q_next (i + 1) ⟨rfl, rfl, rfl, rfl, rfl, rfl, trivial⟩ ⟨hO.only [.b r, .p p, .f], by omega⟩ (by omega)
      · refine K2 (K3 (L9 (K7 (L1 (L1 (L2 (K3 (K0 (K1 ?_)))))))))
        refine l_y rfl rfl (y_move rfl) ?_
        refine l_y rfl rfl (y_assign rfl) ?_
        refine K2 (K3 (K6 ?_))
        have e : i = (K x).length := by omega
        rw [e, List.take_length]
        exact fin1 rfl rfl ⟨_, ⟨by rw [innT, if_neg (by rw [hv]; simp), ← hj], rfl⟩, hO.only [.b r, .p p, .f]⟩
end
end Go.Proofs.Ythkmnohghpdjhaa
