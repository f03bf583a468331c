/- The walk of the answer's Same. -/
import Derived.Test.YthkmnohghpdjhaaSmd2
import Derived.Test.YthkmnohghpdjhaaRef4
set_option linter.unusedVariables false
set_option linter.unusedSimpArgs false
set_option maxRecDepth 100000
namespace Go.Proofs.Ythkmnohghpdjhaa
open Go Go.Hb Go.RowKit
/-- two pools are one -/
theorem pool_two {k : Ctx} {w : World} {F F2 : Pl} {l : List HP} (hO : Own k w (pool F :: pool F2 :: l)) : ∃ G, PLe F G ∧ PLe F2 G ∧ Own k w (pool G :: l) := by
  have hd : ∀ b x y, F b = some x → F2 b = some y → False := by
    intro b x y e1 e2
    obtain ⟨hb, hh, h1, x', y', d1, s1, s2, hA, u, v, d2, s3, s4, hB, hl⟩ := hO
    have d13 : Dis x' u := d1.sub (Sub.refl _) s3
    have g1 := hA b x.1 x.2 e1
    have g2 := hB b y.1 y.2 e2
    rcases d13 b with e | e
    · rw [e] at g1; cases g1
    · rw [e] at g2; cases g2
  refine ⟨fun b => match F b with | some x => some x | none => F2 b, fun b x h => by simp [h], fun b x h => ?_, ?_⟩
  · cases e : F b with
    | none => simp only [e]; exact h
    | some y => exact (hd b y x e h).elim
  · refine sep_two (fun h1 h2 h hdis s1 s2 hA hB b cs T e => ?_) hO
    dsimp only at e
    cases e1 : F b with
    | none => rw [e1] at e; exact sub_uni_r hdis _ _ (hB b cs T e)
    | some y => rw [e1] at e; cases e; exact sub_uni_l _ _ _ _ (hA b cs T e1)
theorem sameF_succ {A : List Node_one} {K : Int → List Int} {B : List Node_one} {L : Int → List Int} {f : Nat} {x y : Int} : sameF A K B L (f + 1) x y = (locB A K B L x y && (belowP A K B L x y).all fun p => sameF A K B L f p.1 p.2) := rfl
theorem zip_mem {l m : List Int} {i : Nat} (hi : i < l.length) (hl : l.length = m.length) : (at_ l i, at_ m i) ∈ l.zip m := by
  refine List.mem_of_getElem? (i := i) ?_
  simp [List.getElem?_zip_eq_some, at_get hi, at_get (show i < m.length by omega)]
theorem zip_true {l m : List Int} {g : Int × Int → Bool} (hl : l.length = m.length) (h : ∀ j, j < l.length → g (at_ l j, at_ m j) = true) : (l.zip m).all g = true := by
  refine List.all_eq_true.2 fun p hp => ?_
  obtain ⟨i, hi⟩ := List.getElem?_of_mem hp
  obtain ⟨h1, h2⟩ := List.getElem?_zip_eq_some.1 hi
  have hi1 : i < l.length := (List.getElem?_eq_some_iff.1 h1).1
  have := h i hi1
  rw [at_eq h1, at_eq h2] at this
  exact this
theorem zip_false {l m : List Int} {g : Int × Int → Bool} {i : Nat} (hi : i < l.length) (hl : l.length = m.length) (h : g (at_ l i, at_ m i) = false) : (l.zip m).all g = false := by
  refine List.all_eq_false.2 ⟨_, zip_mem hi hl, by rw [h]; simp⟩
theorem below_all {A : List Node_one} {K : Int → List Int} {B : List Node_one} {L : Int → List Int} {x y : Int} {g : Int × Int → Bool} : (belowP A K B L x y).all g = ((if (nodeA A x).Inner = -1 then true else g ((nodeA A x).Inner, (nodeA B y).Inner)) && ((K x).zip (L y)).all g) := by
  unfold belowP
  split <;> simp
structure RTwo (A : List Node_one) (K : Int → List Int) (R : List Ref01_one) (B : List Node_one) (L : Int → List Int) (Q : List Ref01_one) (p p2 : Option Addr) (G : Pl) : Prop where
  tree : Tree A K
  inn : InnOk A
  tree2 : Tree B L
  sim : Sim A K R
  sim2 : Sim B L Q
  gs : Gs p R.length
  gs2 : Gs p2 Q.length
  rf : RF G R
  rf2 : RF G Q
  max : A.length ≤ 1000
  max2 : B.length ≤ 1000
abbrev rTwo (r : Nat) (p : Option Addr) (c : Nat) (R : List Ref01_one) (r2 : Nat) (p2 : Option Addr) (c2 : Nat) (Q : List Ref01_one) (G : Pl) : List HP := [rB r p R.length c, rS p c R, rB r2 p2 Q.length c2, rS p2 c2 Q, pool G]
def RSameP (A : List Node_one) (K : Int → List Int) (R : List Ref01_one) (B : List Node_one) (L : Int → List Int) (Q : List Ref01_one) (r : Nat) (p : Option Addr) (c : Nat) (r2 : Nat) (p2 : Option Addr) (c2 : Nat) (G : Pl) (f : Nat) : Prop := ∀ (k : Ctx) (w : World) (x y : Int), cnt A x ≤ f → Own k w (rTwo r p c R r2 p2 c2 Q G) →
  Tri Try.prog 22 #[.pointer (some ⟨r, 0, none⟩), .int .i64 x, .pointer (some ⟨r2, 0, none⟩), .int .i64 y] k w fun v m => v = .bool (sameF A K B L f x y) ∧ m = rTwo r p c R r2 p2 c2 Q G
section
variable {k : Ctx} {w : World}
set_option maxHeartbeats 4000000 in
theorem rsame_out {A : List Node_one} {K : Int → List Int} {R : List Ref01_one} {B : List Node_one} {L : Int → List Int} {Q : List Ref01_one} {r r2 c c2 f : Nat} {p p2 : Option Addr} {G : Pl} {x y : Int} (t : RTwo A K R B L Q p p2 G) (hx : ¬ (hasB A x = true ∧ hasB B y = true)) (hO : Own k w (rTwo r p c R r2 p2 c2 Q G)) :
    Tri Try.prog 22 #[.pointer (some ⟨r, 0, none⟩), .int .i64 x, .pointer (some ⟨r2, 0, none⟩), .int .i64 y] k w fun v m => v = .bool (sameF A K B L f x y) ∧ m = rTwo r p c R r2 p2 c2 Q G := by
  have e : sameF A K B L f x y = false := by
    cases f with
    | zero => rfl
    | succ f => rw [sameF_succ, locB_not fun h => hx ⟨h.ha, h.hb⟩]; rfl
  rw [e]
  refine enter (args := [.pointer (some ⟨r, 0, none⟩), .int .i64 x, .pointer (some ⟨r2, 0, none⟩), .int .i64 y]) Try.func22 rfl rfl ?_
  cases h1 : hasB A x with
  | false =>
    refine K0 (K1 ?_)
    refine l_y rfl rfl (y_assign rfl) ?_
    refine K2 (K3 (K0 (K0 (K1 ?_))))
    refine l_y rfl rfl (y_move rfl) ?_
    refine l_y rfl rfl (y_move rfl) ?_
    refine CK [.b r, .p p] hO rfl (fun k' hx hr hO' => IsA_spec t.sim hO') ?_
    rintro _ _ w ⟨rfl, rfl⟩ hO
    simp only [List.cons_append, List.nil_append] at hO
    rw [h1]
    refine l_y rfl rfl (y_not rfl rfl) ?_
    refine l_y rfl rfl (y_move rfl) ?_
    repeat refine M2 ?_
    refine l_y rfl rfl (y_pick_t rfl rfl) ?_
    refine K2 (K3 (L8 (K0 (K1 ?_))))
    refine l_y rfl rfl (y_assign rfl) ?_
    refine K2 (K3 (K6 (K9 ?_)))
    exact fin1 rfl rfl ⟨_, ⟨rfl, rfl⟩, hO.only [.b r, .p p, .b r2, .p p2, .f]⟩
  | true =>
    have h2 : hasB B y = false := by
      cases h2 : hasB B y with
      | false => rfl
      | true => exact absurd ⟨h1, h2⟩ hx
    refine K0 (K1 ?_)
    refine l_y rfl rfl (y_assign rfl) ?_
    refine K2 (K3 (K0 (K0 (K1 ?_))))
    refine l_y rfl rfl (y_move rfl) ?_
    refine l_y rfl rfl (y_move rfl) ?_
    refine CK [.b r, .p p] hO rfl (fun k' hx hr hO' => IsA_spec t.sim hO') ?_
    rintro _ _ w ⟨rfl, rfl⟩ hO
    simp only [List.cons_append, List.nil_append] at hO
    rw [h1]
    refine l_y rfl rfl (y_not rfl rfl) ?_
    refine l_y rfl rfl (y_move rfl) ?_
    refine l_y rfl rfl (y_move rfl) ?_
    refine l_y rfl rfl (y_move rfl) ?_
    refine CK [.b r2, .p p2] hO rfl (fun k' hx hr hO' => IsA_spec t.sim2 hO') ?_
    rintro _ _ w ⟨rfl, rfl⟩ hO
    simp only [List.cons_append, List.nil_append] at hO
    rw [h2]
    refine l_y rfl rfl (y_not rfl rfl) ?_
    refine l_y rfl rfl (y_pick_f rfl rfl) ?_
    refine K2 (K3 (L8 (K0 (K1 ?_))))
    refine l_y rfl rfl (y_assign rfl) ?_
    refine K2 (K3 (K6 (K9 ?_)))
    exact fin1 rfl rfl ⟨_, ⟨rfl, rfl⟩, hO.only [.b r, .p p, .b r2, .p p2, .f]⟩
set_option maxHeartbeats 8000000 in
theorem rsame_in {A : List Node_one} {K : Int → List Int} {R : List Ref01_one} {B : List Node_one} {L : Int → List Int} {Q : List Ref01_one} {r r2 c c2 f : Nat} {p p2 : Option Addr} {G : Pl} {x y : Int} (t : RTwo A K R B L Q p p2 G) (ih : RSameP A K R B L Q r p c r2 p2 c2 G f) (h1 : hasB A x = true) (h2 : hasB B y = true) (hf : cnt A x ≤ f + 1) (hO : Own k w (rTwo r p c R r2 p2 c2 Q G)) :
    Tri Try.prog 22 #[.pointer (some ⟨r, 0, none⟩), .int .i64 x, .pointer (some ⟨r2, 0, none⟩), .int .i64 y] k w fun v m => v = .bool (sameF A K B L (f + 1) x y) ∧ m = rTwo r p c R r2 p2 c2 Q G := by
  refine enter (args := [.pointer (some ⟨r, 0, none⟩), .int .i64 x, .pointer (some ⟨r2, 0, none⟩), .int .i64 y]) Try.func22 rfl rfl ?_
  have hx := inA_iff.1 h1
  have hy := inA_iff.1 h2
  have hx1 := hx.1
  have hx2 := hx.2
  have hy1 := hy.1
  have hy2 := hy.2
  have hl1 := t.sim.len
  have hl2 := t.sim2.len
  have hg := t.gs
  have hg2 := t.gs2
  have sx := t.sim.one x hx
  have sy := t.sim2.one y hy
  have hbel := below_cnt t.tree t.inn (B := B) (L := L) (y := y) hx
  have ha1 := (t.rf.atR (i := x.toNat) (by omega)).attrs
  have ha2 := (t.rf2.atR (i := y.toNat) (by omega)).attrs
  have hk1 := (t.rf.atR (i := x.toNat) (by omega)).kids
  have hk2 := (t.rf2.atR (i := y.toNat) (by omega)).kids
  have hga1 := sli_gs ha1
  have hga2 := sli_gs ha2
  have hgk1 := sli_gs hk1
  have hgk2 := sli_gs hk2
  have hal : (at_ R x.toNat).Attrs.length ≤ 1024 := by rw [sx.attrs]; exact t.tree.attrs x.toNat (by omega)
  have hkl := t.tree.len hx
  have hmx := t.max
  have hkn : (at_ R x.toNat).Kids.length = (K x).length := by rw [sx.kids]
  obtain ⟨o, ho⟩ : ∃ o, o = at_ R x.toNat := ⟨_, rfl⟩
  obtain ⟨q, hq⟩ : ∃ q, q = at_ Q y.toNat := ⟨_, rfl⟩
  rw [← ho] at sx ha1 hk1 hga1 hgk1 hal hkn
  rw [← hq] at sy ha2 hk2 hga2 hgk2
  refine K0 (K1 ?_)
  refine l_y rfl rfl (y_assign rfl) ?_
  refine K2 (K3 (K0 (K0 (K1 ?_))))
  refine l_y rfl rfl (y_move rfl) ?_
  refine l_y rfl rfl (y_move rfl) ?_
  refine CK [.b r, .p p] hO rfl (fun k' hx hr hO' => IsA_spec t.sim hO') ?_
  rintro _ _ w ⟨rfl, rfl⟩ hO
  simp only [List.cons_append, List.nil_append] at hO
  rw [h1]
  refine l_y rfl rfl (y_not rfl rfl) ?_
  refine l_y rfl rfl (y_move rfl) ?_
  refine l_y rfl rfl (y_move rfl) ?_
  refine l_y rfl rfl (y_move rfl) ?_
  refine CK [.b r2, .p p2] hO rfl (fun k' hx hr hO' => IsA_spec t.sim2 hO') ?_
  rintro _ _ w ⟨rfl, rfl⟩ hO
  simp only [List.cons_append, List.nil_append] at hO
  rw [h2]
  refine l_y rfl rfl (y_not rfl rfl) ?_
  refine l_y rfl rfl (y_pick_f rfl rfl) ?_
  refine K2 (K3 (L9 (K5 (K3 (K0 (K1 ?_))))))
  refine l_y rfl rfl (y_move rfl) ?_
  refine l_y rfl rfl (y_nilCheck rfl rfl) ?_
  refine l_y rfl rfl (y_fldb (o' := 0) rfl) ?_
  refine l_y rfl rfl (D5 hO rfl) ?_
  refine l_y rfl rfl (y_move rfl) ?_
  refine l_y rfl rfl (y_idx rfl rfl) ?_
  refine l_y rfl rfl (y_eA (x0 := 0) (cs := [.int .i64 (at_ R (x : Int).toNat).Kind, .int .i64 (at_ R (x : Int).toNat).Space, .string (at_ R (x : Int).toNat).Name, .slice (at_ R (x : Int).toNat).AttrsP (at_ R (x : Int).toNat).Attrs.length (at_ R (x : Int).toNat).AttrsC, .string (at_ R (x : Int).toNat).Data, .string (at_ R (x : Int).toNat).System, .int .i64 (at_ R (x : Int).toNat).Inner, .int .i64 (at_ R (x : Int).toNat).Host, .int .i64 (at_ R (x : Int).toNat).Up, .slice (at_ R (x : Int).toNat).KidsP (at_ R (x : Int).toNat).Kids.length (at_ R (x : Int).toNat).KidsC]) hO rfl) ?_
  refine s_alloc (vs := [.int .i64 0, .int .i64 0, .string ⟨#[]⟩, .slice none 0 0, .string ⟨#[]⟩, .string ⟨#[]⟩, .int .i64 0, .int .i64 0, .int .i64 0, .slice none 0 0]) hO rfl rfl rfl fun b9 w hO => ?_
  refine Y3 hO rfl rfl (fun w hO => ?_)
  refine K2 (K3 (K0 (K1 ?_)))
  refine l_y rfl rfl (y_move rfl) ?_
  refine l_y rfl rfl (y_nilCheck rfl rfl) ?_
  refine l_y rfl rfl (y_fldb (o' := 0) rfl) ?_
  refine l_y rfl rfl (D5 hO rfl) ?_
  refine l_y rfl rfl (y_move rfl) ?_
  refine l_y rfl rfl (y_idx rfl rfl) ?_
  refine l_y rfl rfl (y_eA (x0 := 0) (cs := [.int .i64 (at_ Q (y : Int).toNat).Kind, .int .i64 (at_ Q (y : Int).toNat).Space, .string (at_ Q (y : Int).toNat).Name, .slice (at_ Q (y : Int).toNat).AttrsP (at_ Q (y : Int).toNat).Attrs.length (at_ Q (y : Int).toNat).AttrsC, .string (at_ Q (y : Int).toNat).Data, .string (at_ Q (y : Int).toNat).System, .int .i64 (at_ Q (y : Int).toNat).Inner, .int .i64 (at_ Q (y : Int).toNat).Host, .int .i64 (at_ Q (y : Int).toNat).Up, .slice (at_ Q (y : Int).toNat).KidsP (at_ Q (y : Int).toNat).Kids.length (at_ Q (y : Int).toNat).KidsC]) hO rfl) ?_
  refine s_alloc (vs := [.int .i64 0, .int .i64 0, .string ⟨#[]⟩, .slice none 0 0, .string ⟨#[]⟩, .string ⟨#[]⟩, .int .i64 0, .int .i64 0, .int .i64 0, .slice none 0 0]) hO rfl rfl rfl fun b10 w hO => ?_
  refine Y3 hO rfl rfl (fun w hO => ?_)
  refine K2 (K3 ?_)
  refine c_cut (X := Unit) (fun u => [(0, .pointer (some ⟨r, 0, none⟩)), (2, .pointer (some ⟨r2, 0, none⟩)), (8, .bool false), (9, .pointer (some ⟨b9, 0, none⟩)), (10, .pointer (some ⟨b10, 0, none⟩))]) (fun u w => Own k w [rB r p R.length c, rS p c R, rB r2 p2 Q.length c2, rS p2 c2 Q, pool G, blk b9 129 (Ref01_one.cells o), blk b10 129 (Ref01_one.cells q)] ∧ (o.Kind = q.Kind ∧ o.Space = q.Space ∧ o.Name = q.Name ∧ o.Data = q.Data ∧ o.System = q.System ∧ o.Attrs.length = q.Attrs.length ∧ o.Kids.length = q.Kids.length ∧ (o.Inner = -1 ↔ q.Inner = -1))) ?_ ?_
  · refine K0 ?_
    rw [← ho, ← hq] at hO
    rw [← ho, ← hq]
    refine K1 ?_
    refine l_y rfl rfl (y_fldb (o' := 0) rfl) ?_
    refine l_y rfl rfl (D5 hO rfl) ?_
    refine l_y rfl rfl (y_fldb (o' := 0) rfl) ?_
    refine l_y rfl rfl (D5 hO rfl) ?_
    refine Z1 (fun h5_4 => ?_) (fun h5_4 => ?_)
    · refine l_y rfl rfl (y_move rfl) ?_
      repeat refine M2 ?_
      refine l_y rfl rfl (y_pick_t rfl rfl) ?_
      refine l_y rfl rfl (y_move rfl) ?_
      repeat refine M2 ?_
      refine l_y rfl rfl (y_pick_t rfl rfl) ?_
      refine l_y rfl rfl (y_move rfl) ?_
      repeat refine M2 ?_
      refine l_y rfl rfl (y_pick_t rfl rfl) ?_
      refine l_y rfl rfl (y_move rfl) ?_
      repeat refine M2 ?_
      refine l_y rfl rfl (y_pick_t rfl rfl) ?_
      refine l_y rfl rfl (y_move rfl) ?_
      repeat refine M2 ?_
      refine l_y rfl rfl (y_pick_t rfl rfl) ?_
      refine l_y rfl rfl (y_move rfl) ?_
      repeat refine M2 ?_
      refine l_y rfl rfl (y_pick_t rfl rfl) ?_
      refine l_y rfl rfl (y_move rfl) ?_
      repeat refine M2 ?_
      refine l_y rfl rfl (y_pick_t rfl rfl) ?_
      refine K2 (K3 (L8 (K0 (K1 ?_))))
      refine l_y rfl rfl (y_assign rfl) ?_
      refine K2 (K3 (K6 (K9 ?_)))
      have hno : ¬ Loc A K B L x y := by
        intro hl
        first | exact h5_4 (by rw [sx.kind, sy.kind]; exact hl.kind) | exact h5_10 (by rw [sx.space, sy.space]; exact hl.space) | exact h5_17 (by rw [sx.name, sy.name]; exact hl.name) | exact h5_24 (by rw [sx.data, sy.data]; exact hl.data) | exact h5_31 (by rw [sx.system, sy.system]; exact hl.system) | exact h5_40 (by rw [sx.attrs, sy.attrs]; exact congrArg _ (congrArg List.length hl.attrs)) | exact h5_49 (by rw [sx.kids, sy.kids]; exact congrArg _ hl.kids) | exact h5_57 (by rw [sy.inner]; exact hl.inner.1 (by rw [← sx.inner]; exact h5_54)) | exact h5_54 (by rw [sx.inner]; exact hl.inner.2 (by rw [← sy.inner]; exact h5_57))
      exact fin1 rfl rfl ⟨_, ⟨by rw [sameF_succ, locB_not hno]; rfl, rfl⟩, hO.only [.b r, .p p, .b r2, .p p2, .f]⟩
    · refine l_y rfl rfl (y_move rfl) ?_
      refine l_y rfl rfl (y_fldb (o' := 1) rfl) ?_
      refine l_y rfl rfl (D5 hO rfl) ?_
      refine l_y rfl rfl (y_fldb (o' := 1) rfl) ?_
      refine l_y rfl rfl (D5 hO rfl) ?_
      refine Z1 (fun h5_10 => ?_) (fun h5_10 => ?_)
      · refine l_y rfl rfl (y_pick_f rfl rfl) ?_
        refine l_y rfl rfl (y_move rfl) ?_
        repeat refine M2 ?_
        refine l_y rfl rfl (y_pick_t rfl rfl) ?_
        refine l_y rfl rfl (y_move rfl) ?_
        repeat refine M2 ?_
        refine l_y rfl rfl (y_pick_t rfl rfl) ?_
        refine l_y rfl rfl (y_move rfl) ?_
        repeat refine M2 ?_
        refine l_y rfl rfl (y_pick_t rfl rfl) ?_
        refine l_y rfl rfl (y_move rfl) ?_
        repeat refine M2 ?_
        refine l_y rfl rfl (y_pick_t rfl rfl) ?_
        refine l_y rfl rfl (y_move rfl) ?_
        repeat refine M2 ?_
        refine l_y rfl rfl (y_pick_t rfl rfl) ?_
        refine l_y rfl rfl (y_move rfl) ?_
        repeat refine M2 ?_
        refine l_y rfl rfl (y_pick_t rfl rfl) ?_
        refine K2 (K3 (L8 (K0 (K1 ?_))))
        refine l_y rfl rfl (y_assign rfl) ?_
        refine K2 (K3 (K6 (K9 ?_)))
        have hno : ¬ Loc A K B L x y := by
          intro hl
          first | exact h5_4 (by rw [sx.kind, sy.kind]; exact hl.kind) | exact h5_10 (by rw [sx.space, sy.space]; exact hl.space) | exact h5_17 (by rw [sx.name, sy.name]; exact hl.name) | exact h5_24 (by rw [sx.data, sy.data]; exact hl.data) | exact h5_31 (by rw [sx.system, sy.system]; exact hl.system) | exact h5_40 (by rw [sx.attrs, sy.attrs]; exact congrArg _ (congrArg List.length hl.attrs)) | exact h5_49 (by rw [sx.kids, sy.kids]; exact congrArg _ hl.kids) | exact h5_57 (by rw [sy.inner]; exact hl.inner.1 (by rw [← sx.inner]; exact h5_54)) | exact h5_54 (by rw [sx.inner]; exact hl.inner.2 (by rw [← sy.inner]; exact h5_57))
        exact fin1 rfl rfl ⟨_, ⟨by rw [sameF_succ, locB_not hno]; rfl, rfl⟩, hO.only [.b r, .p p, .b r2, .p p2, .f]⟩
      · refine l_y rfl rfl (y_pick_f rfl rfl) ?_
        refine l_y rfl rfl (y_move rfl) ?_
        refine l_y rfl rfl (y_fldb (o' := 2) rfl) ?_
        refine l_y rfl rfl (D5 hO rfl) ?_
        refine l_y rfl rfl (y_fldb (o' := 2) rfl) ?_
        refine l_y rfl rfl (D5 hO rfl) ?_
        refine Z3 (fun h5_17 => ?_) (fun h5_17 => ?_)
        · refine l_y rfl rfl (y_pick_f rfl rfl) ?_
          refine l_y rfl rfl (y_move rfl) ?_
          repeat refine M2 ?_
          refine l_y rfl rfl (y_pick_t rfl rfl) ?_
          refine l_y rfl rfl (y_move rfl) ?_
          repeat refine M2 ?_
          refine l_y rfl rfl (y_pick_t rfl rfl) ?_
          refine l_y rfl rfl (y_move rfl) ?_
          repeat refine M2 ?_
          refine l_y rfl rfl (y_pick_t rfl rfl) ?_
          refine l_y rfl rfl (y_move rfl) ?_
          repeat refine M2 ?_
          refine l_y rfl rfl (y_pick_t rfl rfl) ?_
          refine l_y rfl rfl (y_move rfl) ?_
          repeat refine M2 ?_
          refine l_y rfl rfl (y_pick_t rfl rfl) ?_
          refine K2 (K3 (L8 (K0 (K1 ?_))))
          refine l_y rfl rfl (y_assign rfl) ?_
          refine K2 (K3 (K6 (K9 ?_)))
          have hno : ¬ Loc A K B L x y := by
            intro hl
            first | exact h5_4 (by rw [sx.kind, sy.kind]; exact hl.kind) | exact h5_10 (by rw [sx.space, sy.space]; exact hl.space) | exact h5_17 (by rw [sx.name, sy.name]; exact hl.name) | exact h5_24 (by rw [sx.data, sy.data]; exact hl.data) | exact h5_31 (by rw [sx.system, sy.system]; exact hl.system) | exact h5_40 (by rw [sx.attrs, sy.attrs]; exact congrArg _ (congrArg List.length hl.attrs)) | exact h5_49 (by rw [sx.kids, sy.kids]; exact congrArg _ hl.kids) | exact h5_57 (by rw [sy.inner]; exact hl.inner.1 (by rw [← sx.inner]; exact h5_54)) | exact h5_54 (by rw [sx.inner]; exact hl.inner.2 (by rw [← sy.inner]; exact h5_57))
          exact fin1 rfl rfl ⟨_, ⟨by rw [sameF_succ, locB_not hno]; rfl, rfl⟩, hO.only [.b r, .p p, .b r2, .p p2, .f]⟩
        · refine l_y rfl rfl (y_pick_f rfl rfl) ?_
          refine l_y rfl rfl (y_move rfl) ?_
          refine l_y rfl rfl (y_fldb (o' := 4) rfl) ?_
          refine l_y rfl rfl (D5 hO rfl) ?_
          refine l_y rfl rfl (y_fldb (o' := 4) rfl) ?_
          refine l_y rfl rfl (D5 hO rfl) ?_
          refine Z3 (fun h5_24 => ?_) (fun h5_24 => ?_)
          · refine l_y rfl rfl (y_pick_f rfl rfl) ?_
            refine l_y rfl rfl (y_move rfl) ?_
            repeat refine M2 ?_
            refine l_y rfl rfl (y_pick_t rfl rfl) ?_
            refine l_y rfl rfl (y_move rfl) ?_
            repeat refine M2 ?_
            refine l_y rfl rfl (y_pick_t rfl rfl) ?_
            refine l_y rfl rfl (y_move rfl) ?_
            repeat refine M2 ?_
            refine l_y rfl rfl (y_pick_t rfl rfl) ?_
            refine l_y rfl rfl (y_move rfl) ?_
            repeat refine M2 ?_
            refine l_y rfl rfl (y_pick_t rfl rfl) ?_
            refine K2 (K3 (L8 (K0 (K1 ?_))))
            refine l_y rfl rfl (y_assign rfl) ?_
            refine K2 (K3 (K6 (K9 ?_)))
            have hno : ¬ Loc A K B L x y := by
              intro hl
              first | exact h5_4 (by rw [sx.kind, sy.kind]; exact hl.kind) | exact h5_10 (by rw [sx.space, sy.space]; exact hl.space) | exact h5_17 (by rw [sx.name, sy.name]; exact hl.name) | exact h5_24 (by rw [sx.data, sy.data]; exact hl.data) | exact h5_31 (by rw [sx.system, sy.system]; exact hl.system) | exact h5_40 (by rw [sx.attrs, sy.attrs]; exact congrArg _ (congrArg List.length hl.attrs)) | exact h5_49 (by rw [sx.kids, sy.kids]; exact congrArg _ hl.kids) | exact h5_57 (by rw [sy.inner]; exact hl.inner.1 (by rw [← sx.inner]; exact h5_54)) | exact h5_54 (by rw [sx.inner]; exact hl.inner.2 (by rw [← sy.inner]; exact h5_57))
            exact fin1 rfl rfl ⟨_, ⟨by rw [sameF_succ, locB_not hno]; rfl, rfl⟩, hO.only [.b r, .p p, .b r2, .p p2, .f]⟩
          · refine l_y rfl rfl (y_pick_f rfl rfl) ?_
            refine l_y rfl rfl (y_move rfl) ?_
            refine l_y rfl rfl (y_fldb (o' := 5) rfl) ?_
            refine l_y rfl rfl (D5 hO rfl) ?_
            refine l_y rfl rfl (y_fldb (o' := 5) rfl) ?_
            refine l_y rfl rfl (D5 hO rfl) ?_
            refine Z3 (fun h5_31 => ?_) (fun h5_31 => ?_)
            · refine l_y rfl rfl (y_pick_f rfl rfl) ?_
              refine l_y rfl rfl (y_move rfl) ?_
              repeat refine M2 ?_
              refine l_y rfl rfl (y_pick_t rfl rfl) ?_
              refine l_y rfl rfl (y_move rfl) ?_
              repeat refine M2 ?_
              refine l_y rfl rfl (y_pick_t rfl rfl) ?_
              refine l_y rfl rfl (y_move rfl) ?_
              repeat refine M2 ?_
              refine l_y rfl rfl (y_pick_t rfl rfl) ?_
              refine K2 (K3 (L8 (K0 (K1 ?_))))
              refine l_y rfl rfl (y_assign rfl) ?_
              refine K2 (K3 (K6 (K9 ?_)))
              have hno : ¬ Loc A K B L x y := by
                intro hl
                first | exact h5_4 (by rw [sx.kind, sy.kind]; exact hl.kind) | exact h5_10 (by rw [sx.space, sy.space]; exact hl.space) | exact h5_17 (by rw [sx.name, sy.name]; exact hl.name) | exact h5_24 (by rw [sx.data, sy.data]; exact hl.data) | exact h5_31 (by rw [sx.system, sy.system]; exact hl.system) | exact h5_40 (by rw [sx.attrs, sy.attrs]; exact congrArg _ (congrArg List.length hl.attrs)) | exact h5_49 (by rw [sx.kids, sy.kids]; exact congrArg _ hl.kids) | exact h5_57 (by rw [sy.inner]; exact hl.inner.1 (by rw [← sx.inner]; exact h5_54)) | exact h5_54 (by rw [sx.inner]; exact hl.inner.2 (by rw [← sy.inner]; exact h5_57))
              exact fin1 rfl rfl ⟨_, ⟨by rw [sameF_succ, locB_not hno]; rfl, rfl⟩, hO.only [.b r, .p p, .b r2, .p p2, .f]⟩
            · refine l_y rfl rfl (y_pick_f rfl rfl) ?_
              refine l_y rfl rfl (y_move rfl) ?_
              refine l_y rfl rfl (y_fldb (o' := 3) rfl) ?_
              refine l_y rfl rfl (D5 hO rfl) ?_
              refine l_y rfl rfl (y_lenL rfl) ?_
              refine l_y rfl rfl (y_fldb (o' := 3) rfl) ?_
              refine l_y rfl rfl (D5 hO rfl) ?_
              refine l_y rfl rfl (y_lenL rfl) ?_
              refine Z1 (fun h5_40 => ?_) (fun h5_40 => ?_)
              · refine l_y rfl rfl (y_pick_f rfl rfl) ?_
                refine l_y rfl rfl (y_move rfl) ?_
                repeat refine M2 ?_
                refine l_y rfl rfl (y_pick_t rfl rfl) ?_
                refine l_y rfl rfl (y_move rfl) ?_
                repeat refine M2 ?_
                refine l_y rfl rfl (y_pick_t rfl rfl) ?_
                refine K2 (K3 (L8 (K0 (K1 ?_))))
                refine l_y rfl rfl (y_assign rfl) ?_
                refine K2 (K3 (K6 (K9 ?_)))
                have hno : ¬ Loc A K B L x y := by
                  intro hl
                  first | exact h5_4 (by rw [sx.kind, sy.kind]; exact hl.kind) | exact h5_10 (by rw [sx.space, sy.space]; exact hl.space) | exact h5_17 (by rw [sx.name, sy.name]; exact hl.name) | exact h5_24 (by rw [sx.data, sy.data]; exact hl.data) | exact h5_31 (by rw [sx.system, sy.system]; exact hl.system) | exact h5_40 (by rw [sx.attrs, sy.attrs]; exact congrArg _ (congrArg List.length hl.attrs)) | exact h5_49 (by rw [sx.kids, sy.kids]; exact congrArg _ hl.kids) | exact h5_57 (by rw [sy.inner]; exact hl.inner.1 (by rw [← sx.inner]; exact h5_54)) | exact h5_54 (by rw [sx.inner]; exact hl.inner.2 (by rw [← sy.inner]; exact h5_57))
                exact fin1 rfl rfl ⟨_, ⟨by rw [sameF_succ, locB_not hno]; rfl, rfl⟩, hO.only [.b r, .p p, .b r2, .p p2, .f]⟩
              · refine l_y rfl rfl (y_pick_f rfl rfl) ?_
                refine l_y rfl rfl (y_move rfl) ?_
                refine l_y rfl rfl (y_fldb (o' := 9) rfl) ?_
                refine l_y rfl rfl (D5 hO rfl) ?_
                refine l_y rfl rfl (y_lenL rfl) ?_
                refine l_y rfl rfl (y_fldb (o' := 9) rfl) ?_
                refine l_y rfl rfl (D5 hO rfl) ?_
                refine l_y rfl rfl (y_lenL rfl) ?_
                refine Z1 (fun h5_49 => ?_) (fun h5_49 => ?_)
                · refine l_y rfl rfl (y_pick_f rfl rfl) ?_
                  refine l_y rfl rfl (y_move rfl) ?_
                  repeat refine M2 ?_
                  refine l_y rfl rfl (y_pick_t rfl rfl) ?_
                  refine K2 (K3 (L8 (K0 (K1 ?_))))
                  refine l_y rfl rfl (y_assign rfl) ?_
                  refine K2 (K3 (K6 (K9 ?_)))
                  have hno : ¬ Loc A K B L x y := by
                    intro hl
                    first | exact h5_4 (by rw [sx.kind, sy.kind]; exact hl.kind) | exact h5_10 (by rw [sx.space, sy.space]; exact hl.space) | exact h5_17 (by rw [sx.name, sy.name]; exact hl.name) | exact h5_24 (by rw [sx.data, sy.data]; exact hl.data) | exact h5_31 (by rw [sx.system, sy.system]; exact hl.system) | exact h5_40 (by rw [sx.attrs, sy.attrs]; exact congrArg _ (congrArg List.length hl.attrs)) | exact h5_49 (by rw [sx.kids, sy.kids]; exact congrArg _ hl.kids) | exact h5_57 (by rw [sy.inner]; exact hl.inner.1 (by rw [← sx.inner]; exact h5_54)) | exact h5_54 (by rw [sx.inner]; exact hl.inner.2 (by rw [← sy.inner]; exact h5_57))
                  exact fin1 rfl rfl ⟨_, ⟨by rw [sameF_succ, locB_not hno]; rfl, rfl⟩, hO.only [.b r, .p p, .b r2, .p p2, .f]⟩
                · refine l_y rfl rfl (y_pick_f rfl rfl) ?_
                  refine l_y rfl rfl (y_move rfl) ?_
                  refine l_y rfl rfl (y_fldb (o' := 6) rfl) ?_
                  refine l_y rfl rfl (D5 hO rfl) ?_
                  refine Z0 (fun h5_54 => ?_) (fun h5_54 => ?_)
                  · refine l_y rfl rfl (y_fldb (o' := 6) rfl) ?_
                    refine l_y rfl rfl (D5 hO rfl) ?_
                    refine Z0 (fun h5_57 => ?_) (fun h5_57 => ?_)
                    · refine l_y rfl rfl (y_neB rfl rfl rfl) ?_
                      refine l_y rfl rfl (y_pick_f rfl rfl) ?_
                      refine K2 (K3 (L9 (K5 ?_)))
                      exact q_cut (()) ⟨rfl, rfl, rfl, rfl, rfl, trivial⟩ ⟨hO.only [.b r, .p p, .b r2, .p p2, .f, .b b9, .b b10], ⟨h5_4, h5_10, h5_17, h5_24, h5_31, by omega, by omega, by omega⟩⟩
                    · refine l_y rfl rfl (y_neB rfl rfl rfl) ?_
                      refine l_y rfl rfl (y_pick_f rfl rfl) ?_
                      refine K2 (K3 (L8 (K0 (K1 ?_))))
                      refine l_y rfl rfl (y_assign rfl) ?_
                      refine K2 (K3 (K6 (K9 ?_)))
                      have hno : ¬ Loc A K B L x y := by
                        intro hl
                        first | exact h5_4 (by rw [sx.kind, sy.kind]; exact hl.kind) | exact h5_10 (by rw [sx.space, sy.space]; exact hl.space) | exact h5_17 (by rw [sx.name, sy.name]; exact hl.name) | exact h5_24 (by rw [sx.data, sy.data]; exact hl.data) | exact h5_31 (by rw [sx.system, sy.system]; exact hl.system) | exact h5_40 (by rw [sx.attrs, sy.attrs]; exact congrArg _ (congrArg List.length hl.attrs)) | exact h5_49 (by rw [sx.kids, sy.kids]; exact congrArg _ hl.kids) | exact h5_57 (by rw [sy.inner]; exact hl.inner.1 (by rw [← sx.inner]; exact h5_54)) | exact h5_54 (by rw [sx.inner]; exact hl.inner.2 (by rw [← sy.inner]; exact h5_57))
                      exact fin1 rfl rfl ⟨_, ⟨by rw [sameF_succ, locB_not hno]; rfl, rfl⟩, hO.only [.b r, .p p, .b r2, .p p2, .f]⟩
                  · refine l_y rfl rfl (y_fldb (o' := 6) rfl) ?_
                    refine l_y rfl rfl (D5 hO rfl) ?_
                    refine Z0 (fun h5_57 => ?_) (fun h5_57 => ?_)
                    · refine l_y rfl rfl (y_neB rfl rfl rfl) ?_
                      refine l_y rfl rfl (y_pick_f rfl rfl) ?_
                      refine K2 (K3 (L8 (K0 (K1 ?_))))
                      refine l_y rfl rfl (y_assign rfl) ?_
                      refine K2 (K3 (K6 (K9 ?_)))
                      have hno : ¬ Loc A K B L x y := by
                        intro hl
                        first | exact h5_4 (by rw [sx.kind, sy.kind]; exact hl.kind) | exact h5_10 (by rw [sx.space, sy.space]; exact hl.space) | exact h5_17 (by rw [sx.name, sy.name]; exact hl.name) | exact h5_24 (by rw [sx.data, sy.data]; exact hl.data) | exact h5_31 (by rw [sx.system, sy.system]; exact hl.system) | exact h5_40 (by rw [sx.attrs, sy.attrs]; exact congrArg _ (congrArg List.length hl.attrs)) | exact h5_49 (by rw [sx.kids, sy.kids]; exact congrArg _ hl.kids) | exact h5_57 (by rw [sy.inner]; exact hl.inner.1 (by rw [← sx.inner]; exact h5_54)) | exact h5_54 (by rw [sx.inner]; exact hl.inner.2 (by rw [← sy.inner]; exact h5_57))
                      exact fin1 rfl rfl ⟨_, ⟨by rw [sameF_succ, locB_not hno]; rfl, rfl⟩, hO.only [.b r, .p p, .b r2, .p p2, .f]⟩
                    · refine l_y rfl rfl (y_neB rfl rfl rfl) ?_
                      refine l_y rfl rfl (y_pick_f rfl rfl) ?_
                      refine K2 (K3 (L9 (K5 ?_)))
                      exact q_cut (()) ⟨rfl, rfl, rfl, rfl, rfl, trivial⟩ ⟨hO.only [.b r, .p p, .b r2, .p p2, .f, .b b9, .b b10], ⟨h5_4, h5_10, h5_17, h5_24, h5_31, by omega, by omega, by omega⟩⟩
  · rintro u w ⟨hO, hpre⟩
    refine K0 (K0 ?_)
    obtain ⟨g1, g2, g3, g4, g5, g6, g7, g8⟩ := hpre
    refine K1 ?_
    refine l_y rfl rfl (y_assign rfl) ?_
    refine K2 (K3 (K4 ?_))
    refine c_rounds (X := Nat) (fun i => [(0, .pointer (some ⟨r, 0, none⟩)), (2, .pointer (some ⟨r2, 0, none⟩)), (8, .bool false), (9, .pointer (some ⟨b9, 0, none⟩)), (10, .pointer (some ⟨b10, 0, none⟩)), (11, .int .i64 (i : Int))]) (fun i w => Own k w [rB r p R.length c, rS p c R, rB r2 p2 Q.length c2, rS p2 c2 Q, pool G, blk b9 129 (Ref01_one.cells o), blk b10 129 (Ref01_one.cells q)] ∧ (i ≤ o.Attrs.length ∧ ∀ j, j < i → at_ o.Attrs j = at_ q.Attrs j)) (fun i => o.Attrs.length - i) (0) ⟨rfl, rfl, rfl, rfl, rfl, rfl, trivial⟩ ⟨hO.only [.b r, .p p, .b r2, .p p2, .f, .b b9, .b b10], ⟨Nat.zero_le _, fun j h => absurd h (Nat.not_lt_zero _)⟩⟩ ?_
    rintro i w m hm ⟨hO, hi⟩
    refine K0 (K0 (K1 ?_))
    refine l_y rfl rfl (y_move rfl) ?_
    refine l_y rfl rfl (y_fldb (o' := 3) rfl) ?_
    refine l_y rfl rfl (D5 hO rfl) ?_
    refine l_y rfl rfl (y_lenL rfl) ?_
    refine Z0 (fun h8_4 => ?_) (fun h8_4 => ?_)
    · refine K2 (K3 (L8 (K5 (K3 (K0 (K4 (K0 ?_)))))))
      refine da_region (by intro c a d v w h; cases d <;> exact h) ?_
      have hO := hO.drew
      refine da_phase _ [] (SO.ks [.b b9, .f, .b b10] hO) ?_
      refine dx_u 0 (by kernel_rfl) rfl rfl rfl (fun w => y_fldb (o' := 3) rfl) ?_
      refine dx_y 1 (by kernel_rfl) rfl rfl rfl (fun w ⟨m, hw⟩ => D5 hw rfl) ?_
      refine dx_u 2 (by kernel_rfl) rfl rfl rfl (fun w => y_move rfl) ?_
      refine dx_u 3 (by kernel_rfl) rfl rfl rfl (fun w => y_idx rfl rfl) ?_
      refine dx_y 4 (by kernel_rfl) rfl rfl rfl (fun w ⟨m, hw⟩ => y_pA (x0 := 0) (enc := Api_attr.cells) (xs := o.Attrs) (cs := [.int .i64 (at_ o.Attrs ((i : Int) : Int).toNat).Space, .string (at_ o.Attrs ((i : Int) : Int).toNat).Prefix, .string (at_ o.Attrs ((i : Int) : Int).toNat).Name, .string (at_ o.Attrs ((i : Int) : Int).toNat).Value]) hw rfl) ?_
      refine dx_u 5 (by kernel_rfl) rfl rfl rfl (fun w => y_fldb (o' := 3) rfl) ?_
      refine dx_y 6 (by kernel_rfl) rfl rfl rfl (fun w ⟨m, hw⟩ => D5 hw rfl) ?_
      refine dx_u 7 (by kernel_rfl) rfl rfl rfl (fun w => y_move rfl) ?_
      refine dx_u 8 (by kernel_rfl) rfl rfl rfl (fun w => y_idx rfl rfl) ?_
      refine dx_y 9 (by kernel_rfl) rfl rfl rfl (fun w ⟨m, hw⟩ => y_pA (x0 := 0) (enc := Api_attr.cells) (xs := q.Attrs) (cs := [.int .i64 (at_ q.Attrs ((i : Int) : Int).toNat).Space, .string (at_ q.Attrs ((i : Int) : Int).toNat).Prefix, .string (at_ q.Attrs ((i : Int) : Int).toNat).Name, .string (at_ q.Attrs ((i : Int) : Int).toNat).Value]) hw rfl) ?_
      refine dx_y 10 (by kernel_rfl) rfl rfl rfl (fun w ⟨m, hw⟩ => y_neA (enc := Api_attr.cells) (a := at_ o.Attrs i) (b := at_ q.Attrs i) rfl rfl rfl) ?_
      refine dx_end (by kernel_rfl) ?_
      refine K3 ?_
      refine c_split rfl (fun hc114 => ?_) (fun hc114 => ?_)
      · simp only [Bool.not_eq_true', Bool.not_eq_false'] at hc114
        refine K0 (K1 ?_)
        refine l_y rfl rfl (y_assign rfl) ?_
        refine K2 (K3 (K6 (L0 (K9 (K9 (L0 (K9 ?_)))))))
        have hne : ¬ at_ o.Attrs i = at_ q.Attrs i := by simpa using hc114
        have hno : ¬ Loc A K B L x y := fun hl => hne (by rw [sx.attrs, sy.attrs]; exact congrArg (fun z => at_ z i) hl.attrs)
        exact fin1 rfl rfl ⟨_, ⟨by rw [sameF_succ, locB_not hno]; rfl, rfl⟩, hO.only [.b r, .p p, .b r2, .p p2, .f]⟩
      · simp only [Bool.not_eq_true', Bool.not_eq_false'] at hc114
        refine K5 (K8 (K3 ?_))
        have heq : at_ o.Attrs i = at_ q.Attrs i := by simpa using hc114
        refine K1 ?_
        refine l_y rfl rfl (y_move rfl) ?_
        refine l_y rfl rfl (D4) ?_
        refine l_y rfl rfl (y_assign rfl) ?_
        refine K2 ?_
        exact q_next (i + 1) ⟨rfl, rfl, rfl, rfl, rfl, rfl, trivial⟩ ⟨hO.only [.b r, .p p, .b r2, .p p2, .f, .b b9, .b b10], ⟨by omega, fun j hj => if e : j = i then (by rw [e]; exact heq) else hi.2 j (by omega)⟩⟩ (by omega)
    · refine K2 (K3 (L9 (K7 (L1 (L1 (L2 (K3 (K0 (K0 ?_)))))))))
      have hat : o.Attrs = q.Attrs := at_ext g6 fun j hj => hi.2 j (by omega)
      have hloc : Loc A K B L x y := ⟨h1, h2, by rw [← show o.Kind = _ from sx.kind, ← show q.Kind = _ from sy.kind]; exact g1, by rw [← show o.Space = _ from sx.space, ← show q.Space = _ from sy.space]; exact g2, by rw [← show o.Name = _ from sx.name, ← show q.Name = _ from sy.name]; exact g3, by rw [← show o.Data = _ from sx.data, ← show q.Data = _ from sy.data]; exact g4, by rw [← show o.System = _ from sx.system, ← show q.System = _ from sy.system]; exact g5, by rw [← show o.Attrs = _ from sx.attrs, ← show q.Attrs = _ from sy.attrs]; exact hat, by rw [← sx.kids, ← sy.kids]; exact g7, by rw [← show o.Inner = _ from sx.inner, ← show q.Inner = _ from sy.inner]; exact g8⟩
      have hmem : ∀ p ∈ belowP A K B L x y, cnt A p.1 ≤ f := fun p hp => by have := sum_memP (f := fun p => cnt A p.1) hp; omega
      have hzip : ∀ i, i < o.Kids.length → (at_ o.Kids i, at_ q.Kids i) ∈ belowP A K B L x y := fun i hi => List.mem_append_right _ (by rw [← sx.kids, ← sy.kids]; exact zip_mem hi g7)
      have hres : sameF A K B L (f + 1) x y = ((if o.Inner = -1 then true else sameF A K B L f o.Inner q.Inner) && (o.Kids.zip q.Kids).all fun p => sameF A K B L f p.1 p.2) := by
        rw [sameF_succ, locB_iff.2 hloc, below_all, Bool.true_and, sx.kids, sy.kids, show o.Inner = _ from sx.inner, show q.Inner = _ from sy.inner]
      refine K1 ?_
      refine l_y rfl rfl (y_assign rfl) ?_
      refine K2 (K3 (K4 ?_))
      refine c_rounds (X := Nat) (fun i => [(0, .pointer (some ⟨r, 0, none⟩)), (2, .pointer (some ⟨r2, 0, none⟩)), (8, .bool false), (9, .pointer (some ⟨b9, 0, none⟩)), (10, .pointer (some ⟨b10, 0, none⟩)), (12, .int .i64 (i : Int))]) (fun i w => Own k w [rB r p R.length c, rS p c R, rB r2 p2 Q.length c2, rS p2 c2 Q, pool G, blk b9 129 (Ref01_one.cells o), blk b10 129 (Ref01_one.cells q)] ∧ (i ≤ o.Kids.length ∧ ∀ j, j < i → sameF A K B L f (at_ o.Kids j) (at_ q.Kids j) = true)) (fun i => o.Kids.length - i) (0) ⟨rfl, rfl, rfl, rfl, rfl, rfl, trivial⟩ ⟨hO.only [.b r, .p p, .b r2, .p p2, .f, .b b9, .b b10], ⟨Nat.zero_le _, fun j h => absurd h (Nat.not_lt_zero _)⟩⟩ ?_
      rintro i w m hm ⟨hO, hj⟩
      refine K0 (K0 (K1 ?_))
      refine l_y rfl rfl (y_move rfl) ?_
      refine l_y rfl rfl (y_fldb (o' := 9) rfl) ?_
      refine l_y rfl rfl (D5 hO rfl) ?_
      refine l_y rfl rfl (y_lenL rfl) ?_
      refine Z0 (fun h13_4 => ?_) (fun h13_4 => ?_)
      · refine K2 (K3 (L8 (K5 (K3 (K0 (K4 (K0 ?_)))))))
        refine da_region (by intro c a d v w h; cases d <;> exact h) ?_
        have hO := hO.drew
        refine da_phase _ [12] (SO.ks [.b b9, .f, .b b10] hO) ?_
        refine dx_u 0 (by kernel_rfl) rfl rfl rfl (fun w => y_move rfl) ?_
        refine dx_u 1 (by kernel_rfl) rfl rfl rfl (fun w => y_fldb (o' := 9) rfl) ?_
        refine dx_y 2 (by kernel_rfl) rfl rfl rfl (fun w ⟨m, hw⟩ => D5 hw rfl) ?_
        refine dx_u 3 (by kernel_rfl) rfl rfl rfl (fun w => y_move rfl) ?_
        refine dx_u 4 (by kernel_rfl) rfl rfl rfl (fun w => y_idx rfl rfl) ?_
        refine dx_y 5 (by kernel_rfl) rfl rfl rfl (fun w ⟨m, hw⟩ => y_p1 (x0 := 0) (enc := (eI .i64)) (xs := o.Kids) hw rfl) ?_
        refine dx_u 6 (by kernel_rfl) rfl rfl rfl (fun w => y_move rfl) ?_
        refine dx_u 7 (by kernel_rfl) rfl rfl rfl (fun w => y_fldb (o' := 9) rfl) ?_
        refine dx_y 8 (by kernel_rfl) rfl rfl rfl (fun w ⟨m, hw⟩ => D5 hw rfl) ?_
        refine dx_u 9 (by kernel_rfl) rfl rfl rfl (fun w => y_move rfl) ?_
        refine dx_u 10 (by kernel_rfl) rfl rfl rfl (fun w => y_idx rfl rfl) ?_
        refine dx_y 11 (by kernel_rfl) rfl rfl rfl (fun w ⟨m, hw⟩ => y_p1 (x0 := 0) (enc := (eI .i64)) (xs := q.Kids) hw rfl) ?_
        refine dx_close 12 (by kernel_rfl) rfl rfl ?_
        refine CK [.b r, .p p, .b r2, .p p2, .f] hO rfl (fun k' hx' hr hO' => ih k' _ (at_ o.Kids ((i : Int)).toNat) (at_ q.Kids ((i : Int)).toNat) (hmem _ (hzip i (by omega))) hO') ?_
        rintro _ _ w ⟨rfl, rfl⟩ hO
        simp only [List.cons_append, List.nil_append] at hO
        refine o_done ?_
        refine da_phase _ [] (SO.ks [] hO) ?_
        refine dx_u 13 (by kernel_rfl) rfl rfl rfl (fun w => y_not rfl rfl) ?_
        refine dx_end (by kernel_rfl) ?_
        refine K3 ?_
        refine c_split rfl (fun hc135 => ?_) (fun hc135 => ?_)
        · simp only [Bool.not_eq_true', Bool.not_eq_false'] at hc135
          refine K0 (K1 ?_)
          refine l_y rfl rfl (y_assign rfl) ?_
          refine K2 (K3 (K6 (L0 (K9 (K9 (L0 (K9 ?_)))))))
          have hz : sameF A K B L f (at_ o.Kids i) (at_ q.Kids i) = false := by simpa using hc135
          exact fin1 rfl rfl ⟨_, ⟨by rw [hres, zip_false (i := i) (by omega) g7 hz]; simp, rfl⟩, hO.only [.b r, .p p, .b r2, .p p2, .f]⟩
        · simp only [Bool.not_eq_true', Bool.not_eq_false'] at hc135
          refine K5 (K8 (K3 (K1 ?_)))
          refine l_y rfl rfl (y_move rfl) ?_
          refine l_y rfl rfl (D4) ?_
          refine l_y rfl rfl (y_assign rfl) ?_
          refine K2 ?_
          exact q_next (i + 1) ⟨rfl, rfl, rfl, rfl, rfl, rfl, trivial⟩ ⟨hO.only [.b r, .p p, .b r2, .p p2, .f, .b b9, .b b10], ⟨by omega, fun j hlt => if e : j = i then (by rw [e]; simpa using hc135) else hj.2 j (by omega)⟩⟩ (by omega)
      · refine K2 (K3 (L9 (K7 (L1 (L1 (L2 (K3 (K0 ?_))))))))
        have hz : ((o.Kids.zip q.Kids).all fun p => sameF A K B L f p.1 p.2) = true := zip_true g7 fun j hlt => hj.2 j (by omega)
        rw [hz, Bool.and_true] at hres
        refine K1 ?_
        refine l_y rfl rfl (y_fldb (o' := 6) rfl) ?_
        refine l_y rfl rfl (D5 hO rfl) ?_
        refine Z0 (fun h17_2 => ?_) (fun h17_2 => ?_)
        · refine l_y rfl rfl (y_move rfl) ?_
          repeat refine M2 ?_
          refine l_y rfl rfl (y_pick_t rfl rfl) ?_
          refine l_y rfl rfl (y_assign rfl) ?_
          refine K2 (K3 (K6 ?_))
          exact fin1 rfl rfl ⟨_, ⟨by rw [hres, if_pos h17_2], rfl⟩, hO.only [.b r, .p p, .b r2, .p p2, .f]⟩
        · refine l_y rfl rfl (y_move rfl) ?_
          refine l_y rfl rfl (y_move rfl) ?_
          refine l_y rfl rfl (y_fldb (o' := 6) rfl) ?_
          refine l_y rfl rfl (D5 hO rfl) ?_
          refine l_y rfl rfl (y_move rfl) ?_
          refine l_y rfl rfl (y_fldb (o' := 6) rfl) ?_
          refine l_y rfl rfl (D5 hO rfl) ?_
          have hin : (o.Inner, q.Inner) ∈ belowP A K B L x y := by
            refine List.mem_append_left _ ?_
            rw [if_neg (by rw [← show o.Inner = _ from sx.inner]; exact h17_2), ← show o.Inner = _ from sx.inner, ← show q.Inner = _ from sy.inner]; simp
          refine CK [.b r, .p p, .b r2, .p p2, .f] hO rfl (fun k' hx' hr hO' => ih k' _ o.Inner q.Inner (hmem _ hin) hO') ?_
          rintro _ _ w ⟨rfl, rfl⟩ hO
          simp only [List.cons_append, List.nil_append] at hO
          refine l_y rfl rfl (y_pick_f rfl rfl) ?_
          refine l_y rfl rfl (y_assign rfl) ?_
          refine K2 (K3 (K6 ?_))
          exact fin1 rfl rfl ⟨_, ⟨by rw [hres, if_neg h17_2], rfl⟩, hO.only [.b r, .p p, .b r2, .p p2, .f]⟩
theorem rsame_all {A : List Node_one} {K : Int → List Int} {R : List Ref01_one} {B : List Node_one} {L : Int → List Int} {Q : List Ref01_one} {r r2 c c2 : Nat} {p p2 : Option Addr} {G : Pl} (t : RTwo A K R B L Q p p2 G) : ∀ f, RSameP A K R B L Q r p c r2 p2 c2 G f
  | 0 => fun k w x y hf hO => rsame_out t (fun h => absurd (cnt_pos (inA_iff.1 h.1)) (by omega)) hO
  | f + 1 => fun k w x y hf hO => by
    by_cases h : hasB A x = true ∧ hasB B y = true
    · exact rsame_in t (rsame_all t f) h.1 h.2 hf hO
    · exact rsame_out t h hO
theorem rSame_spec {A : List Node_one} {K : Int → List Int} {R : List Ref01_one} {B : List Node_one} {L : Int → List Int} {Q : List Ref01_one} {r r2 : Nat} {x y : Int} (tA : Tree A K) (gA : InnOk A) (tB : Tree B L) (sA : Sim A K R) (sB : Sim B L Q) (hA : A.length ≤ 1000) (hB : B.length ≤ 1000) (hO : Own k w [rarL r R, rarL r2 Q]) :
    Tri Try.prog 22 #[.pointer (some ⟨r, 0, none⟩), .int .i64 x, .pointer (some ⟨r2, 0, none⟩), .int .i64 y] k w fun v m => v = .bool (sameN A K B L x y) ∧ m = [] := by
  obtain ⟨p, c, F, hg, hF, hO⟩ := rarL_open hO
  obtain ⟨p2, c2, F2, hg2, hF2, hO⟩ := rarL_open (hO.ks [.o r2])
  have h2 := hO.pulls (As := [pool F2, pool F]) (.cons (.tl _ (.tl _ (.hd _ _))) (.cons (.tl _ (.tl _ (.tl _ (.tl _ (.hd _ _))))) (.nil _)))
  obtain ⟨G, e1, e2, hO⟩ := pool_two h2
  have hO : Own k w [pool G, rB r2 p2 Q.length c2, rS p2 c2 Q, rB r p R.length c, rS p c R] := hO
  have t : RTwo A K R B L Q p p2 G := ⟨tA, gA, tB, sA, sB, hg, hg2, hF.le e2, hF2.le e1, hA, hB⟩
  refine Ret.mono (rsame_all (c := c) (c2 := c2) t A.length k w x y cnt_le (hO.only [.b r, .p p, .b r2, .p p2, .f])) ?_
  rintro v w' ⟨m, ⟨rfl, rfl⟩, h⟩
  exact ⟨_, ⟨rfl, rfl⟩, h.none⟩
end
end Go.Proofs.Ythkmnohghpdjhaa
