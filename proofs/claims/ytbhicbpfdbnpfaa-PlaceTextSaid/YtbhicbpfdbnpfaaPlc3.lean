/- The worlds that the laws of places build. -/
import Derived.Test.YtbhicbpfdbnpfaaPlc2
import Derived.Test.YtbhicbpfdbnpfaaStkI
set_option linter.unusedVariables false
set_option linter.unusedSimpArgs false
set_option maxRecDepth 100000
namespace Go.Proofs.Ytbhicbpfdbnpfaa
open Go Go.Hb Go.RowKit Go.ChangeShapes Go.WideShapes Go.ChangeAt
theorem rd_Law14_act {H : Type} {enc : TypeId × Value → H} {W : World} : Reads enc Try.prog W 166 (QSt [QStr, QInt .i64, QBool]) := by
  have h : Try.prog.cellsOf 166 = 3 := by kernel_rfl
  letI : Und Try.prog 166 _ := ⟨Try.underlying166⟩
  refine r_st ?_
  rw [h]
  exact .cons (m := 1) rfl (by kernel_rfl) r_str (.cons (m := 1) rfl (by kernel_rfl) r_int (.cons (m := 1) rfl (by kernel_rfl) r_bool (.nil _)))
theorem of_Law14_act {H : Type} {r : List Value} {d : DataW H} (h : QSt [QStr, QInt .i64, QBool] r d) : ∃ o : Law14_act, r = Law14_act.cells o ∧ True := by
  obtain ⟨ps, rfl, hq⟩ := h
  obtain ⟨c0, cs0, d0, ds0, rfl, rfl, g0, hq⟩ := hq.un
  obtain ⟨c1, cs1, d1, ds1, rfl, rfl, g1, hq⟩ := hq.un
  obtain ⟨c2, cs2, d2, ds2, rfl, rfl, g2, hq⟩ := hq.un
  obtain ⟨rfl, rfl⟩ := hq.un0
  obtain ⟨n0, rfl, rfl, _⟩ := g0
  obtain ⟨n1, rfl, rfl, _⟩ := g1
  obtain ⟨n2, rfl, rfl⟩ := g2
  exact ⟨⟨n0, n1, n2⟩, by simp [Law14_act.cells], trivial⟩
theorem linkL_core {A : List Node_one} {K : Int → List Int} (t : Tree A K) {up id before : Int} {y : Int} (hy : 0 ≤ y) : coreN (at_ (linkL A up id before).2 y.toNat) = coreN (at_ A y.toNat) := by
  by_cases h0 : (linkL A up id before).1 = 0
  · obtain ⟨l1, l2, g⟩ := link_ok t h0
    exact ((g.put t).2 y hy).core
  · rw [linkL_err h0]
/-! what one more element is -/
section
variable {A : List Node_one} {sp : Int} {nm : ByteArray} {q : Option Addr} {d : Nat}
theorem el_form (A : List Node_one) (sp : Int) (nm : ByteArray) (q : Option Addr) (d : Nat) : (∃ e, e ≠ 0 ∧ elementL A sp nm [] q d = (0, e, A)) ∨
    (0 ≤ sp ∧ sp ≤ 2 ∧ (elementL A sp nm [] q d).1 = A.length ∧ (elementL A sp nm [] q d).2.1 = 0 ∧ ((tmpl sp nm ∧ (elementL A sp nm [] q d).2.2 = setHost (setInner (A ++ [blankN (elementN q d sp nm [])] ++ [blankN fragmentN]) A.length (A ++ [blankN (elementN q d sp nm [])]).length) (A ++ [blankN (elementN q d sp nm [])]).length A.length) ∨ (¬ tmpl sp nm ∧ (elementL A sp nm [] q d).2.2 = A ++ [blankN (elementN q d sp nm [])]))) := by
  unfold elementL
  by_cases h1 : sp < 0 ∨ 2 < sp
  · rw [if_pos h1]; exact .inl ⟨1, by decide, rfl⟩
  rw [if_neg h1]
  by_cases h2 : 1024 < ([] : List Api_attr).length
  · rw [if_pos h2]; exact .inl ⟨2, by decide, rfl⟩
  rw [if_neg h2]
  by_cases h3 : tmpl sp nm ∧ A.length = 32767
  · rw [if_pos h3]; exact .inl ⟨9, by decide, rfl⟩
  rw [if_neg h3]
  by_cases h4 : longB (nm :: attrTexts []) = true
  · rw [if_pos h4]; exact .inl ⟨2, by decide, rfl⟩
  rw [if_neg h4]
  by_cases h5 : 32768 ≤ A.length
  · rw [if_pos h5]; exact .inl ⟨9, by decide, rfl⟩
  rw [if_neg h5]
  right
  by_cases h6 : tmpl sp nm
  · rw [if_pos h6]; exact ⟨by omega, by omega, rfl, rfl, .inl ⟨h6, rfl⟩⟩
  · rw [if_neg h6]; exact ⟨by omega, by omega, rfl, rfl, .inr ⟨h6, rfl⟩⟩
theorem el_len : (elementL A sp nm [] q d).2.2.length ≤ A.length + 2 := by
  rcases el_form A sp nm q d with ⟨e, _, h⟩ | ⟨_, _, _, _, ⟨_, h⟩ | ⟨_, h⟩⟩ <;> rw [h]
  · exact Nat.le_add_right _ _
  · simp [setHost, setInner]
  · simp
theorem el_lenge : A.length ≤ (elementL A sp nm [] q d).2.2.length := by
  rcases el_form A sp nm q d with ⟨e, _, h⟩ | ⟨_, _, _, _, ⟨_, h⟩ | ⟨_, h⟩⟩ <;> rw [h]
  · exact Nat.le_refl _
  · simp only [setHost, setInner, List.length_set, List.length_append]; omega
  · simp
theorem el_old {y : Nat} (hy : y < A.length) : at_ (elementL A sp nm [] q d).2.2 y = at_ A y := by
  rcases el_form A sp nm q d with ⟨e, _, h⟩ | ⟨_, _, _, _, ⟨_, h⟩ | ⟨_, h⟩⟩ <;> rw [h]
  · rw [setHost, setInner, at_set_ne (by simp; omega), at_set_ne (by omega), List.append_assoc, at_app_l hy]
  · rw [at_app_l hy]
/-- what is new: the element, and a template's contents -/
theorem el_new {y : Nat} (hy : A.length ≤ y) (hl : y < (elementL A sp nm [] q d).2.2.length) :
    (y = A.length ∧ 0 ≤ sp ∧ sp ≤ 2 ∧ (at_ (elementL A sp nm [] q d).2.2 y).Node.Kind = 1 ∧ (at_ (elementL A sp nm [] q d).2.2 y).Node.Space = sp ∧ (at_ (elementL A sp nm [] q d).2.2 y).Node.Name = nm ∧ (tmpl sp nm → (at_ (elementL A sp nm [] q d).2.2 y).Node.Inner ≠ -1)) ∨
    ((at_ (elementL A sp nm [] q d).2.2 y).Node.Kind = 5 ∧ (at_ (elementL A sp nm [] q d).2.2 y).Node.Space = 0) := by
  rcases el_form A sp nm q d with ⟨e, _, h⟩ | ⟨h0, h1, _, _, ⟨ht, h⟩ | ⟨ht, h⟩⟩ <;> rw [h] at hl ⊢
  · simp at hl; omega
  · have hl' : y < A.length + 2 := by simpa [setHost, setInner] using hl
    have eA : at_ (A ++ [blankN (elementN q d sp nm [])] ++ [blankN fragmentN]) A.length = blankN (elementN q d sp nm []) := by rw [at_app_l (by simp), at_app_new]
    have eB : at_ (A ++ [blankN (elementN q d sp nm [])] ++ [blankN fragmentN]) (A.length + 1) = blankN fragmentN := by
      have := at_app_new (xs := A ++ [blankN (elementN q d sp nm [])]) (x := blankN fragmentN)
      simpa using this
    by_cases hy2 : y = A.length
    · subst hy2
      left
      have e1 : at_ (setHost (setInner (A ++ [blankN (elementN q d sp nm [])] ++ [blankN fragmentN]) A.length (A ++ [blankN (elementN q d sp nm [])]).length) (A ++ [blankN (elementN q d sp nm [])]).length A.length) A.length = { blankN (elementN q d sp nm []) with Node := { (blankN (elementN q d sp nm [])).Node with Inner := (A ++ [blankN (elementN q d sp nm [])]).length } } := by
        rw [setHost, at_set_ne (by simp), setInner, show ((A.length : Nat) : Int).toNat = A.length by omega, at_set_eq (by simp), eA]
      rw [e1]
      exact ⟨rfl, h0, h1, rfl, rfl, rfl, fun _ => by simp; omega⟩
    · right
      have hy3 : y = A.length + 1 := by omega
      subst hy3
      have e1 : at_ (setHost (setInner (A ++ [blankN (elementN q d sp nm [])] ++ [blankN fragmentN]) A.length (A ++ [blankN (elementN q d sp nm [])]).length) (A ++ [blankN (elementN q d sp nm [])]).length A.length) (A.length + 1) = { blankN fragmentN with host := A.length } := by
        have e2 : (((A ++ [blankN (elementN q d sp nm [])]).length : Nat) : Int).toNat = A.length + 1 := by simp
        rw [setHost, e2, at_set_eq (by simp [setInner]), setInner, at_set_ne (by omega), eB]
      rw [e1]
      exact ⟨rfl, rfl⟩
  · have : y = A.length := by simp at hl; omega
    subst this
    rw [at_app_new]
    exact .inl ⟨rfl, h0, h1, rfl, rfl, rfl, fun h => absurd h ht⟩
end
/-- what holds of all nodes of such a world -/
structure WI (A : List Node_one) : Prop where
  par : ∀ y : Nat, y < A.length → parentB (at_ A y).Node.Kind = true
  sp : SpOk A
  tm : ∀ y : Nat, y < A.length → (at_ A y).Node.Kind = 1 → tmpl (at_ A y).Node.Space (at_ A y).Node.Name → (at_ A y).Node.Inner ≠ -1
theorem WI.new : WI [docD] := ⟨fun y hy => by
  have : y = 0 := by simp at hy; omega
  subst this; rfl, SpOk.new, fun y hy hk => by
  have : y = 0 := by simp at hy; omega
  subst this; exact absurd hk (by decide)⟩
theorem WI.el {A : List Node_one} (h : WI A) {sp : Int} {nm : ByteArray} {q : Option Addr} {d : Nat} : WI (elementL A sp nm [] q d).2.2 := ⟨fun y hy => by
  by_cases h1 : y < A.length
  · rw [el_old h1]; exact h.par y h1
  · rcases el_new (by omega) hy with ⟨_, _, _, hk, _⟩ | ⟨hk, _⟩ <;> rw [hk] <;> rfl, h.sp.element, fun y hy hk ht => by
  by_cases h1 : y < A.length
  · rw [el_old h1] at hk ht ⊢; exact h.tm y h1 hk ht
  · rcases el_new (by omega) hy with ⟨_, _, _, _, e1, e2, h2⟩ | ⟨h2, _⟩
    · rw [e1, e2] at ht; exact h2 ht
    · rw [h2] at hk; exact absurd hk (by decide)⟩
theorem core_space {o p : Node_one} (h : coreN o = coreN p) : o.Node.Space = p.Node.Space := by have := congrArg (fun z : Node_one => z.Node.Space) h; simpa only [coreN] using this
theorem core_name {o p : Node_one} (h : coreN o = coreN p) : o.Node.Name = p.Node.Name := by have := congrArg (fun z : Node_one => z.Node.Name) h; simpa only [coreN] using this
theorem WI.core {A B : List Node_one} (h : WI A) (hl : B.length = A.length) (hc : ∀ y : Int, 0 ≤ y → coreN (at_ B y.toNat) = coreN (at_ A y.toNat)) : WI B := by
  have hc' : ∀ y : Nat, coreN (at_ B y) = coreN (at_ A y) := fun y => by have := hc (y : Int) (by omega); simpa using this
  exact ⟨fun y hy => by rw [core_kind (hc' y)]; exact h.par y (by omega), fun y hy => by rw [core_space (hc' y)]; exact h.sp y (by omega), fun y hy hk ht => by
    rw [core_kind (hc' y)] at hk
    rw [core_space (hc' y), core_name (hc' y)] at ht
    rw [core_inner (hc' y)]
    exact h.tm y (by omega) hk ht⟩
theorem elB_core {A B : List Node_one} (hl : B.length = A.length) (hc : ∀ y : Int, 0 ≤ y → coreN (at_ B y.toNat) = coreN (at_ A y.toNat)) (x : Int) : elB B x = elB A x := by
  unfold elB hasB
  rw [hl]
  by_cases h : 0 ≤ x ∧ x < A.length
  · rw [core_kind (hc x h.1)]
  · rw [decide_eq_false h]; rfl
theorem elB_el {A : List Node_one} {sp : Int} {nm : ByteArray} {q : Option Addr} {d : Nat} {x : Int} (h : elB A x = true) : elB (elementL A sp nm [] q d).2.2 x = true := by
  have hb := hasB_true (elB_has h)
  have hg := el_lenge (A := A) (sp := sp) (nm := nm) (q := q) (d := d)
  unfold elB hasB at h ⊢
  rw [Bool.and_eq_true] at h ⊢
  exact ⟨decide_eq_true (by omega), by rw [el_old (by omega)]; exact h.2⟩
theorem StkI.el' {A : List Node_one} {l : List Int} (h : StkI A l) {sp : Int} {nm : ByteArray} {q : Option Addr} {d : Nat} : StkI (elementL A sp nm [] q d).2.2 l := ⟨fun x hx => elB_el (h.el x hx), h.nodup⟩
theorem StkI.core {A B : List Node_one} {l : List Int} (h : StkI A l) (hl : B.length = A.length) (hc : ∀ y : Int, 0 ≤ y → coreN (at_ B y.toNat) = coreN (at_ A y.toNat)) : StkI B l := ⟨fun x hx => by rw [elB_core hl hc]; exact h.el x hx, h.nodup⟩
theorem nam_tmpl {A : List Node_one} {x : Int} (h : namA A templL x = true) : tmpl (at_ A x.toNat).Node.Space (at_ A x.toNat).Node.Name := by
  rw [namA, namB, Bool.and_eq_true] at h
  obtain ⟨t, ht, e⟩ := List.any_eq_true.1 h.2
  refine ⟨of_decide_eq_true h.1, ?_⟩
  have h1 := of_decide_eq_true e
  simp only [templL, List.mem_cons, List.not_mem_nil, or_false] at ht
  rw [h1, ht]; rfl
theorem WI.inn {A : List Node_one} (h : WI A) : ∀ x, elB A x = true → namA A templL x = true → (nd A x).Inner ≠ -1 := fun x he hn => by
  have hb := hasB_true (elB_has he)
  rw [elB, Bool.and_eq_true] at he
  exact h.tm x.toNat (by omega) (of_decide_eq_true he.2) (nam_tmpl hn)
theorem FosOk.of {A : List Node_one} {K : Int → List Int} {l : List Int} (t : Tree A K) (h : WI A) (hel : AllEl A l) : FosOk A l := fun hne => by
  have hhas : ∀ i : Nat, i < l.length → hasB A (at_ l i) = true := fun i h1 => elB_has (hel _ (at_mem h1))
  unfold fosterV at hne ⊢
  split
  · next h1 =>
    rcases lastV_cases (namA A templL) l with h2 | ⟨i, h2, h3, h4⟩
    · rcases lastV_cases (namA A tableL) l with h5 | ⟨j, h5, _⟩ <;> omega
    · have e1 : (lastV (namA A templL) l).toNat = i := by omega
      have h6 := h.inn _ (hel _ (at_mem h3)) h4
      rw [e1]
      exact inA_iff.2 ((t.inner _ (inA_iff.1 (hhas i h3))).resolve_left h6)
  · next h1 =>
    split
    · next h2 =>
      split
      · next h3 => exact hhas 0 h3
      · next h3 => rw [if_neg h1, if_pos h2, if_neg h3] at hne; exact absurd rfl hne
    · next h2 =>
      rcases lastV_cases (namA A tableL) l with h5 | ⟨j, h5, h6, _⟩
      · omega
      have e1 : (lastV (namA A tableL) l).toNat = j := by omega
      split
      · next h3 => rw [e1] at h3 ⊢; exact inA_iff.2 ((t.up _ (inA_iff.1 (hhas j h6)) h3).1)
      · next h3 =>
        split
        · next h4 => exact hhas (lastV (namA A tableL) l - 1).toNat (by omega)
        · next h4 => rw [if_neg h1, if_neg h2, if_neg h3, if_neg h4] at hne; exact absurd rfl hne
section
variable {k : Ctx} {w : World} {a r s z : Nat} {A : List Node_one} {K : Int → List Int} {R : List Ref01_one} {l : List Int}
structure W14 where
  i : Nat
  A : List Node_one
  K : Int → List Int
  R : List Ref01_one
  l : List Int
set_option maxHeartbeats 4000000 in
theorem world_spec {lp : Option Addr} {lc : Nat} {L : List Law14_act} (hs : Sli (Ro k) (.slice lp L.length lc) (L.map Law14_act.cells)) (hO : Own k w []) :
    Tri Try.prog 52 #[.slice lp L.length lc] k w fun v m => ∃ a r s z A K R l, v = .tuple #[.pointer (some ⟨a, 0, none⟩), .pointer (some ⟨r, 0, none⟩), .pointer (some ⟨s, 0, none⟩), .pointer (some ⟨z, 0, none⟩)] ∧ m = [arenaL a A, rarL r R, stkL s a l, rstkL z r l] ∧ Two A K R ∧ WI A ∧ StkI A l ∧ A.length ≤ 401 := by
  refine enter (args := [.slice lp L.length lc]) Try.func52 rfl rfl ?_
  have hgs := sli_gs hs
  refine K0 (K1 ?_)
  refine l_y rfl rfl (y_assign rfl) ?_
  refine l_y rfl rfl (y_assign rfl) ?_
  refine l_y rfl rfl (y_assign rfl) ?_
  refine l_y rfl rfl (y_assign rfl) ?_
  refine K2 (K3 (K0 (K1 ?_)))
  refine CK [] hO rfl (fun k' hx hr hO' => New_spec (hO := hO')) ?_
  rintro _ _ w ⟨a16, rfl, rfl⟩ hO
  simp only [List.cons_append, List.nil_append] at hO
  refine l_y rfl rfl (y_assign rfl) ?_
  refine K2 (K3 (K0 (K1 ?_)))
  refine CK [] hO rfl (fun k' hx hr hO' => rNew_spec (hO := hO')) ?_
  rintro _ _ w ⟨r17, rfl, rfl⟩ hO
  simp only [List.cons_append, List.nil_append] at hO
  refine l_y rfl rfl (y_assign rfl) ?_
  refine K2 (K3 (K0 (K1 ?_)))
  refine l_y rfl rfl (y_move rfl) ?_
  refine CK [.o a16] hO rfl (fun k' hx hr hO' => sNew_spec (A := [docD]) (by decide) (hO := hO')) ?_
  rintro _ _ w ⟨s20, rfl, rfl⟩ hO
  simp only [List.cons_append, List.nil_append] at hO
  refine l_y rfl rfl (y_move rfl) ?_
  refine l_y rfl rfl (y_extract rfl rfl) ?_
  refine l_y rfl rfl (y_extract rfl rfl) ?_
  refine l_y rfl rfl (y_assign rfl) ?_
  refine l_y rfl rfl (y_assign rfl) ?_
  refine K2 (K3 (K0 (K1 ?_)))
  refine l_y rfl rfl (y_move rfl) ?_
  refine CK [.o r17] hO rfl (fun k' hx hr hO' => tNew_spec (hO := hO')) ?_
  rintro _ _ w ⟨z24, rfl, rfl⟩ hO
  simp only [List.cons_append, List.nil_append] at hO
  refine l_y rfl rfl (y_assign rfl) ?_
  refine K2 (K3 (K0 (K0 (K1 ?_))))
  refine l_y rfl rfl (y_assign rfl) ?_
  refine K2 (K3 (K4 ?_))
  refine c_rounds (X := W14) (fun x => [(0, .slice lp L.length lc), (2, .pointer none), (3, .pointer none), (4, .pointer none), (5, .pointer none), (6, .pointer (some ⟨a16, 0, none⟩)), (7, .pointer (some ⟨r17, 0, none⟩)), (8, .pointer (some ⟨s20, 0, none⟩)), (10, .pointer (some ⟨z24, 0, none⟩)), (11, .int .i64 (x.i : Int))]) (fun x w => Own k w [arenaL a16 x.A, rarL r17 x.R, stkL s20 a16 x.l, rstkL z24 r17 x.l] ∧ (x.i ≤ L.length ∧ x.i ≤ 200) ∧ (Two x.A x.K x.R) ∧ (WI x.A) ∧ (StkI x.A x.l) ∧ (x.A.length ≤ 1 + 2 * x.i)) (fun x => L.length - x.i) (⟨0, [docD], fun _ => [], [docR], []⟩) ⟨rfl, rfl, rfl, rfl, rfl, rfl, rfl, rfl, rfl, rfl, trivial⟩ ⟨hO.only [.o a16, .o r17, .o s20, .o z24], ⟨Nat.zero_le _, Nat.zero_le _⟩, Two.new, WI.new, StkI.nil, by decide⟩ ?_
  rintro x w m hm ⟨hO, hi, t, hw, hI, hlen⟩
  refine K0 (K0 (K1 ?_))
  refine l_y rfl rfl (y_move rfl) ?_
  refine l_y rfl rfl (y_move rfl) ?_
  refine l_y rfl rfl (y_lenL rfl) ?_
  refine Z0 (fun h6_3 => ?_) (fun h6_3 => ?_)
  · refine l_y rfl rfl (y_move rfl) ?_
    refine l_y rfl rfl (y_move rfl) ?_
    refine Z0 (fun h6_6 => ?_) (fun h6_6 => ?_)
    · refine l_y rfl rfl (y_pick_t rfl rfl) ?_
      refine l_y rfl rfl (y_move rfl) ?_
      refine l_y rfl rfl (y_move rfl) ?_
      refine l_y rfl rfl (y_nePnil rfl rfl rfl) ?_
      refine l_y rfl rfl (y_pick_t rfl rfl) ?_
      refine K2 (K3 (L8 (K5 (K3 (K0 (K4 (K0 (K1 ?_))))))))
      refine l_y rfl rfl (y_move rfl) ?_
      refine l_y rfl rfl (y_move rfl) ?_
      refine l_y rfl rfl (y_move rfl) ?_
      refine l_y rfl rfl (y_idx rfl rfl) ?_
      refine l_y rfl rfl (y_fld (j' := 0) rfl) ?_
      refine l_y rfl rfl (y_r1 (x0 := 0) (enc := Law14_act.cells) (xs := L) hO rfl) ?_
      refine CK [.o a16] hO rfl (fun k' hx hr hO' => Element_spec (xs := []) t.pos t.max (Sli.nil rfl) (hO := hO')) ?_
      rintro _ _ w ⟨q1, d1, rfl, rfl⟩ hO
      simp only [List.cons_append, List.nil_append] at hO
      refine l_y rfl rfl (y_move rfl) ?_
      refine l_y rfl rfl (y_extract rfl rfl) ?_
      refine l_y rfl rfl (y_extract rfl rfl) ?_
      refine l_y rfl rfl (y_assign rfl) ?_
      refine l_y rfl rfl (y_assign rfl) ?_
      refine K2 (K3 (K0 (K1 ?_)))
      refine l_y rfl rfl (y_move rfl) ?_
      refine l_y rfl rfl (y_move rfl) ?_
      refine l_y rfl rfl (y_move rfl) ?_
      refine l_y rfl rfl (y_idx rfl rfl) ?_
      refine l_y rfl rfl (y_fld (j' := 0) rfl) ?_
      refine l_y rfl rfl (y_r1 (x0 := 0) (enc := Law14_act.cells) (xs := L) hO rfl) ?_
      refine CK [.o r17] hO rfl (fun k' hx hr hO' => rElement_spec (xs := []) t.rmax (Sli.nil rfl) (hO := hO')) ?_
      rintro _ _ w ⟨q2, d2, rfl, rfl⟩ hO
      simp only [List.cons_append, List.nil_append] at hO
      obtain ⟨e1, e2, Kz, t9⟩ := el_both t 0 (at_ L (x.i : Int).toNat).Text [] q1 q2 d1 d2
      have e2 := e2 (.inl (by omega))
      rw [← e1, ← e2]
      have hl9 := el_len (A := x.A) (sp := 0) (nm := (at_ L (x.i : Int).toNat).Text) (q := q1) (d := d1)
      have hl8 := el_len (A := x.A) (sp := 0) (nm := (at_ L x.i).Text) (q := q1) (d := d1)
      refine l_y rfl rfl (y_move rfl) ?_
      refine l_y rfl rfl (y_extract rfl rfl) ?_
      refine l_y rfl rfl (y_extract rfl rfl) ?_
      refine l_y rfl rfl (y_assign rfl) ?_
      refine l_y rfl rfl (y_assign rfl) ?_
      refine K2 (K3 (K0 (K0 (K1 ?_))))
      refine l_y rfl rfl (y_move rfl) ?_
      refine Z1 (fun h10_1 => ?_) (fun h10_1 => ?_)
      · refine K2 (K3 (L8 (K7 (L1 (L2 (K3 (K1 ?_)))))))
        refine l_y rfl rfl (y_move rfl) ?_
        refine l_y rfl rfl (D4) ?_
        refine l_y rfl rfl (y_assign rfl) ?_
        refine K2 ?_
        obtain ⟨⟨_, Aa, Ka, Ra, la⟩, rfl, hO, ta, hwa, hIa, hla⟩ : ∃ y : W14, y.i = x.i + 1 ∧ Own k w [arenaL a16 y.A, rarL r17 y.R, stkL s20 a16 y.l, rstkL z24 r17 y.l] ∧ Two y.A y.K y.R ∧ WI y.A ∧ StkI y.A y.l ∧ y.A.length ≤ 1 + 2 * y.i := by
          first
          | exact ⟨⟨x.i + 1, _, _, R9, _⟩, rfl, hO.only [.o a16, .o r17, .o s20, .o z24], tl, hwl, hIl.push, by dsimp only; rw [linkL_len]; exact Nat.le_trans hl9 (by omega)⟩
          | exact ⟨⟨x.i + 1, _, _, R9, _⟩, rfl, hO.only [.o a16, .o r17, .o s20, .o z24], tl, hwl, hIl, by dsimp only; rw [linkL_len]; exact Nat.le_trans hl9 (by omega)⟩
          | exact ⟨⟨x.i + 1, _, Kz, _, x.l⟩, rfl, hO.only [.o a16, .o r17, .o s20, .o z24], t9, hw.el, hI.el', Nat.le_trans hl9 (by dsimp only; omega)⟩
        exact q_next (⟨x.i + 1, Aa, Ka, Ra, la⟩) ⟨rfl, rfl, rfl, rfl, rfl, rfl, rfl, rfl, rfl, rfl, trivial⟩ ⟨hO.only [.o a16, .o r17, .o s20, .o z24], ⟨by dsimp only; omega, by dsimp only; omega⟩, ta, hwa, hIa, hla⟩ (by dsimp only; omega)
      · refine K2 (K3 (L9 (K5 (K3 (K0 (K1 ?_))))))
        refine l_y rfl rfl (y_move rfl) ?_
        refine l_y rfl rfl (y_move rfl) ?_
        refine l_y rfl rfl (y_move rfl) ?_
        refine l_y rfl rfl (y_idx rfl rfl) ?_
        refine l_y rfl rfl (y_fld (j' := 1) rfl) ?_
        refine l_y rfl rfl (y_r1 (x0 := 1) (enc := Law14_act.cells) (xs := L) hO rfl) ?_
        refine l_y rfl rfl (y_move rfl) ?_
        refine CK [.o a16] hO rfl (fun k' hx hr hO' => LinkC_spec t9.pos t9.tree.rank t9.tree.links (hO := hO')) ?_
        rintro _ _ w ⟨rfl, rfl⟩ hO
        simp only [List.cons_append, List.nil_append] at hO
        refine K2 (K3 (K0 (K1 ?_)))
        refine l_y rfl rfl (y_move rfl) ?_
        refine l_y rfl rfl (y_move rfl) ?_
        refine l_y rfl rfl (y_move rfl) ?_
        refine l_y rfl rfl (y_idx rfl rfl) ?_
        refine l_y rfl rfl (y_fld (j' := 1) rfl) ?_
        refine l_y rfl rfl (y_r1 (x0 := 1) (enc := Law14_act.cells) (xs := L) hO rfl) ?_
        refine l_y rfl rfl (y_move rfl) ?_
        refine CK [.o r17] hO rfl (fun k' hx hr hO' => rLink_spec t9.tree t9.sim t9.max (hO := hO')) ?_
        rintro _ _ w ⟨rfl, R9, rfl, s9⟩ hO
        simp only [List.cons_append, List.nil_append] at hO
        have tl := t9.link s9
        have hcl : ∀ y : Int, 0 ≤ y → coreN (at_ (linkL (elementL x.A 0 (at_ L x.i).Text [] q1 d1).2.2 (at_ L x.i).Up (elementL x.A 0 (at_ L x.i).Text [] q1 d1).1 (-1)).2 y.toNat) = coreN (at_ (elementL x.A 0 (at_ L x.i).Text [] q1 d1).2.2 y.toNat) := fun y hy => linkL_core t9.tree hy
        have hwl := (hw.el (sp := 0) (nm := (at_ L x.i).Text) (q := q1) (d := d1)).core linkL_len hcl
        have hIl := (hI.el' (sp := 0) (nm := (at_ L x.i).Text) (q := q1) (d := d1)).core linkL_len hcl
        have hl1 : x.l.length ≤ 1000000 := Nat.le_trans hIl.len (Nat.le_trans tl.max (by decide))
        refine K2 (K3 (K0 (K1 ?_)))
        refine l_y rfl rfl (y_move rfl) ?_
        refine l_y rfl rfl (y_move rfl) ?_
        refine l_y rfl rfl (y_idx rfl rfl) ?_
        refine l_y rfl rfl (y_fld (j' := 2) rfl) ?_
        refine l_y rfl rfl (y_r1 (x0 := 2) (enc := Law14_act.cells) (xs := L) hO rfl) ?_
        refine K2 (K3 ?_)
        refine c_split rfl (fun hc81 => ?_) (fun hc81 => ?_)
        · refine K0 (K1 ?_)
          refine l_y rfl rfl (y_move rfl) ?_
          refine l_y rfl rfl (y_move rfl) ?_
          refine CK [.o a16, .o s20] hO rfl (fun k' hx hr hO' => sPush_spec tl.pos tl.tree.attrs hl1 (hO := hO')) ?_
          rintro _ _ w ⟨rfl, rfl⟩ hO
          simp only [List.cons_append, List.nil_append] at hO
          refine K2 (K3 (K1 ?_))
          refine l_y rfl rfl (y_move rfl) ?_
          refine l_y rfl rfl (y_move rfl) ?_
          refine CK [.o r17, .o z24] hO rfl (fun k' hx hr hO' => tPush_spec tl.sim hIl.nodup hl1 (hO := hO')) ?_
          rintro _ _ w ⟨rfl, rfl⟩ hO
          simp only [List.cons_append, List.nil_append] at hO
          refine K2 (K8 (K3 (K1 ?_)))
          refine l_y rfl rfl (y_move rfl) ?_
          refine l_y rfl rfl (D4) ?_
          refine l_y rfl rfl (y_assign rfl) ?_
          refine K2 ?_
          obtain ⟨⟨_, Aa, Ka, Ra, la⟩, rfl, hO, ta, hwa, hIa, hla⟩ : ∃ y : W14, y.i = x.i + 1 ∧ Own k w [arenaL a16 y.A, rarL r17 y.R, stkL s20 a16 y.l, rstkL z24 r17 y.l] ∧ Two y.A y.K y.R ∧ WI y.A ∧ StkI y.A y.l ∧ y.A.length ≤ 1 + 2 * y.i := by
            first
            | exact ⟨⟨x.i + 1, _, _, R9, _⟩, rfl, hO.only [.o a16, .o r17, .o s20, .o z24], tl, hwl, hIl.push, by dsimp only; rw [linkL_len]; exact Nat.le_trans hl9 (by omega)⟩
            | exact ⟨⟨x.i + 1, _, _, R9, _⟩, rfl, hO.only [.o a16, .o r17, .o s20, .o z24], tl, hwl, hIl, by dsimp only; rw [linkL_len]; exact Nat.le_trans hl9 (by omega)⟩
            | exact ⟨⟨x.i + 1, _, Kz, _, x.l⟩, rfl, hO.only [.o a16, .o r17, .o s20, .o z24], t9, hw.el, hI.el', Nat.le_trans hl9 (by dsimp only; omega)⟩
          exact q_next (⟨x.i + 1, Aa, Ka, Ra, la⟩) ⟨rfl, rfl, rfl, rfl, rfl, rfl, rfl, rfl, rfl, rfl, trivial⟩ ⟨hO.only [.o a16, .o r17, .o s20, .o z24], ⟨by dsimp only; omega, by dsimp only; omega⟩, ta, hwa, hIa, hla⟩ (by dsimp only; omega)
        · refine K5 (K8 (K3 (K1 ?_)))
          refine l_y rfl rfl (y_move rfl) ?_
          refine l_y rfl rfl (D4) ?_
          refine l_y rfl rfl (y_assign rfl) ?_
          refine K2 ?_
          obtain ⟨⟨_, Aa, Ka, Ra, la⟩, rfl, hO, ta, hwa, hIa, hla⟩ : ∃ y : W14, y.i = x.i + 1 ∧ Own k w [arenaL a16 y.A, rarL r17 y.R, stkL s20 a16 y.l, rstkL z24 r17 y.l] ∧ Two y.A y.K y.R ∧ WI y.A ∧ StkI y.A y.l ∧ y.A.length ≤ 1 + 2 * y.i := by
            first
            | exact ⟨⟨x.i + 1, _, _, R9, _⟩, rfl, hO.only [.o a16, .o r17, .o s20, .o z24], tl, hwl, hIl.push, by dsimp only; rw [linkL_len]; exact Nat.le_trans hl9 (by omega)⟩
            | exact ⟨⟨x.i + 1, _, _, R9, _⟩, rfl, hO.only [.o a16, .o r17, .o s20, .o z24], tl, hwl, hIl, by dsimp only; rw [linkL_len]; exact Nat.le_trans hl9 (by omega)⟩
            | exact ⟨⟨x.i + 1, _, Kz, _, x.l⟩, rfl, hO.only [.o a16, .o r17, .o s20, .o z24], t9, hw.el, hI.el', Nat.le_trans hl9 (by dsimp only; omega)⟩
          exact q_next (⟨x.i + 1, Aa, Ka, Ra, la⟩) ⟨rfl, rfl, rfl, rfl, rfl, rfl, rfl, rfl, rfl, rfl, trivial⟩ ⟨hO.only [.o a16, .o r17, .o s20, .o z24], ⟨by dsimp only; omega, by dsimp only; omega⟩, ta, hwa, hIa, hla⟩ (by dsimp only; omega)
    · refine l_y rfl rfl (y_pick_t rfl rfl) ?_
      refine l_y rfl rfl (y_move rfl) ?_
      repeat refine M2 ?_
      refine l_y rfl rfl (y_pick_f rfl rfl) ?_
      refine K2 (K3 (L9 (K7 (L1 (L1 (L2 (K3 (K0 (K1 ?_)))))))))
      refine l_y rfl rfl (y_move rfl) ?_
      refine l_y rfl rfl (y_move rfl) ?_
      refine l_y rfl rfl (y_move rfl) ?_
      refine l_y rfl rfl (y_move rfl) ?_
      refine l_y rfl rfl (y_assign rfl) ?_
      refine l_y rfl rfl (y_assign rfl) ?_
      refine l_y rfl rfl (y_assign rfl) ?_
      refine l_y rfl rfl (y_assign rfl) ?_
      refine K2 (K3 (K6 ?_))
      exact fin4 rfl rfl rfl rfl rfl ⟨_, ⟨a16, r17, s20, z24, _, _, _, _, rfl, rfl, t, hw, hI, by omega⟩, hO.only [.o a16, .o r17, .o s20, .o z24]⟩
  · refine l_y rfl rfl (y_move rfl) ?_
    repeat refine M2 ?_
    refine l_y rfl rfl (y_pick_f rfl rfl) ?_
    refine l_y rfl rfl (y_move rfl) ?_
    repeat refine M2 ?_
    refine l_y rfl rfl (y_pick_f rfl rfl) ?_
    refine K2 (K3 (L9 (K7 (L1 (L1 (L2 (K3 (K0 (K1 ?_)))))))))
    refine l_y rfl rfl (y_move rfl) ?_
    refine l_y rfl rfl (y_move rfl) ?_
    refine l_y rfl rfl (y_move rfl) ?_
    refine l_y rfl rfl (y_move rfl) ?_
    refine l_y rfl rfl (y_assign rfl) ?_
    refine l_y rfl rfl (y_assign rfl) ?_
    refine l_y rfl rfl (y_assign rfl) ?_
    refine l_y rfl rfl (y_assign rfl) ?_
    refine K2 (K3 (K6 ?_))
    exact fin4 rfl rfl rfl rfl rfl ⟨_, ⟨a16, r17, s20, z24, _, _, _, _, rfl, rfl, t, hw, hI, by omega⟩, hO.only [.o a16, .o r17, .o s20, .o z24]⟩
theorem PAr0 : AttrsOk [docD] := Two.new.tree.attrs
theorem FosOk0 : FosOk [docD] [] := fun h => absurd rfl h
theorem awake14_spec (hO : Own k w []) : Tri Try.prog 55 #[] k w fun v m => v = .bool true ∧ m = [] := by
  refine enter (args := []) Try.func55 rfl rfl ?_
  refine K0 (K1 ?_)
  refine l_y rfl rfl (y_assign rfl) ?_
  refine K2 (K3 (K0 (K1 ?_)))
  refine CK [] hO rfl (fun k' hx hr hO' => New_spec (hO := hO')) ?_
  rintro _ _ w ⟨a6, rfl, rfl⟩ hO
  simp only [List.cons_append, List.nil_append] at hO
  refine l_y rfl rfl (y_assign rfl) ?_
  refine K2 (K3 (K0 (K1 ?_)))
  refine l_y rfl rfl (y_move rfl) ?_
  refine CK [.o a6] hO rfl (fun k' hx hr hO' => sNew_spec (A := [docD]) (by decide) (hO := hO')) ?_
  rintro _ _ w ⟨s9, rfl, rfl⟩ hO
  simp only [List.cons_append, List.nil_append] at hO
  refine l_y rfl rfl (y_move rfl) ?_
  refine l_y rfl rfl (y_extract rfl rfl) ?_
  refine l_y rfl rfl (y_extract rfl rfl) ?_
  refine l_y rfl rfl (y_assign rfl) ?_
  refine l_y rfl rfl (y_assign rfl) ?_
  refine K2 (K3 (K0 (K1 ?_)))
  refine l_y rfl rfl (y_move rfl) ?_
  refine l_y rfl rfl (y_move rfl) ?_
  refine CK [.o a6, .o s9] hO rfl (fun k' hx hr hO' => Spot_spec (A := [docD]) (l := []) (by decide) PAr0 (fun x hx => by simp at hx) (by decide) FosOk0 (hO := hO')) ?_
  rintro _ _ w ⟨rfl, rfl⟩ hO
  simp only [List.cons_append, List.nil_append] at hO
  rw [show spotV [docD] [] 0 false = (⟨0, -1⟩, 0) from rfl]
  refine l_y rfl rfl (y_move rfl) ?_
  refine l_y rfl rfl (y_extract rfl rfl) ?_
  refine l_y rfl rfl (y_extract rfl rfl) ?_
  refine s_alloc (vs := [.int .i64 0, .int .i64 0]) hO rfl rfl rfl fun b4 w hO => ?_
  refine Y3 hO rfl rfl (fun w hO => ?_)
  refine l_y rfl rfl (y_assign rfl) ?_
  refine K2 (K3 (K0 (K1 ?_)))
  refine l_y rfl rfl (y_move rfl) ?_
  refine l_y rfl rfl (y_nePnil rfl rfl rfl) ?_
  refine l_y rfl rfl (y_move rfl) ?_
  refine l_y rfl rfl (y_move rfl) ?_
  refine N2 ?_
  refine l_y rfl rfl (y_pick_t rfl rfl) ?_
  refine l_y rfl rfl (y_move rfl) ?_
  refine l_y rfl rfl (y_fldb (o' := 0) rfl) ?_
  refine l_y rfl rfl (D5 hO rfl) ?_
  refine N2 (hp := rfl) ?_
  refine l_y rfl rfl (y_pick_t rfl rfl) ?_
  refine l_y rfl rfl (y_move rfl) ?_
  refine l_y rfl rfl (y_fldb (o' := 1) rfl) ?_
  refine l_y rfl rfl (D5 hO rfl) ?_
  refine N2 (hp := rfl) ?_
  refine l_y rfl rfl (y_pick_t rfl rfl) ?_
  refine l_y rfl rfl (y_assign rfl) ?_
  refine K2 (K3 (K6 ?_))
  exact fin1 rfl rfl ⟨_, ⟨rfl, rfl⟩, hO.none⟩
end
end Go.Proofs.Ytbhicbpfdbnpfaa
