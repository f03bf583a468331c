/- The walks of the arena's makers; no condition. -/
import Derived.Test.YtoohapbaelmkcaaGreatNode3
set_option linter.unusedVariables false
set_option linter.unusedSimpArgs false
set_option maxRecDepth 100000
namespace Go.Proofs.YtoohapbaelmkcaaGreat
open Go Go.Hb Go.RowKit
instance (priority := high) AtK.ho (a : Nat) (A : List Node_one) (l : List HP) : AtK (arenaL a A :: l) (.o a) (arenaL a A) l := ⟨.hd _ l⟩
def textN (s : ByteArray) : Api_node := ⟨2, 0, ⟨#[]⟩, none, [], 0, s, ⟨#[]⟩, 0, 0, 0, 0, 0, 0⟩
def commentN (s : ByteArray) : Api_node := ⟨3, 0, ⟨#[]⟩, none, [], 0, s, ⟨#[]⟩, 0, 0, 0, 0, 0, 0⟩
def doctypeN (n p s : ByteArray) : Api_node := ⟨4, 0, n, none, [], 0, p, s, 0, 0, 0, 0, 0, 0⟩
def fragmentN : Api_node := ⟨5, 0, ⟨#[]⟩, none, [], 0, ⟨#[]⟩, ⟨#[]⟩, 0, 0, 0, 0, 0, 0⟩
def documentN : Api_node := ⟨0, 0, ⟨#[]⟩, none, [], 0, ⟨#[]⟩, ⟨#[]⟩, 0, 0, 0, 0, 0, 0⟩
def elementN (q : Option Addr) (d : Nat) (sp : Int) (nm : ByteArray) (xs : List Api_attr) : Api_node := ⟨1, sp, nm, q, xs, d, ⟨#[]⟩, ⟨#[]⟩, 0, 0, 0, 0, 0, 0⟩
theorem nil_attrs {k : Ctx} {w : World} {l : List HP} (hO : Own k w l) : Own k w (sls none 0 115 4 Api_attr.cells ([] : List Api_attr) :: l) := sl_nil _ _ hO
theorem Fragment_spec {k : Ctx} {w : World} {a : Nat} {A : List Node_one} (hn : 0 < A.length) (hc : A.length ≤ 32768) (hO : Own k w [arenaL a A]) :
    Tri Tryz.prog 52 #[.pointer (some ⟨a, 0, none⟩)] k w fun v m => v = .tuple #[.int .i64 (addL A fragmentN []).1, .int .i64 (addL A fragmentN []).2.1] ∧ m = [arenaL a (addL A fragmentN []).2.2] := by
  refine enter (args := [.pointer (some ⟨a, 0, none⟩)]) Tryz.func52 rfl rfl ?_
  have hO := nil_attrs hO
  refine K0 (K1 ?_)
  refine l_y rfl rfl (y_assign rfl) ?_
  refine l_y rfl rfl (y_assign rfl) ?_
  refine K2 (K3 (K0 (K1 ?_)))
  refine l_y rfl rfl (y_move rfl) ?_
  refine s_build (parts := [(0, .const (.int .i64 5))]) (cs := [.int .i64 5, .int .i64 0, .string ⟨#[]⟩, .slice none 0 0, .string ⟨#[]⟩, .string ⟨#[]⟩, .int .i64 0, .int .i64 0, .int .i64 0, .int .i64 0, .int .i64 0, .int .i64 0]) rfl rfl (fun a ha => partsOf_sound ha _ _ rfl) (by kernel_rfl) ?_
  refine CK [.o a, .p none] hO rfl (fun k' hx hr hO' => add_spec (n := fragmentN) (ts := []) hn hc (Sli.nil rfl) (by simp) (hO := hO')) ?_
  rintro _ _ w ⟨rfl, rfl⟩ hO
  refine l_y rfl rfl (y_extract rfl rfl) ?_
  refine l_y rfl rfl (y_extract rfl rfl) ?_
  refine l_y rfl rfl (y_assign rfl) ?_
  refine l_y rfl rfl (y_assign rfl) ?_
  refine K2 (K3 (K6 ?_))
  exact fin2 rfl rfl rfl ⟨_, ⟨rfl, rfl⟩, hO.one⟩
theorem New_spec {k : Ctx} {w : World} (hO : Own k w []) :
    Tri Tryz.prog 22 #[] k w fun v m => ∃ a, v = .pointer (some ⟨a, 0, none⟩) ∧ m = [arenaL a [blankN documentN]] := by
  refine enter (args := []) Tryz.func22 rfl rfl ?_
  have hO := nil_attrs hO
  refine K0 (K1 ?_)
  refine l_y rfl rfl (y_assign rfl) ?_
  refine K2 (K3 (K0 (K1 ?_)))
  refine s_build (parts := [(0, .const (.int .i64 0))]) (cs := [.int .i64 0, .int .i64 0, .string ⟨#[]⟩, .slice none 0 0, .string ⟨#[]⟩, .string ⟨#[]⟩, .int .i64 0, .int .i64 0, .int .i64 0, .int .i64 0, .int .i64 0, .int .i64 0]) rfl rfl (fun a ha => partsOf_sound ha _ _ rfl) (by kernel_rfl) ?_
  refine CK [] hO rfl (fun k' hx hr hO' => blank_spec (n := documentN) (hO := hO')) ?_
  rintro _ _ w ⟨rfl, rfl⟩ hO
  simp only [List.nil_append] at hO
  refine s_lit (parts := [(0, .tmp 2)]) (enc := Node_one.cells) [(blankN documentN)] [.agg [.int .i64 (blankN documentN).Node.Kind, .int .i64 (blankN documentN).Node.Space, .string (blankN documentN).Node.Name, .slice (blankN documentN).Node.AttrsP (blankN documentN).Node.Attrs.length (blankN documentN).Node.AttrsC, .string (blankN documentN).Node.Data, .string (blankN documentN).Node.System, .int .i64 (blankN documentN).Node.Parent, .int .i64 (blankN documentN).Node.First, .int .i64 (blankN documentN).Node.Last, .int .i64 (blankN documentN).Node.Prev, .int .i64 (blankN documentN).Node.Next, .int .i64 (blankN documentN).Node.Inner, .int .i64 (blankN documentN).host].toArray] hO rfl (fun b3 w hO => ?_)
  refine s_build (parts := [(0, .tmp 3)]) (cs := [.slice (some ⟨b3, 0, none⟩) 1 1]) rfl rfl (fun a ha => partsOf_sound ha _ _ rfl) (by kernel_rfl) ?_
  refine s_box (vs := [.slice (some ⟨b3, 0, none⟩) 1 1]) hO rfl rfl rfl (by rfl) fun b5 w hO => ?_
  refine l_y rfl rfl (y_assign rfl) ?_
  refine K2 (K3 (K6 ?_))
  refine fin1 rfl rfl ⟨_, ⟨_, rfl, rfl⟩, ?_⟩
  have hO : Own k w ([attrsP (blankN documentN)] ++ _) := hO.ks [.p none]
  have hO := (Own.shut hO).ks [.s, .b b5, .p (some ⟨b3, 0, none⟩)]
  exact (arenaL_shut (A := [blankN documentN]) hO).one
def templateS : ByteArray := ⟨#[116, 101, 109, 112, 108, 97, 116, 101]⟩
def tmpl (sp : Int) (nm : ByteArray) : Prop := sp = 0 ∧ nm = templateS
instance (sp : Int) (nm : ByteArray) : Decidable (tmpl sp nm) := by unfold tmpl; infer_instance
def attrTexts (xs : List Api_attr) : List ByteArray := xs.flatMap fun x => [x.Prefix, x.Name, x.Value]
def setInner (A : List Node_one) (i v : Int) : List Node_one := A.set i.toNat { at_ A i.toNat with Node := { (at_ A i.toNat).Node with Inner := v } }
def setHost (A : List Node_one) (i v : Int) : List Node_one := A.set i.toNat { at_ A i.toNat with host := v }
def elementL (A : List Node_one) (sp : Int) (nm : ByteArray) (xs : List Api_attr) (q : Option Addr) (d : Nat) : Int × Int × List Node_one :=
  if sp < 0 ∨ 2 < sp then (0, 1, A) else if 1024 < xs.length then (0, 2, A)
  else if tmpl sp nm ∧ A.length = 32767 then (0, 9, A)
  else if longB (nm :: attrTexts xs) = true then (0, 2, A) else if 32768 ≤ A.length then (0, 9, A)
  else if tmpl sp nm then (A.length, 0, setHost (setInner (A ++ [blankN (elementN q d sp nm xs)] ++ [blankN fragmentN]) A.length (A ++ [blankN (elementN q d sp nm xs)]).length) (A ++ [blankN (elementN q d sp nm xs)]).length A.length)
  else (A.length, 0, A ++ [blankN (elementN q d sp nm xs)])
theorem attrTexts_len {xs : List Api_attr} : (attrTexts xs).length = 3 * xs.length := by
  induction xs with
  | nil => rfl
  | cons x xs ih => simp only [attrTexts, List.flatMap_cons, List.length_append, List.length_cons, List.length_nil] at ih ⊢; omega
theorem addC_spec {k : Ctx} {w : World} {a : Nat} {A : List Node_one} {n : Api_node} {ts : List ByteArray} {tp : Option Addr} {tc : Nat} (hn : 0 < A.length) (hc : A.length ≤ 32768) (ht : Sli (Ro k) (.slice tp ts.length tc) (ts.map eS)) (htl : ts.length ≤ 1000000) (hO : Own k w [arenaL a A, attrsP (blankN n)]) :
    Tri Tryz.prog 51 #[.pointer (some ⟨a, 0, none⟩), .agg (Api_node.cells n).toArray, .slice tp ts.length tc] k w fun v m =>
      (longB ts = true ∧ v = .tuple #[.int .i64 0, .int .i64 2] ∧ m = [arenaL a A]) ∨ (longB ts = false ∧ 32768 ≤ A.length ∧ v = .tuple #[.int .i64 0, .int .i64 9] ∧ m = [arenaL a A]) ∨ (longB ts = false ∧ A.length < 32768 ∧ v = .tuple #[.int .i64 ((A.length : Nat) : Int), .int .i64 0] ∧ m = [arenaL a (A ++ [blankN n])]) := by
  refine (add_spec hn hc ht htl hO).mono ?_
  rintro v m ⟨rfl, rfl⟩
  cases hl : longB ts with
  | true => exact .inl ⟨rfl, by simp [addL, hl], by simp [addL, hl]⟩
  | false =>
    by_cases h9 : 32768 ≤ A.length
    · exact .inr (.inl ⟨rfl, h9, by simp [addL, hl, h9], by simp [addL, hl, h9]⟩)
    · exact .inr (.inr ⟨rfl, by omega, by simp [addL, hl, h9], by simp [addL, hl, h9]⟩)
theorem FragmentOk_spec {k : Ctx} {w : World} {a : Nat} {A : List Node_one} (hn : 0 < A.length) (hc : A.length < 32768) (hO : Own k w [arenaL a A]) :
    Tri Tryz.prog 52 #[.pointer (some ⟨a, 0, none⟩)] k w fun v m => v = .tuple #[.int .i64 ((A.length : Nat) : Int), .int .i64 0] ∧ m = [arenaL a (A ++ [blankN fragmentN])] := by
  refine (Fragment_spec hn (by omega) hO).mono ?_
  rintro v m ⟨rfl, rfl⟩
  have e : addL A fragmentN [] = ((A.length : Int), 0, A ++ [blankN fragmentN]) := by rw [addL, if_neg (by simp [longB]), if_neg (by omega)]
  rw [e]; exact ⟨rfl, rfl⟩
set_option maxHeartbeats 4000000 in
theorem Element_spec {k : Ctx} {w : World} {a : Nat} {A : List Node_one} {sp : Int} {nm : ByteArray} {xs : List Api_attr} {ap : Option Addr} {ac : Nat} (hn : 0 < A.length) (hc : A.length ≤ 32768) (hs : Sli (Ro k) (.slice ap xs.length ac) (xs.map Api_attr.cells)) (hO : Own k w [arenaL a A]) :
    Tri Tryz.prog 18 #[.pointer (some ⟨a, 0, none⟩), .int .i64 sp, .string nm, .slice ap xs.length ac] k w fun v m => ∃ q d, v = .tuple #[.int .i64 (elementL A sp nm xs q d).1, .int .i64 (elementL A sp nm xs q d).2.1] ∧ m = [arenaL a (elementL A sp nm xs q d).2.2] := by
  refine enter (args := [.pointer (some ⟨a, 0, none⟩), .int .i64 sp, .string nm, .slice ap xs.length ac]) Tryz.func18 rfl rfl ?_
  have hgs := sli_gs hs
  obtain ⟨p, c, hg, hO⟩ := arenaL_open hO
  refine K0 (K1 ?_)
  refine l_y rfl rfl (y_assign rfl) ?_
  refine l_y rfl rfl (y_assign rfl) ?_
  refine K2 (K3 (K0 (K4 (K0 (K1 ?_)))))
  refine l_y rfl rfl (y_move rfl) ?_
  refine CK [.b a, .p p] hO rfl (fun k' hx hr hO' => none_spec (hO := hO')) ?_
  rintro _ _ w ⟨rfl, rfl⟩ hO
  simp only [List.cons_append, List.nil_append] at hO
  refine l_y rfl rfl (y_assign rfl) ?_
  refine K2 (K3 (L9 (K0 (K1 ?_))))
  refine l_y rfl rfl (y_move rfl) ?_
  refine Z0 (fun h3_1 => ?_) (fun h3_1 => ?_)
  · refine l_y rfl rfl (y_move rfl) ?_
    repeat refine M2 ?_
    refine l_y rfl rfl (y_pick_t rfl rfl) ?_
    refine l_y rfl rfl (y_assign rfl) ?_
    refine K2 (K3 (L8 (K0 (K1 ?_))))
    refine l_y rfl rfl (y_assign rfl) ?_
    refine l_y rfl rfl (y_assign rfl) ?_
    refine K2 (K3 (K6 (L0 (K9 ?_))))
    have hO := (arenaL_shut (hO.ks [.s, .b a, .p p])).one
    have e : elementL A sp nm xs none 0 = (0, 1, A) := by rw [elementL, if_pos (by omega)]
    exact fin2 rfl rfl rfl ⟨_, ⟨none, 0, by rw [e], rfl⟩, by rw [e]; exact hO⟩
  · refine l_y rfl rfl (y_move rfl) ?_
    refine l_y rfl rfl (y_move rfl) ?_
    refine Z0 (fun h3_4 => ?_) (fun h3_4 => ?_)
    · refine l_y rfl rfl (y_pick_f rfl rfl) ?_
      refine l_y rfl rfl (y_assign rfl) ?_
      refine K2 (K3 (L8 (K0 (K1 ?_))))
      refine l_y rfl rfl (y_assign rfl) ?_
      refine l_y rfl rfl (y_assign rfl) ?_
      refine K2 (K3 (K6 (L0 (K9 ?_))))
      have hO := (arenaL_shut (hO.ks [.s, .b a, .p p])).one
      have e : elementL A sp nm xs none 0 = (0, 1, A) := by rw [elementL, if_pos (by omega)]
      exact fin2 rfl rfl rfl ⟨_, ⟨none, 0, by rw [e], rfl⟩, by rw [e]; exact hO⟩
    · refine l_y rfl rfl (y_pick_f rfl rfl) ?_
      refine l_y rfl rfl (y_assign rfl) ?_
      refine K2 (K3 (L9 (K0 (K1 ?_))))
      refine l_y rfl rfl (y_move rfl) ?_
      refine l_y rfl rfl (y_lenL rfl) ?_
      refine Z0 (fun h5_2 => ?_) (fun h5_2 => ?_)
      · refine l_y rfl rfl (y_assign rfl) ?_
        refine K2 (K3 (L8 (K0 (K1 ?_))))
        refine l_y rfl rfl (y_assign rfl) ?_
        refine l_y rfl rfl (y_assign rfl) ?_
        refine K2 (K3 (K6 (L0 (K9 ?_))))
        have hO := (arenaL_shut (hO.ks [.s, .b a, .p p])).one
        have e : elementL A sp nm xs none 0 = (0, 2, A) := by rw [elementL, if_neg (by omega), if_pos (by omega)]
        exact fin2 rfl rfl rfl ⟨_, ⟨none, 0, by rw [e], rfl⟩, by rw [e]; exact hO⟩
      · refine l_y rfl rfl (y_assign rfl) ?_
        refine K2 (K3 (L9 (K5 (K8 (K3 (K0 (K1 ?_)))))))
        refine l_y rfl rfl (y_move rfl) ?_
        refine s_lit (parts := [(0, .tmp 32)]) (enc := eS) [nm] [.string nm] hO rfl (fun b33 w hO => ?_)
        refine l_y rfl rfl (y_assign rfl) ?_
        refine K2 (K3 (K0 (K0 (K1 ?_))))
        refine l_y rfl rfl (y_move rfl) ?_
        refine l_y rfl rfl (y_lenL rfl) ?_
        refine l_y rfl rfl (y_move rfl) ?_
        refine K2 (K3 (K4 ?_))
        refine c_rounds (X := Nat × Option Addr × Nat × List ByteArray) (fun x => [(0, .pointer (some ⟨a, 0, none⟩)), (1, .int .i64 sp), (2, .string nm), (3, .slice ap xs.length ac), (8, .int .i64 0), (9, .int .i64 0), (10, .slice x.2.1 x.2.2.2.length x.2.2.1), (34, .slice ap xs.length ac), (35, .int .i64 ((xs.length : Nat) : Int)), (36, .int .i64 (x.1 : Int))]) (fun x w => Own k w [arB a p A.length c, arS p c A, sep (A.map attrsP), sls x.2.1 x.2.2.1 9 1 eS x.2.2.2] ∧ (x.1 ≤ xs.length) ∧ (x.2.2.2 = nm :: attrTexts (xs.take x.1))) (fun x => xs.length - x.1) ((0, some ⟨b33, 0, none⟩, 1, [nm])) ⟨rfl, rfl, rfl, rfl, rfl, rfl, rfl, rfl, rfl, rfl, trivial⟩ ⟨hO.only [.b a, .p p, .s, .p (some ⟨b33, 0, none⟩)], Nat.zero_le _, rfl⟩ ?_
        rintro x w m hm ⟨hO, hi, ht⟩
        have hxl : xs.length ≤ 1024 := by omega
        have htl : x.2.2.2.length = 1 + 3 * x.1 := by rw [ht, List.length_cons, attrTexts_len, List.length_take]; omega
        refine K0 (K1 ?_)
        refine Z0 (fun h9_0 => ?_) (fun h9_0 => ?_)
        · refine K2 (K3 (K0 (L8 (K5 (K3 (K0 (K4 (K0 (K1 ?_)))))))))
          refine l_y rfl rfl (y_idx rfl rfl) ?_
          refine l_y rfl rfl (y_rA (x0 := 0) (enc := Api_attr.cells) (xs := xs) (cs := [.int .i64 (at_ xs ((x.1 : Int) : Int).toNat).Space, .string (at_ xs ((x.1 : Int) : Int).toNat).Prefix, .string (at_ xs ((x.1 : Int) : Int).toNat).Name, .string (at_ xs ((x.1 : Int) : Int).toNat).Value]) hO rfl) ?_
          refine s_alloc (vs := [.int .i64 0, .string ⟨#[]⟩, .string ⟨#[]⟩, .string ⟨#[]⟩]) hO rfl rfl rfl fun b12 w hO => ?_
          refine Y3 hO rfl rfl (fun w hO => ?_)
          refine K2 (K3 (K1 ?_))
          refine l_y rfl rfl (y_move rfl) ?_
          refine l_y rfl rfl (y_fldb (o' := 1) rfl) ?_
          refine l_y rfl rfl (D5 hO rfl) ?_
          refine l_y rfl rfl (y_fldb (o' := 2) rfl) ?_
          refine l_y rfl rfl (D5 hO rfl) ?_
          refine l_y rfl rfl (y_fldb (o' := 3) rfl) ?_
          refine l_y rfl rfl (D5 hO rfl) ?_
          refine s_lit (parts := [(0, .tmp 42), (1, .tmp 44), (2, .tmp 46)]) (enc := eS) [(at_ xs ((x.1 : Int) : Int).toNat).Prefix, (at_ xs ((x.1 : Int) : Int).toNat).Name, (at_ xs ((x.1 : Int) : Int).toNat).Value] [.string (at_ xs ((x.1 : Int) : Int).toNat).Prefix, .string (at_ xs ((x.1 : Int) : Int).toNat).Name, .string (at_ xs ((x.1 : Int) : Int).toNat).Value] hO rfl (fun b47 w hO => ?_)
          refine s_app hO rfl rfl (src_own hO) (fun p48 c48 w hO gs48 => ?_)
          refine l_y rfl rfl (y_assign rfl) ?_
          refine K2 (K8 (K3 (K1 ?_)))
          refine l_y rfl rfl (D4) ?_
          refine l_y rfl rfl (y_move rfl) ?_
          refine K2 ?_
          exact q_next ((x.1 + 1, p48, c48, _)) ⟨rfl, rfl, rfl, rfl, rfl, rfl, rfl, rfl, rfl, rfl, trivial⟩ ⟨hO.only [.b a, .p p, .s, .p p48], by dsimp only; omega, by dsimp only; rw [ht, take_succ_at (by omega)]; simp only [attrTexts, List.flatMap_append, List.flatMap_cons, List.flatMap_nil, List.append_nil, List.cons_append]; rfl⟩ (by dsimp only; omega)
        · refine K2 (K3 (K0 (L9 (K7 (L1 (L1 (L2 (K3 (K0 ?_)))))))))
          obtain ⟨i, tp, tc, ts⟩ := x
          dsimp only at hi ht hO htl hm h9_0
          have hie : i = xs.length := by omega
          subst hie
          rw [List.take_length] at ht
          have htt : sp = 0 ∧ nm = templateS ↔ tmpl sp nm := Iff.rfl
          refine K1 ?_
          refine l_y rfl rfl (y_move rfl) ?_
          refine Z0 (fun h13_1 => ?_) (fun h13_1 => ?_)
          · refine l_y rfl rfl (y_move rfl) ?_
            refine l_y rfl rfl (y_move rfl) ?_
            refine Z2 (fun h13_4 => ?_) (fun h13_4 => ?_)
            · refine l_y rfl rfl (y_pick_t rfl rfl) ?_
              refine l_y rfl rfl (y_assign rfl) ?_
              refine K2 (K3 (K0 (K0 (K1 ?_))))
              refine l_y rfl rfl (y_move rfl) ?_
              refine l_y rfl rfl (y_move rfl) ?_
              refine l_y rfl rfl (y_move rfl) ?_
              refine l_y rfl rfl (y_nilCheck rfl rfl) ?_
              refine l_y rfl rfl (y_fldb (o' := 0) rfl) ?_
              refine l_y rfl rfl (D5 hO rfl) ?_
              refine l_y rfl rfl (y_lenL rfl) ?_
              refine Z0 (fun h14_7 => ?_) (fun h14_7 => ?_)
              · refine l_y rfl rfl (y_pick_t rfl rfl) ?_
                refine K2 (K3 (L8 (K0 (K1 ?_))))
                refine l_y rfl rfl (y_assign rfl) ?_
                refine l_y rfl rfl (y_assign rfl) ?_
                refine K2 (K3 (K6 (K9 ?_)))
                have hO := (arenaL_shut (hO.ks [.s, .b a, .p p])).one
                have e : elementL A sp nm xs none 0 = (0, 9, A) := by rw [elementL, if_neg (by omega), if_neg (by omega), if_pos ⟨⟨h13_1, h13_4⟩, by omega⟩]
                exact fin2 rfl rfl rfl ⟨_, ⟨none, 0, by rw [e], rfl⟩, by rw [e]; exact hO⟩
              · refine l_y rfl rfl (y_pick_t rfl rfl) ?_
                refine K2 (K3 (L9 (K5 (K3 (K0 ?_)))))
                have hnt : ¬ (tmpl sp nm ∧ A.length = 32767) := by
                  rintro ⟨⟨q1, q2⟩, q3⟩
                  first | exact h13_1 q1 | exact h13_4 q2 | omega
                refine K1 ?_
                refine l_y rfl rfl (y_move rfl) ?_
                refine l_y rfl rfl (y_move rfl) ?_
                refine l_y rfl rfl (y_move rfl) ?_
                refine l_y rfl rfl (y_move rfl) ?_
                refine CK [] hO rfl (fun k' hx hr hO' => own_spec (hs.ext hO hx) (by omega) (hO := hO')) ?_
                rintro _ _ w ⟨b70, rfl, rfl⟩ hO
                simp only [List.cons_append, List.nil_append] at hO
                refine s_build (parts := [(0, .const (.int .i64 1)), (1, .tmp 67), (2, .tmp 68), (3, .tmp 70)]) (cs := [.int .i64 1, .int .i64 sp, .string nm, .slice (some ⟨b70, 0, none⟩) xs.length xs.length, .string ⟨#[]⟩, .string ⟨#[]⟩, .int .i64 0, .int .i64 0, .int .i64 0, .int .i64 0, .int .i64 0, .int .i64 0]) rfl rfl (fun a ha => partsOf_sound ha _ _ rfl) (by kernel_rfl) ?_
                refine l_y rfl rfl (y_move rfl) ?_
                have hO := arenaL_shut (hO.ks [.s, .b a, .p p])
                refine CK [.o a, .p (some ⟨b70, 0, none⟩)] hO rfl (fun k' hx hr hO' => addC_spec (n := elementN (some ⟨b70, 0, none⟩) xs.length sp nm xs) (ts := ts) hn hc (sls_roK hr (sls_fct (p := tp) hO)) (by omega) (hO := hO')) ?_
                rintro _ _ w (⟨ha1, rfl, rfl⟩ | ⟨ha1, ha2, rfl, rfl⟩ | ⟨ha1, ha2, rfl, rfl⟩) hO
                · simp only [List.cons_append, List.nil_append] at hO
                  refine l_y rfl rfl (y_move rfl) ?_
                  refine l_y rfl rfl (y_extract rfl rfl) ?_
                  refine l_y rfl rfl (y_extract rfl rfl) ?_
                  refine l_y rfl rfl (y_assign rfl) ?_
                  refine l_y rfl rfl (y_assign rfl) ?_
                  refine K2 (K3 (K0 (K0 (K1 ?_))))
                  refine l_y rfl rfl (y_move rfl) ?_
                  refine N3 ?_
                  refine l_y rfl rfl (y_move rfl) ?_
                  repeat refine M2 ?_
                  refine l_y rfl rfl (y_pick_f rfl rfl) ?_
                  refine K2 (K3 (L9 (K5 (K3 (K0 (K1 ?_))))))
                  refine l_y rfl rfl (y_move rfl) ?_
                  refine l_y rfl rfl (y_move rfl) ?_
                  refine l_y rfl rfl (y_assign rfl) ?_
                  refine l_y rfl rfl (y_assign rfl) ?_
                  refine K2 (K3 (K6 ?_))
                  have e : elementL A sp nm xs none 0 = (0, 2, A) := by rw [elementL, if_neg (by omega), if_neg (by omega), if_neg hnt, if_pos (ht ▸ ha1)]
                  exact fin2 rfl rfl rfl ⟨_, ⟨none, 0, by rw [e], rfl⟩, by rw [e]; exact hO.one⟩
                · simp only [List.cons_append, List.nil_append] at hO
                  refine l_y rfl rfl (y_move rfl) ?_
                  refine l_y rfl rfl (y_extract rfl rfl) ?_
                  refine l_y rfl rfl (y_extract rfl rfl) ?_
                  refine l_y rfl rfl (y_assign rfl) ?_
                  refine l_y rfl rfl (y_assign rfl) ?_
                  refine K2 (K3 (K0 (K0 (K1 ?_))))
                  refine l_y rfl rfl (y_move rfl) ?_
                  refine N3 ?_
                  refine l_y rfl rfl (y_move rfl) ?_
                  repeat refine M2 ?_
                  refine l_y rfl rfl (y_pick_f rfl rfl) ?_
                  refine K2 (K3 (L9 (K5 (K3 (K0 (K1 ?_))))))
                  refine l_y rfl rfl (y_move rfl) ?_
                  refine l_y rfl rfl (y_move rfl) ?_
                  refine l_y rfl rfl (y_assign rfl) ?_
                  refine l_y rfl rfl (y_assign rfl) ?_
                  refine K2 (K3 (K6 ?_))
                  have e : elementL A sp nm xs none 0 = (0, 9, A) := by rw [elementL, if_neg (by omega), if_neg (by omega), if_neg hnt, if_neg (by rw [← ht, ha1]; simp), if_pos ha2]
                  exact fin2 rfl rfl rfl ⟨_, ⟨none, 0, by rw [e], rfl⟩, by rw [e]; exact hO.one⟩
                · simp only [List.cons_append, List.nil_append] at hO
                  refine l_y rfl rfl (y_move rfl) ?_
                  refine l_y rfl rfl (y_extract rfl rfl) ?_
                  refine l_y rfl rfl (y_extract rfl rfl) ?_
                  refine l_y rfl rfl (y_assign rfl) ?_
                  refine l_y rfl rfl (y_assign rfl) ?_
                  refine K2 (K3 (K0 (K0 (K1 ?_))))
                  refine l_y rfl rfl (y_move rfl) ?_
                  refine N2 ?_
                  refine l_y rfl rfl (y_move rfl) ?_
                  refine l_y rfl rfl (y_move rfl) ?_
                  refine l_y rfl rfl (y_pick_t rfl rfl) ?_
                  refine K2 (K3 (L8 (K0 (K1 ?_))))
                  refine l_y rfl rfl (y_move rfl) ?_
                  refine CK [.o a] hO rfl (fun k' hx hr hO' => FragmentOk_spec (by simp) (by simp; omega) (hO := hO')) ?_
                  rintro _ _ w ⟨rfl, rfl⟩ hO
                  simp only [List.cons_append, List.nil_append] at hO
                  refine l_y rfl rfl (y_move rfl) ?_
                  refine l_y rfl rfl (y_extract rfl rfl) ?_
                  refine l_y rfl rfl (y_extract rfl rfl) ?_
                  refine l_y rfl rfl (y_assign rfl) ?_
                  refine l_y rfl rfl (y_assign rfl) ?_
                  refine K2 (K3 ?_)
                  obtain ⟨p2, c2, hg2, hO⟩ := arenaL_open hO
                  have hl2 : (A ++ [blankN (elementN (some ⟨b70, 0, none⟩) xs.length sp nm xs)] ++ [blankN fragmentN]).length = A.length + 2 := by simp
                  have hl1 : (A ++ [blankN (elementN (some ⟨b70, 0, none⟩) xs.length sp nm xs)]).length = A.length + 1 := by simp
                  refine da_region (by intro c a d v w h; cases d <;> exact h) ?_
                  have hO := hO.drew
                  refine da_phase _ [15] (SO.ks [.b a] hO) ?_
                  refine dx_u 0 (by kernel_rfl) rfl rfl rfl (fun w => y_move rfl) ?_
                  refine dx_u 1 (by kernel_rfl) rfl rfl rfl (fun w => y_nilCheck rfl rfl) ?_
                  refine dx_u 2 (by kernel_rfl) rfl rfl rfl (fun w => y_fldb (o' := 0) rfl) ?_
                  refine dx_y 3 (by kernel_rfl) rfl rfl rfl (fun w ⟨m, hw⟩ => D5 hw rfl) ?_
                  refine dx_u 4 (by kernel_rfl) rfl rfl rfl (fun w => y_move rfl) ?_
                  refine dx_u 5 (by kernel_rfl) rfl rfl rfl (fun w => y_move rfl) ?_
                  refine dx_u 6 (by kernel_rfl) rfl rfl rfl (fun w => y_nilCheck rfl rfl) ?_
                  refine dx_u 7 (by kernel_rfl) rfl rfl rfl (fun w => y_fldb (o' := 0) rfl) ?_
                  refine dx_y 8 (by kernel_rfl) rfl rfl rfl (fun w ⟨m, hw⟩ => D5 hw rfl) ?_
                  refine dx_u 9 (by kernel_rfl) rfl rfl rfl (fun w => y_move rfl) ?_
                  refine dx_u 10 (by kernel_rfl) rfl rfl rfl (fun w => y_move rfl) ?_
                  refine dx_u 11 (by kernel_rfl) rfl rfl rfl (fun w => y_move rfl) ?_
                  refine dx_u 12 (by kernel_rfl) rfl rfl rfl (fun w => y_idx rfl rfl) ?_
                  refine dx_u 13 (by kernel_rfl) rfl rfl rfl (fun w => y_fld (j' := 0) rfl) ?_
                  refine dx_u 14 (by kernel_rfl) rfl rfl rfl (fun w => y_fld (j' := 11) rfl) ?_
                  refine dx_close 15 (by kernel_rfl) rfl rfl ?_
                  refine s_e1 (x0 := 11) hO rfl rfl (fun w hO => ?_)
                  refine o_done ?_
                  refine da_phase _ [18] (SO.ks [] hO) ?_
                  refine dx_u 16 (by kernel_rfl) rfl rfl rfl (fun w => y_idx rfl rfl) ?_
                  refine dx_u 17 (by kernel_rfl) rfl rfl rfl (fun w => y_fld (j' := 12) rfl) ?_
                  refine dx_close 18 (by kernel_rfl) rfl rfl ?_
                  refine s_e1 (x0 := 12) hO rfl rfl (fun w hO => ?_)
                  refine o_done ?_
                  refine da_end (by kernel_rfl) ?_
                  refine K3 (K0 (K1 ?_))
                  refine l_y rfl rfl (y_move rfl) ?_
                  refine l_y rfl rfl (y_move rfl) ?_
                  refine l_y rfl rfl (y_assign rfl) ?_
                  refine l_y rfl rfl (y_assign rfl) ?_
                  refine K2 (K3 (K6 ?_))
                  have e : elementL A sp nm xs (some ⟨b70, 0, none⟩) xs.length = ((A.length : Int), 0, setHost (setInner (A ++ [blankN (elementN (some ⟨b70, 0, none⟩) xs.length sp nm xs)] ++ [blankN fragmentN]) A.length (A ++ [blankN (elementN (some ⟨b70, 0, none⟩) xs.length sp nm xs)]).length) (A ++ [blankN (elementN (some ⟨b70, 0, none⟩) xs.length sp nm xs)]).length A.length) := by
                    rw [elementL, if_neg (by omega), if_neg (by omega), if_neg hnt, if_neg (by rw [← ht, ha1]; simp), if_neg (by omega), if_pos ⟨h13_1, h13_4⟩]
                  exact fin2 rfl rfl rfl ⟨_, ⟨some ⟨b70, 0, none⟩, xs.length, by rw [e], rfl⟩, by rw [e]; exact (arenaL_shut (hO.ks [.s, .b a, .p p2]) (by simp only [setHost, setInner]; rw [attrs_set, attrs_set] <;> rfl) (by simp [setHost, setInner])).one⟩
            · refine l_y rfl rfl (y_pick_t rfl rfl) ?_
              refine l_y rfl rfl (y_assign rfl) ?_
              refine K2 (K3 (K0 (K0 (K1 ?_))))
              refine l_y rfl rfl (y_move rfl) ?_
              refine l_y rfl rfl (y_move rfl) ?_
              repeat refine M2 ?_
              refine l_y rfl rfl (y_pick_f rfl rfl) ?_
              refine K2 (K3 (L9 (K5 (K3 (K0 ?_)))))
              have hnt : ¬ (tmpl sp nm ∧ A.length = 32767) := by
                rintro ⟨⟨q1, q2⟩, q3⟩
                first | exact h13_1 q1 | exact h13_4 q2 | omega
              refine K1 ?_
              refine l_y rfl rfl (y_move rfl) ?_
              refine l_y rfl rfl (y_move rfl) ?_
              refine l_y rfl rfl (y_move rfl) ?_
              refine l_y rfl rfl (y_move rfl) ?_
              refine CK [] hO rfl (fun k' hx hr hO' => own_spec (hs.ext hO hx) (by omega) (hO := hO')) ?_
              rintro _ _ w ⟨b70, rfl, rfl⟩ hO
              simp only [List.cons_append, List.nil_append] at hO
              refine s_build (parts := [(0, .const (.int .i64 1)), (1, .tmp 67), (2, .tmp 68), (3, .tmp 70)]) (cs := [.int .i64 1, .int .i64 sp, .string nm, .slice (some ⟨b70, 0, none⟩) xs.length xs.length, .string ⟨#[]⟩, .string ⟨#[]⟩, .int .i64 0, .int .i64 0, .int .i64 0, .int .i64 0, .int .i64 0, .int .i64 0]) rfl rfl (fun a ha => partsOf_sound ha _ _ rfl) (by kernel_rfl) ?_
              refine l_y rfl rfl (y_move rfl) ?_
              have hO := arenaL_shut (hO.ks [.s, .b a, .p p])
              refine CK [.o a, .p (some ⟨b70, 0, none⟩)] hO rfl (fun k' hx hr hO' => addC_spec (n := elementN (some ⟨b70, 0, none⟩) xs.length sp nm xs) (ts := ts) hn hc (sls_roK hr (sls_fct (p := tp) hO)) (by omega) (hO := hO')) ?_
              rintro _ _ w (⟨ha1, rfl, rfl⟩ | ⟨ha1, ha2, rfl, rfl⟩ | ⟨ha1, ha2, rfl, rfl⟩) hO
              · simp only [List.cons_append, List.nil_append] at hO
                refine l_y rfl rfl (y_move rfl) ?_
                refine l_y rfl rfl (y_extract rfl rfl) ?_
                refine l_y rfl rfl (y_extract rfl rfl) ?_
                refine l_y rfl rfl (y_assign rfl) ?_
                refine l_y rfl rfl (y_assign rfl) ?_
                refine K2 (K3 (K0 (K0 (K1 ?_))))
                refine l_y rfl rfl (y_move rfl) ?_
                refine N3 ?_
                refine l_y rfl rfl (y_move rfl) ?_
                repeat refine M2 ?_
                refine l_y rfl rfl (y_pick_f rfl rfl) ?_
                refine K2 (K3 (L9 (K5 (K3 (K0 (K1 ?_))))))
                refine l_y rfl rfl (y_move rfl) ?_
                refine l_y rfl rfl (y_move rfl) ?_
                refine l_y rfl rfl (y_assign rfl) ?_
                refine l_y rfl rfl (y_assign rfl) ?_
                refine K2 (K3 (K6 ?_))
                have e : elementL A sp nm xs none 0 = (0, 2, A) := by rw [elementL, if_neg (by omega), if_neg (by omega), if_neg hnt, if_pos (ht ▸ ha1)]
                exact fin2 rfl rfl rfl ⟨_, ⟨none, 0, by rw [e], rfl⟩, by rw [e]; exact hO.one⟩
              · simp only [List.cons_append, List.nil_append] at hO
                refine l_y rfl rfl (y_move rfl) ?_
                refine l_y rfl rfl (y_extract rfl rfl) ?_
                refine l_y rfl rfl (y_extract rfl rfl) ?_
                refine l_y rfl rfl (y_assign rfl) ?_
                refine l_y rfl rfl (y_assign rfl) ?_
                refine K2 (K3 (K0 (K0 (K1 ?_))))
                refine l_y rfl rfl (y_move rfl) ?_
                refine N3 ?_
                refine l_y rfl rfl (y_move rfl) ?_
                repeat refine M2 ?_
                refine l_y rfl rfl (y_pick_f rfl rfl) ?_
                refine K2 (K3 (L9 (K5 (K3 (K0 (K1 ?_))))))
                refine l_y rfl rfl (y_move rfl) ?_
                refine l_y rfl rfl (y_move rfl) ?_
                refine l_y rfl rfl (y_assign rfl) ?_
                refine l_y rfl rfl (y_assign rfl) ?_
                refine K2 (K3 (K6 ?_))
                have e : elementL A sp nm xs none 0 = (0, 9, A) := by rw [elementL, if_neg (by omega), if_neg (by omega), if_neg hnt, if_neg (by rw [← ht, ha1]; simp), if_pos ha2]
                exact fin2 rfl rfl rfl ⟨_, ⟨none, 0, by rw [e], rfl⟩, by rw [e]; exact hO.one⟩
              · simp only [List.cons_append, List.nil_append] at hO
                refine l_y rfl rfl (y_move rfl) ?_
                refine l_y rfl rfl (y_extract rfl rfl) ?_
                refine l_y rfl rfl (y_extract rfl rfl) ?_
                refine l_y rfl rfl (y_assign rfl) ?_
                refine l_y rfl rfl (y_assign rfl) ?_
                refine K2 (K3 (K0 (K0 (K1 ?_))))
                refine l_y rfl rfl (y_move rfl) ?_
                refine N2 ?_
                refine l_y rfl rfl (y_move rfl) ?_
                refine l_y rfl rfl (y_move rfl) ?_
                refine l_y rfl rfl (y_pick_t rfl rfl) ?_
                refine K2 (K3 (L9 (K5 (K3 (K0 (K1 ?_))))))
                refine l_y rfl rfl (y_move rfl) ?_
                refine l_y rfl rfl (y_move rfl) ?_
                refine l_y rfl rfl (y_assign rfl) ?_
                refine l_y rfl rfl (y_assign rfl) ?_
                refine K2 (K3 (K6 ?_))
                have e : elementL A sp nm xs (some ⟨b70, 0, none⟩) xs.length = ((A.length : Int), 0, A ++ [blankN (elementN (some ⟨b70, 0, none⟩) xs.length sp nm xs)]) := by
                  rw [elementL, if_neg (by omega), if_neg (by omega), if_neg hnt, if_neg (by rw [← ht, ha1]; simp), if_neg (by omega), if_neg (by rintro ⟨q1, q2⟩; first | exact h13_1 q1 | exact h13_4 q2)]
                exact fin2 rfl rfl rfl ⟨_, ⟨some ⟨b70, 0, none⟩, xs.length, by rw [e], rfl⟩, by rw [e]; exact hO.one⟩
          · refine l_y rfl rfl (y_move rfl) ?_
            repeat refine M2 ?_
            refine l_y rfl rfl (y_pick_f rfl rfl) ?_
            refine l_y rfl rfl (y_assign rfl) ?_
            refine K2 (K3 (K0 (K0 (K1 ?_))))
            refine l_y rfl rfl (y_move rfl) ?_
            refine l_y rfl rfl (y_move rfl) ?_
            repeat refine M2 ?_
            refine l_y rfl rfl (y_pick_f rfl rfl) ?_
            refine K2 (K3 (L9 (K5 (K3 (K0 ?_)))))
            have hnt : ¬ (tmpl sp nm ∧ A.length = 32767) := by
              rintro ⟨⟨q1, q2⟩, q3⟩
              first | exact h13_1 q1 | exact h13_4 q2 | omega
            refine K1 ?_
            refine l_y rfl rfl (y_move rfl) ?_
            refine l_y rfl rfl (y_move rfl) ?_
            refine l_y rfl rfl (y_move rfl) ?_
            refine l_y rfl rfl (y_move rfl) ?_
            refine CK [] hO rfl (fun k' hx hr hO' => own_spec (hs.ext hO hx) (by omega) (hO := hO')) ?_
            rintro _ _ w ⟨b70, rfl, rfl⟩ hO
            simp only [List.cons_append, List.nil_append] at hO
            refine s_build (parts := [(0, .const (.int .i64 1)), (1, .tmp 67), (2, .tmp 68), (3, .tmp 70)]) (cs := [.int .i64 1, .int .i64 sp, .string nm, .slice (some ⟨b70, 0, none⟩) xs.length xs.length, .string ⟨#[]⟩, .string ⟨#[]⟩, .int .i64 0, .int .i64 0, .int .i64 0, .int .i64 0, .int .i64 0, .int .i64 0]) rfl rfl (fun a ha => partsOf_sound ha _ _ rfl) (by kernel_rfl) ?_
            refine l_y rfl rfl (y_move rfl) ?_
            have hO := arenaL_shut (hO.ks [.s, .b a, .p p])
            refine CK [.o a, .p (some ⟨b70, 0, none⟩)] hO rfl (fun k' hx hr hO' => addC_spec (n := elementN (some ⟨b70, 0, none⟩) xs.length sp nm xs) (ts := ts) hn hc (sls_roK hr (sls_fct (p := tp) hO)) (by omega) (hO := hO')) ?_
            rintro _ _ w (⟨ha1, rfl, rfl⟩ | ⟨ha1, ha2, rfl, rfl⟩ | ⟨ha1, ha2, rfl, rfl⟩) hO
            · simp only [List.cons_append, List.nil_append] at hO
              refine l_y rfl rfl (y_move rfl) ?_
              refine l_y rfl rfl (y_extract rfl rfl) ?_
              refine l_y rfl rfl (y_extract rfl rfl) ?_
              refine l_y rfl rfl (y_assign rfl) ?_
              refine l_y rfl rfl (y_assign rfl) ?_
              refine K2 (K3 (K0 (K0 (K1 ?_))))
              refine l_y rfl rfl (y_move rfl) ?_
              refine N3 ?_
              refine l_y rfl rfl (y_move rfl) ?_
              repeat refine M2 ?_
              refine l_y rfl rfl (y_pick_f rfl rfl) ?_
              refine K2 (K3 (L9 (K5 (K3 (K0 (K1 ?_))))))
              refine l_y rfl rfl (y_move rfl) ?_
              refine l_y rfl rfl (y_move rfl) ?_
              refine l_y rfl rfl (y_assign rfl) ?_
              refine l_y rfl rfl (y_assign rfl) ?_
              refine K2 (K3 (K6 ?_))
              have e : elementL A sp nm xs none 0 = (0, 2, A) := by rw [elementL, if_neg (by omega), if_neg (by omega), if_neg hnt, if_pos (ht ▸ ha1)]
              exact fin2 rfl rfl rfl ⟨_, ⟨none, 0, by rw [e], rfl⟩, by rw [e]; exact hO.one⟩
            · simp only [List.cons_append, List.nil_append] at hO
              refine l_y rfl rfl (y_move rfl) ?_
              refine l_y rfl rfl (y_extract rfl rfl) ?_
              refine l_y rfl rfl (y_extract rfl rfl) ?_
              refine l_y rfl rfl (y_assign rfl) ?_
              refine l_y rfl rfl (y_assign rfl) ?_
              refine K2 (K3 (K0 (K0 (K1 ?_))))
              refine l_y rfl rfl (y_move rfl) ?_
              refine N3 ?_
              refine l_y rfl rfl (y_move rfl) ?_
              repeat refine M2 ?_
              refine l_y rfl rfl (y_pick_f rfl rfl) ?_
              refine K2 (K3 (L9 (K5 (K3 (K0 (K1 ?_))))))
              refine l_y rfl rfl (y_move rfl) ?_
              refine l_y rfl rfl (y_move rfl) ?_
              refine l_y rfl rfl (y_assign rfl) ?_
              refine l_y rfl rfl (y_assign rfl) ?_
              refine K2 (K3 (K6 ?_))
              have e : elementL A sp nm xs none 0 = (0, 9, A) := by rw [elementL, if_neg (by omega), if_neg (by omega), if_neg hnt, if_neg (by rw [← ht, ha1]; simp), if_pos ha2]
              exact fin2 rfl rfl rfl ⟨_, ⟨none, 0, by rw [e], rfl⟩, by rw [e]; exact hO.one⟩
            · simp only [List.cons_append, List.nil_append] at hO
              refine l_y rfl rfl (y_move rfl) ?_
              refine l_y rfl rfl (y_extract rfl rfl) ?_
              refine l_y rfl rfl (y_extract rfl rfl) ?_
              refine l_y rfl rfl (y_assign rfl) ?_
              refine l_y rfl rfl (y_assign rfl) ?_
              refine K2 (K3 (K0 (K0 (K1 ?_))))
              refine l_y rfl rfl (y_move rfl) ?_
              refine N2 ?_
              refine l_y rfl rfl (y_move rfl) ?_
              refine l_y rfl rfl (y_move rfl) ?_
              refine l_y rfl rfl (y_pick_t rfl rfl) ?_
              refine K2 (K3 (L9 (K5 (K3 (K0 (K1 ?_))))))
              refine l_y rfl rfl (y_move rfl) ?_
              refine l_y rfl rfl (y_move rfl) ?_
              refine l_y rfl rfl (y_assign rfl) ?_
              refine l_y rfl rfl (y_assign rfl) ?_
              refine K2 (K3 (K6 ?_))
              have e : elementL A sp nm xs (some ⟨b70, 0, none⟩) xs.length = ((A.length : Int), 0, A ++ [blankN (elementN (some ⟨b70, 0, none⟩) xs.length sp nm xs)]) := by
                rw [elementL, if_neg (by omega), if_neg (by omega), if_neg hnt, if_neg (by rw [← ht, ha1]; simp), if_neg (by omega), if_neg (by rintro ⟨q1, q2⟩; first | exact h13_1 q1 | exact h13_4 q2)]
              exact fin2 rfl rfl rfl ⟨_, ⟨some ⟨b70, 0, none⟩, xs.length, by rw [e], rfl⟩, by rw [e]; exact hO.one⟩
end Go.Proofs.YtoohapbaelmkcaaGreat
