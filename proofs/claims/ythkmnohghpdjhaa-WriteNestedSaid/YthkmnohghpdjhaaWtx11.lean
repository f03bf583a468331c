/- The walk of the law WriteNested; no condition. -/
import Derived.Test.YthkmnohghpdjhaaWtx10
set_option linter.unusedVariables false
set_option linter.unusedSimpArgs false
set_option maxRecDepth 100000
namespace Go.Proofs.Ythkmnohghpdjhaa
open Go Go.Hb Go.RowKit
section
variable {k : Ctx} {w : World}
theorem nest_el {A : List Node_one} {nm : ByteArray} (h : nm ∈ nestL) (hl : A.length ≤ 1000) (q : Option Addr) (d : Nat) : elementL A 0 nm [] q d = ((A.length : Int), 0, A ++ [blankN (elementN q d 0 nm [])]) := by
  have h1 : ¬ tmpl 0 nm := by
    simp only [nestL, List.mem_cons, List.not_mem_nil, or_false] at h
    rcases h with rfl | rfl | rfl | rfl <;> decide
  have h2 : longB (nm :: attrTexts []) = false := by
    simp only [nestL, List.mem_cons, List.not_mem_nil, or_false] at h
    rcases h with rfl | rfl | rfl | rfl <;> decide
  rw [elementL, if_neg (by omega), if_neg (by simp), if_neg (fun h => h1 h.1), if_neg (by rw [h2]; simp), if_neg (by omega), if_neg h1]
set_option maxHeartbeats 2000000 in
theorem WriteNested_spec {p : Option Addr} {c : Nat} {xs : List Int} {s : ByteArray} (hs : Sli (Ro k) (.slice p xs.length c) (xs.map (eI .u8))) (hb : ∀ x ∈ xs, 0 ≤ x ∧ x ≤ 255) (hO : Own k w []) :
    Tri Try.prog 3 #[.slice p xs.length c, .string s] k w fun v m => v = .bool true := by
  refine enter (args := [.slice p xs.length c, .string s]) Try.func3 rfl rfl ?_
  have hgs := sli_gs hs
  refine K0 (K1 ?_)
  refine l_y rfl rfl (y_assign rfl) ?_
  refine K2 (K3 (K0 (K1 ?_)))
  refine CK [] hO rfl (fun k' hx hr hO' => New_spec (hO := hO')) ?_
  rintro _ _ w ⟨a18, rfl, rfl⟩ hO
  simp only [List.cons_append, List.nil_append] at hO
  refine l_y rfl rfl (y_assign rfl) ?_
  refine K2 (K3 (K0 (K0 (K1 ?_))))
  refine l_y rfl rfl (y_move rfl) ?_
  refine l_y rfl rfl (y_eqPnil rfl rfl rfl) ?_
  refine l_y rfl rfl (y_move rfl) ?_
  refine l_y rfl rfl (y_move rfl) ?_
  refine l_y rfl rfl (y_lenS rfl) ?_
  refine Z0 (fun h2_5 => ?_) (fun h2_5 => ?_)
  · refine l_y rfl rfl (y_pick_f rfl rfl) ?_
    refine K2 (K3 (L8 (K0 (K1 ?_))))
    refine l_y rfl rfl (y_move rfl) ?_
    refine l_y rfl rfl (y_nePnil rfl rfl rfl) ?_
    refine l_y rfl rfl (y_assign rfl) ?_
    refine K2 (K3 (K6 (K9 ?_)))
    exact fin1 rfl rfl ⟨_, rfl, hO⟩
  · refine l_y rfl rfl (y_pick_f rfl rfl) ?_
    refine K2 (K3 (L9 (K5 (K3 (K0 (K1 ?_))))))
    refine s_lit (parts := [(0, .const (.string ⟨#[100, 105, 118]⟩)), (1, .const (.string ⟨#[112]⟩)), (2, .const (.string ⟨#[98]⟩)), (3, .const (.string ⟨#[120]⟩))]) (enc := eS) [⟨#[100, 105, 118]⟩, ⟨#[112]⟩, ⟨#[98]⟩, ⟨#[120]⟩] [.string ⟨#[100, 105, 118]⟩, .string ⟨#[112]⟩, .string ⟨#[98]⟩, .string ⟨#[120]⟩] hO rfl (fun b28 w hO => ?_)
    refine l_y rfl rfl (y_assign rfl) ?_
    refine K2 (K3 (K0 (K1 ?_)))
    refine l_y rfl rfl (y_assign rfl) ?_
    refine K2 (K3 (K0 (K1 ?_)))
    refine l_y rfl rfl (y_assign rfl) ?_
    refine K2 (K3 (K0 (K1 ?_)))
    refine l_y rfl rfl (y_assign rfl) ?_
    refine K2 (K3 ?_)
    refine c_cut (X := Int × List ByteArray × List Node_one × (Int → List Int)) (fun y => [(1, .string s), (4, .bool false), (5, .pointer (some ⟨a18, 0, none⟩)), (7, .int .i64 y.1), (8, .string (ba (openL y.2.1))), (9, .string (ba (shutL y.2.1)))]) (fun y w => Own k w [arenaL a18 y.2.2.1] ∧ (y.1 = (y.2.1.length : Int) ∧ y.2.1.length ≤ 100) ∧ (NestS y.2.2.1 y.2.2.2 y.2.1)) ?_ ?_
    · refine K0 (K1 ?_)
      refine l_y rfl rfl (y_assign rfl) ?_
      refine K2 (K3 (K4 ?_))
      refine c_rounds (X := Nat × Int × List ByteArray × List Node_one × (Int → List Int)) (fun x => [(0, .slice p xs.length c), (1, .string s), (4, .bool false), (5, .pointer (some ⟨a18, 0, none⟩)), (6, .slice (some ⟨b28, 0, none⟩) 4 4), (7, .int .i64 x.2.1), (8, .string (ba (openL x.2.2.1))), (9, .string (ba (shutL x.2.2.1))), (10, .int .i64 (x.1 : Int))]) (fun x w => Own k w [arenaL a18 x.2.2.2.1, sls (some ⟨b28, 0, none⟩) 4 9 1 eS nestL] ∧ (x.1 ≤ xs.length ∧ x.1 ≤ 100) ∧ (x.2.2.1.length = x.1 ∧ x.2.1 = (x.2.2.1.length : Int)) ∧ (NestS x.2.2.2.1 x.2.2.2.2 x.2.2.1)) (fun x => 100 - x.1) ((0, 0, [], [docD], fun _ => [])) ⟨rfl, rfl, rfl, rfl, rfl, rfl, rfl, rfl, rfl, trivial⟩ ⟨hO.only [.o a18, .p (some ⟨b28, 0, none⟩)], ⟨Nat.zero_le _, Nat.zero_le _⟩, ⟨rfl, rfl⟩, NestS.new⟩ ?_
      rintro x w m hm ⟨hO, hi, hn, t⟩
      refine K0 (K0 (K1 ?_))
      refine l_y rfl rfl (y_move rfl) ?_
      refine l_y rfl rfl (y_move rfl) ?_
      refine l_y rfl rfl (y_lenL rfl) ?_
      refine Z0 (fun h9_3 => ?_) (fun h9_3 => ?_)
      · refine l_y rfl rfl (y_move rfl) ?_
        refine l_y rfl rfl (y_move rfl) ?_
        refine Z0 (fun h9_6 => ?_) (fun h9_6 => ?_)
        · refine l_y rfl rfl (y_pick_t rfl rfl) ?_
          refine K2 (K3 (L8 (K5 (K3 (K0 (K4 (K0 ?_)))))))
          have htl := t.len
          obtain ⟨z, hz⟩ : ∃ z, z = at_ xs ((x.1 : Int)).toNat := ⟨_, rfl⟩
          have hzb : 0 ≤ z ∧ z ≤ 255 := by rw [hz]; exact hb _ (at_mem (by omega))
          obtain ⟨m0, hm0⟩ : ∃ m0 : Nat, z % 4 = (m0 : Int) := ⟨(z % 4).toNat, by omega⟩
          have hm4 : m0 < 4 := by omega
          obtain ⟨nm, hnm⟩ : ∃ nm, nm = at_ nestL ((m0 : Int)).toNat := ⟨_, rfl⟩
          have hnl : nm ∈ nestL := by rw [hnm]; exact at_mem (by show m0 < 4; exact hm4)
          have hnz : (tl nm).length ≤ 3 := by
            simp only [nestL, List.mem_cons, List.not_mem_nil, or_false] at hnl
            rcases hnl with h | h | h | h <;> rw [h] <;> decide
          obtain ⟨hlo, hls⟩ := nest_len t.nm
          have hlg : Gs (some ⟨b28, 0, none⟩) 4 := Gs.some _ _ _
          refine K1 ?_
          refine l_y rfl rfl (y_move rfl) ?_
          refine l_y rfl rfl (y_move rfl) ?_
          refine l_y rfl rfl (y_move rfl) ?_
          refine l_y rfl rfl (y_idx rfl rfl) ?_
          refine l_y rfl rfl (y_r1 (x0 := 0) (enc := (eI .u8)) (xs := xs) hO rfl) ?_
          refine l_y rfl rfl (D7) ?_
          rw [← hz]
          refine l_y rfl rfl (y_remN rfl rfl hzb.1 (by decide)) ?_
          rw [hm0]
          refine l_y rfl rfl (y_idx rfl rfl) ?_
          refine l_y rfl rfl (y_e1 (x0 := 0) hO rfl (hi := by show m0 < 4; exact hm4)) ?_
          rw [← hnm]
          refine l_y rfl rfl (y_assign rfl) ?_
          refine K2 (K3 (K0 ?_))
          have h1000 : x.2.2.2.1.length ≤ 1000 := by omega
          refine K1 ?_
          refine l_y rfl rfl (y_move rfl) ?_
          refine l_y rfl rfl (y_move rfl) ?_
          refine CK [.o a18] hO rfl (fun k' hx hr hO' => Element_spec (xs := []) (by omega) (by omega) (Sli.nil rfl) (hO := hO')) ?_
          rintro _ _ w ⟨q1, d1, rfl, rfl⟩ hO
          simp only [List.cons_append, List.nil_append] at hO
          rw [nest_el hnl h1000 q1 d1] at hO ⊢
          obtain ⟨h0, t2⟩ := t.step hnl q1 d1
          have t1 := t.tx.tree.add (elementN q1 d1 0 nm []) (Nat.zero_le _)
          refine l_y rfl rfl (y_move rfl) ?_
          refine l_y rfl rfl (y_extract rfl rfl) ?_
          refine l_y rfl rfl (y_extract rfl rfl) ?_
          refine l_y rfl rfl (y_assign rfl) ?_
          refine l_y rfl rfl (y_assign rfl) ?_
          refine K2 (K3 (K0 (K1 ?_)))
          refine l_y rfl rfl (y_move rfl) ?_
          refine l_y rfl rfl (y_move rfl) ?_
          refine l_y rfl rfl (y_move rfl) ?_
          refine CK [.o a18] hO rfl (fun k' hx hr hO' => LinkC_spec (by simp) t1.rank t1.links (hO := hO')) ?_
          rintro _ _ w ⟨rfl, rfl⟩ hO
          simp only [List.cons_append, List.nil_append] at hO
          rw [hn.2] at hO
          refine K2 (K3 (K0 (K1 ?_)))
          refine l_y rfl rfl (y_move rfl) ?_
          refine l_y rfl rfl (y_assign rfl) ?_
          refine K2 (K3 (K0 (K1 ?_)))
          refine l_y rfl rfl (y_move rfl) ?_
          refine l_y rfl rfl (y_catB rfl rfl (Y := [60]) (tl_ba _) rfl (by simp only [List.length_cons, List.length_nil]; omega)) ?_
          refine l_y rfl rfl (y_move rfl) ?_
          refine l_y rfl rfl (y_catB rfl rfl (Y := tl nm) (tl_ba _) rfl (by simp only [List.length_append, List.length_cons, List.length_nil]; omega)) ?_
          refine l_y rfl rfl (y_catB rfl rfl (Y := [62]) (tl_ba _) rfl (by simp only [List.length_append, List.length_cons, List.length_nil]; omega)) ?_
          rw [← openL_snoc]
          refine l_y rfl rfl (y_assign rfl) ?_
          refine K2 (K3 (K1 ?_))
          refine l_y rfl rfl (y_move rfl) ?_
          refine l_y rfl rfl (y_catB rfl rfl (X := [60, 47]) (Y := tl nm) rfl rfl (by simp only [List.length_cons, List.length_nil]; omega)) ?_
          refine l_y rfl rfl (y_catB rfl rfl (Y := [62]) (tl_ba _) rfl (by simp only [List.length_append, List.length_cons, List.length_nil]; omega)) ?_
          refine l_y rfl rfl (y_move rfl) ?_
          refine l_y rfl rfl (y_catB rfl rfl (tl_ba _) (tl_ba _) (by simp only [List.length_append, List.length_cons, List.length_nil]; omega)) ?_
          rw [← shutL_snoc]
          refine l_y rfl rfl (y_assign rfl) ?_
          refine K2 (K8 (K3 (K1 ?_)))
          refine l_y rfl rfl (y_move rfl) ?_
          refine l_y rfl rfl (D4) ?_
          refine l_y rfl rfl (y_assign rfl) ?_
          refine K2 ?_
          exact q_next ((x.1 + 1, _, x.2.2.1 ++ [nm], _, _)) ⟨rfl, rfl, rfl, rfl, rfl, rfl, rfl, rfl, rfl, trivial⟩ ⟨hO.only [.o a18, .p (some ⟨b28, 0, none⟩)], (by constructor <;> dsimp only <;> omega), (by simp [hn.1, t.len]), t2⟩ (by dsimp only; omega)
        · refine l_y rfl rfl (y_pick_t rfl rfl) ?_
          refine K2 (K3 (L9 (K7 (L1 (L1 (L2 ?_))))))
          exact q_cut ((_, x.2.2.1, _, x.2.2.2.2)) ⟨rfl, rfl, rfl, rfl, rfl, rfl, trivial⟩ ⟨hO.only [.o a18], ⟨hn.2, by dsimp only; omega⟩, t⟩
      · refine l_y rfl rfl (y_move rfl) ?_
        repeat refine M2 ?_
        refine l_y rfl rfl (y_pick_f rfl rfl) ?_
        refine K2 (K3 (L9 (K7 (L1 (L1 (L2 ?_))))))
        exact q_cut ((_, x.2.2.1, _, x.2.2.2.2)) ⟨rfl, rfl, rfl, rfl, rfl, rfl, trivial⟩ ⟨hO.only [.o a18], ⟨hn.2, by dsimp only; omega⟩, t⟩
    · rintro y w ⟨hO, hu, t⟩
      refine K0 ?_
      have htl := t.len
      have h1000 : y.2.2.1.length ≤ 1000 := by omega
      obtain ⟨h0, t2⟩ := t.text (x := s) (by omega)
      have t1 := t.tx.tree.add (textN s) (Nat.zero_le _)
      have eadd : addL y.2.2.1 (textN s) [s] = ((y.2.2.1.length : Int), 0, y.2.2.1 ++ [blankN (textN s)]) := by
        rw [addL, if_neg (by simp [longB]; omega), if_neg (by omega)]
      obtain ⟨hlo, hls⟩ := nest_len t.nm
      refine K1 ?_
      refine l_y rfl rfl (y_move rfl) ?_
      refine l_y rfl rfl (y_move rfl) ?_
      refine CK [.o a18] hO rfl (fun k' hx hr hO' => Text_spec (by omega) (by omega) (hO := hO')) ?_
      rintro _ _ w ⟨rfl, rfl⟩ hO
      simp only [List.cons_append, List.nil_append] at hO
      rw [eadd] at hO ⊢
      refine l_y rfl rfl (y_move rfl) ?_
      refine l_y rfl rfl (y_extract rfl rfl) ?_
      refine l_y rfl rfl (y_extract rfl rfl) ?_
      refine l_y rfl rfl (y_assign rfl) ?_
      refine l_y rfl rfl (y_assign rfl) ?_
      refine K2 (K3 (K0 (K1 ?_)))
      refine l_y rfl rfl (y_move rfl) ?_
      refine l_y rfl rfl (y_move rfl) ?_
      refine l_y rfl rfl (y_move rfl) ?_
      refine CK [.o a18] hO rfl (fun k' hx hr hO' => LinkC_spec (by simp) t1.rank t1.links (hO := hO')) ?_
      rintro _ _ w ⟨rfl, rfl⟩ hO
      simp only [List.cons_append, List.nil_append] at hO
      rw [hu.1] at hO
      have hl2 := t2.len
      refine K2 (K3 (K0 (K1 ?_)))
      refine l_y rfl rfl (y_move rfl) ?_
      refine CK [.o a18] hO rfl (fun k' hx hr hO' => wInnerOk_spec (K := linkK (addK y.2.2.1 y.2.2.2) y.2.1.length y.2.2.1.length (-1)) t2.tx (by omega) ⟨by decide, by omega⟩ hO') ?_
      rintro _ _ w ⟨rfl, rfl⟩ hO
      simp only [List.cons_append, List.nil_append] at hO
      have ht := t2.inner true y.2.1.length 0 ((linkL (y.2.2.1 ++ [blankN (textN s)]) y.2.1.length y.2.2.1.length (-1)).2.length) (by omega) (by omega)
      rw [show (((0 : Nat) : Int)) = 0 from rfl, List.drop_zero] at ht
      rw [ht]
      refine l_y rfl rfl (y_move rfl) ?_
      refine l_y rfl rfl (y_extract rfl rfl) ?_
      refine l_y rfl rfl (y_extract rfl rfl) ?_
      refine l_y rfl rfl (y_assign rfl) ?_
      refine l_y rfl rfl (y_assign rfl) ?_
      refine K2 (K3 (K0 (K1 ?_)))
      refine l_y rfl rfl (y_move rfl) ?_
      refine N2 ?_
      refine l_y rfl rfl (y_move rfl) ?_
      refine l_y rfl rfl (y_move rfl) ?_
      refine l_y rfl rfl (y_move rfl) ?_
      refine l_y rfl rfl (y_move rfl) ?_
      have hes := escB_size false s
      have hel := tl_len (escB false s)
      rw [tl_escB] at hel
      refine CK [] hO rfl (fun k' hx hr hO' => EscB_spec (s := s) (by omega) hO') ?_
      rintro _ _ w ⟨rfl, rfl⟩ hO
      simp only [List.cons_append, List.nil_append] at hO
      refine l_y rfl rfl (y_catB rfl rfl (tl_ba _) (tl_escB _ _) (by omega)) ?_
      refine l_y rfl rfl (y_move rfl) ?_
      refine l_y rfl rfl (y_catB rfl rfl (tl_ba _) (tl_ba _) (by simp only [List.length_append]; omega)) ?_
      refine N6 (hp := rfl) ?_
      refine l_y rfl rfl (y_pick_t rfl rfl) ?_
      refine l_y rfl rfl (y_move rfl) ?_
      refine CK [] hO rfl (fun k' hx hr hO' => awake17_spec (hO := hO')) ?_
      rintro _ _ w ⟨rfl, rfl⟩ hO
      simp only [List.cons_append, List.nil_append] at hO
      refine l_y rfl rfl (y_pick_t rfl rfl) ?_
      refine l_y rfl rfl (y_assign rfl) ?_
      refine K2 (K3 (K6 ?_))
      exact fin1 rfl rfl ⟨_, rfl, hO⟩
end
end Go.Proofs.Ythkmnohghpdjhaa
