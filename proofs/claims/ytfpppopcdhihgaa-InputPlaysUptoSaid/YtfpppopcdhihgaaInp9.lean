/- The walk of the law InputChunks. -/
import Derived.Test.YtfpppopcdhihgaaInp8
set_option linter.unusedVariables false
set_option linter.unusedSimpArgs false
namespace Go.Proofs.Ytfpppopcdhihgaa
open Go Go.Hb Go.RowKit
theorem ends_app : ∀ (a b : List Int) (cr : Bool), ends cr (a ++ b) = ((ends cr a).1 ++ (ends (ends cr a).2 b).1, (ends (ends cr a).2 b).2)
  | [], b, cr => rfl
  | r :: a, b, cr => by
    rw [List.cons_append, ends_cons, ends_cons, ends_app a b]
    dsimp only
    split
    · simp
    · split <;> simp
def lns : Bool → List Int → Nat
  | _, [] => 0
  | cr, r :: l => (if r = 13 ∨ (r = 10 ∧ cr = false) then 1 else 0) + lns (r == 13) l
theorem lns_cons (cr : Bool) (r : Int) (l : List Int) : lns cr (r :: l) = (if r = 13 ∨ (r = 10 ∧ cr = false) then 1 else 0) + lns (r == 13) l := rfl
theorem lns_le : ∀ (l : List Int) (cr : Bool), lns cr l ≤ l.length
  | [], _ => Nat.le_refl _
  | r :: l, cr => by
    have := lns_le l (r == 13)
    unfold lns
    simp only [List.length_cons]
    split <;> omega
def tens : List Int → Nat
  | [] => 0
  | r :: l => (if r = 10 then 1 else 0) + tens l
theorem tens_cons (r : Int) (l : List Int) : tens (r :: l) = (if r = 10 then 1 else 0) + tens l := rfl
theorem ends_tens : ∀ (l : List Int) (cr : Bool), tens (ends cr l).1 = lns cr l
  | [], _ => rfl
  | r :: l, cr => by
    rw [ends_cons]
    dsimp only
    unfold lns
    have ih := ends_tens l (r == 13)
    by_cases h13 : r = 13
    · rw [if_pos h13, if_pos (.inl h13), tens, if_pos rfl, ih]
    · rw [if_neg h13]
      by_cases h10 : cr = true ∧ r = 10
      · rw [if_pos h10, if_neg (by rintro (h | ⟨_, h⟩); exact h13 h; rw [h10.1] at h; cases h), ih]; omega
      · rw [if_neg h10, tens, ih]
        congr 1
        by_cases h : r = 10
        · rw [if_pos h, if_pos (.inr ⟨h, by cases cr; rfl; exact absurd ⟨rfl, h⟩ h10⟩)]
        · rw [if_neg h, if_neg (by rintro (h' | ⟨h', _⟩); exact h13 h'; exact h h')]
theorem ends_no13 : ∀ (l : List Int) (cr : Bool) (x : Int), x ∈ (ends cr l).1 → x ≠ 13
  | [], _, x, h => by cases h
  | r :: l, cr, x, h => by
    rw [ends_cons] at h
    dsimp only at h
    split at h
    · rcases List.mem_cons.1 h with rfl | h
      · decide
      · exact ends_no13 l _ x h
    · split at h
      · exact ends_no13 l _ x h
      · rcases List.mem_cons.1 h with rfl | h
        · assumption
        · exact ends_no13 l _ x h
set_option maxHeartbeats 4000000 in
theorem InputChunks_spec (k : Ctx) (w : World) (p pw : Option Addr) (n cap nw cw : Nat) (x cs : List Int) (hS : Sli (Ro k) (.slice p n cap) (iv .i32 x)) (hxl : x.length ≤ 9223372036854775807)
    (hC : Sli (Ro k) (.slice pw nw cw) (iv .u8 cs)) (hcl : cs.length ≤ 9223372036854775807) (hcb : ∀ c ∈ cs, 0 ≤ c ∧ c ≤ 255) (hO : Own k w []) :
    Tri Try.prog 3 #[.slice p n cap, .slice pw nw cw] k w fun r m => r = .bool true := by
  refine enter (args := [.slice p n cap, .slice pw nw cw]) Try.func3 rfl rfl ?_
  repeat (first | (with_reducible first | refine K0 ?_ | refine K1 ?_ | refine K2 ?_ | refine K3 ?_ | refine K4 ?_ | refine K5 ?_ | refine K6 ?_ | refine K7 ?_ | refine K8 ?_ | refine K9 ?_ | refine L0 ?_ | refine L1 ?_ | refine L2 ?_ | refine L3 ?_ | refine L4 ?_ | refine L5 ?_ | refine L6 ?_) | refine Y0 hO rfl ?_ | refine Y1 hO rfl rfl (fun w hO => ?_) | refine Y2 hO rfl ?_ | refine Y3 hO rfl rfl (fun w hO => ?_) | refine l_y rfl rfl (y_index rfl rfl (by omega) (by omega)) ?_ | refine l_y rfl rfl (y_indexA rfl rfl (by omega) (by omega)) ?_ | refine L7 ?_ | refine L8 ?_ | refine L9 ?_ | refine M0 ?_ | refine M1 ?_ | refine M2 ?_ | refine M3 ?_ | refine M4 ?_ | refine M5 ?_ | refine M6 ?_ | refine M7 ?_ | refine M8 ?_ | refine M9 ?_ | refine N0 ?_ | refine N1 ?_ | refine N2 ?_ | refine N3 ?_ | refine N4 ?_ | refine N5 ?_ | refine N6 ?_ | refine N7 ?_ | refine N8 ?_ | refine N9 ?_ | refine R0 ?_ | refine R1 ?_ | refine R2 ?_ | refine R3 ?_ | refine R4 ?_ | refine R5 ?_ | refine R6 ?_ | refine R7 ?_ | refine R8 ?_ | refine R9 ?_ | refine S0 ?_)
  refine s_callO hO (.nil _) rfl rfl rfl (fun k' hx hr hO' => plain_spec k' _ p n cap x (hS.ext hO hx) hxl hO') ?_
  rintro v _ w ⟨l, rfl, hol, hout⟩ hO
  have hO : Own k w [_] := hO
  obtain ⟨pv, cv, hv⟩ := sl_shape hO
  rw [iv_length] at hv
  subst hv
  repeat (first | (with_reducible first | refine K0 ?_ | refine K1 ?_ | refine K2 ?_ | refine K3 ?_ | refine K4 ?_ | refine K5 ?_ | refine K6 ?_ | refine K7 ?_ | refine K8 ?_ | refine K9 ?_ | refine L0 ?_ | refine L1 ?_ | refine L2 ?_ | refine L3 ?_ | refine L4 ?_ | refine L5 ?_ | refine L6 ?_) | refine Y0 hO rfl ?_ | refine Y1 hO rfl rfl (fun w hO => ?_) | refine Y2 hO rfl ?_ | refine Y3 hO rfl rfl (fun w hO => ?_) | refine l_y rfl rfl (y_index rfl rfl (by omega) (by omega)) ?_ | refine l_y rfl rfl (y_indexA rfl rfl (by omega) (by omega)) ?_ | refine L7 ?_ | refine L8 ?_ | refine L9 ?_ | refine M0 ?_ | refine M1 ?_ | refine M2 ?_ | refine M3 ?_ | refine M4 ?_ | refine M5 ?_ | refine M6 ?_ | refine M7 ?_ | refine M8 ?_ | refine M9 ?_ | refine N0 ?_ | refine N1 ?_ | refine N2 ?_ | refine N3 ?_ | refine N4 ?_ | refine N5 ?_ | refine N6 ?_ | refine N7 ?_ | refine N8 ?_ | refine N9 ?_ | refine R0 ?_ | refine R1 ?_ | refine R2 ?_ | refine R3 ?_ | refine R4 ?_ | refine R5 ?_ | refine R6 ?_ | refine R7 ?_ | refine R8 ?_ | refine R9 ?_ | refine S0 ?_)
  refine s_callO hO (.nil _) rfl rfl rfl (fun k' hx hr hO => New_spec k' _ hO) ?_
  rintro _ _ w ⟨s, rfl, rfl⟩ hO
  have hO : Own k w [_, _] := hO
  repeat (first | (with_reducible first | refine K0 ?_ | refine K1 ?_ | refine K2 ?_ | refine K3 ?_ | refine K4 ?_ | refine K5 ?_ | refine K6 ?_ | refine K7 ?_ | refine K8 ?_ | refine K9 ?_ | refine L0 ?_ | refine L1 ?_ | refine L2 ?_ | refine L3 ?_ | refine L4 ?_ | refine L5 ?_ | refine L6 ?_) | refine Y0 hO rfl ?_ | refine Y1 hO rfl rfl (fun w hO => ?_) | refine Y2 hO rfl ?_ | refine Y3 hO rfl rfl (fun w hO => ?_) | refine l_y rfl rfl (y_index rfl rfl (by omega) (by omega)) ?_ | refine l_y rfl rfl (y_indexA rfl rfl (by omega) (by omega)) ?_ | refine L7 ?_ | refine L8 ?_ | refine L9 ?_ | refine M0 ?_ | refine M1 ?_ | refine M2 ?_ | refine M3 ?_ | refine M4 ?_ | refine M5 ?_ | refine M6 ?_ | refine M7 ?_ | refine M8 ?_ | refine M9 ?_ | refine N0 ?_ | refine N1 ?_ | refine N2 ?_ | refine N3 ?_ | refine N4 ?_ | refine N5 ?_ | refine N6 ?_ | refine N7 ?_ | refine N8 ?_ | refine N9 ?_ | refine R0 ?_ | refine R1 ?_ | refine R2 ?_ | refine R3 ?_ | refine R4 ?_ | refine R5 ?_ | refine R6 ?_ | refine R7 ?_ | refine R8 ?_ | refine R9 ?_ | refine S0 ?_)
  refine s_callO hO (.nil _) rfl rfl rfl (fun k' hx hr hO => New_spec k' _ hO) ?_
  rintro _ _ w ⟨t, rfl, rfl⟩ hO
  have hO : Own k w [_, _, _] := hO
  repeat (first | (with_reducible first | refine K0 ?_ | refine K1 ?_ | refine K2 ?_ | refine K3 ?_ | refine K4 ?_ | refine K5 ?_ | refine K6 ?_ | refine K7 ?_ | refine K8 ?_ | refine K9 ?_ | refine L0 ?_ | refine L1 ?_ | refine L2 ?_ | refine L3 ?_ | refine L4 ?_ | refine L5 ?_ | refine L6 ?_) | refine Y0 hO rfl ?_ | refine Y1 hO rfl rfl (fun w hO => ?_) | refine Y2 hO rfl ?_ | refine Y3 hO rfl rfl (fun w hO => ?_) | refine l_y rfl rfl (y_index rfl rfl (by omega) (by omega)) ?_ | refine l_y rfl rfl (y_indexA rfl rfl (by omega) (by omega)) ?_ | refine L7 ?_ | refine L8 ?_ | refine L9 ?_ | refine M0 ?_ | refine M1 ?_ | refine M2 ?_ | refine M3 ?_ | refine M4 ?_ | refine M5 ?_ | refine M6 ?_ | refine M7 ?_ | refine M8 ?_ | refine M9 ?_ | refine N0 ?_ | refine N1 ?_ | refine N2 ?_ | refine N3 ?_ | refine N4 ?_ | refine N5 ?_ | refine N6 ?_ | refine N7 ?_ | refine N8 ?_ | refine N9 ?_ | refine R0 ?_ | refine R1 ?_ | refine R2 ?_ | refine R3 ?_ | refine R4 ?_ | refine R5 ?_ | refine R6 ?_ | refine R7 ?_ | refine R8 ?_ | refine R9 ?_ | refine S0 ?_)
  have hO := hO.pulls (As := [_, _, _]) (.cons (.tl _ (.hd _ _)) (.cons (.hd _ _) (.cons (.hd _ _) (.nil _))))
  have hcn := hC.fits.1
  rw [iv_length] at hcn
  subst hcn
  refine c_rounds (X := Nat × Nat × Option Addr × Nat) (fun q => [(1, .slice pw cs.length cw), (5, .slice pv l.length cv), (6, .pointer (some ⟨s, 0, none⟩)), (7, .pointer (some ⟨t, 0, none⟩)), (8, .slice q.2.2.1 (l.drop q.2.1).length q.2.2.2), (9, .int .i64 q.1)]) (fun q w => Own k w [stm s ⟨(ends false (l.take q.2.1)).1, [], (ends false (l.take q.2.1)).2, false, false⟩, stm t ⟨[], [], false, false, false⟩, rsl (.slice pv l.length cv) l] ∧ q.1 ≤ cs.length ∧ q.2.1 ≤ l.length ∧ (∀ H, Cuts H → Sli H (.slice pv l.length cv) (iv .i32 l) → Sli H (.slice q.2.2.1 (l.drop q.2.1).length q.2.2.2) (iv .i32 (l.drop q.2.1)))) (fun q => cs.length - q.1) (0, 0, pv, cv) ⟨rfl, rfl, rfl, rfl, rfl, rfl, trivial⟩ ⟨hO, Nat.zero_le _, Nat.zero_le _, fun H _ h => h⟩ ?_
  clear hO
  rintro ⟨i, d, pr, cr⟩ w m hm ⟨hO, hi, hd, hR⟩
  dsimp only at hO hi hd hR hm ⊢
  have hdl : (l.drop d).length = l.length - d := by simp
  have htd : (l.take d).length = d := by simp; omega
  have hel := ends_len (l.take d) false
  have okσ : St.Ok ⟨(ends false (l.take d)).1, [], (ends false (l.take d)).2, false, false⟩ := ⟨⟨by dsimp only; omega, by simp⟩, by simp, by simp⟩
  have hRh := hR _ (cuts_holds w) (sl_sli hO (.tl _ (.tl _ (.hd _ _))))
  have hrc := hRh.fits.2
  have feedd : ∀ y : List Int, y.length ≤ 5000 → feedS ⟨(ends false (l.take d)).1, [], (ends false (l.take d)).2, false, false⟩ y = (0, ⟨(ends false (l.take d ++ y)).1, [], (ends false (l.take d ++ y)).2, false, false⟩) := by
    intro y hy
    unfold feedS
    dsimp only
    rw [if_neg (by simp), if_pos (by omega), ends_app]
  by_cases hlt : i < cs.length
  · obtain ⟨c, hc⟩ : ∃ c, cs[i]? = some c := ⟨cs[i], List.getElem?_eq_getElem hlt⟩
    have hcb' := hcb c (List.mem_of_getElem? hc)
    obtain ⟨b1, o1, hp1, hH1⟩ := hC.get (cuts_ro k) (iv_one _ _) (iv_get hc)
    subst hp1
    repeat (first | (with_reducible first | refine K0 ?_ | refine K1 ?_ | refine K2 ?_ | refine K3 ?_ | refine K4 ?_ | refine K5 ?_ | refine K6 ?_ | refine K7 ?_ | refine K8 ?_ | refine K9 ?_ | refine L0 ?_ | refine L1 ?_ | refine L2 ?_ | refine L3 ?_ | refine L4 ?_ | refine L5 ?_ | refine L6 ?_) | refine Y0 hO rfl ?_ | refine Y1 hO rfl rfl (fun w hO => ?_) | refine Y2 hO rfl ?_ | refine Y3 hO rfl rfl (fun w hO => ?_) | refine l_y rfl rfl (y_index rfl rfl (by omega) (by omega)) ?_ | refine l_y rfl rfl (y_indexA rfl rfl (by omega) (by omega)) ?_ | refine L7 ?_ | refine L8 ?_ | refine L9 ?_ | refine M0 ?_ | refine M1 ?_ | refine M2 ?_ | refine M3 ?_ | refine M4 ?_ | refine M5 ?_ | refine M6 ?_ | refine M7 ?_ | refine M8 ?_ | refine M9 ?_ | refine N0 ?_ | refine N1 ?_ | refine N2 ?_ | refine N3 ?_ | refine N4 ?_ | refine N5 ?_ | refine N6 ?_ | refine N7 ?_ | refine N8 ?_ | refine N9 ?_ | refine R0 ?_ | refine R1 ?_ | refine R2 ?_ | refine R3 ?_ | refine R4 ?_ | refine R5 ?_ | refine R6 ?_ | refine R7 ?_ | refine R8 ?_ | refine R9 ?_ | refine S0 ?_)
    refine l_y rfl rfl (y_load1 rfl (hH1.holds hO)) ?_
    refine l_y rfl rfl (y_remN rfl rfl hcb'.1 (by decide)) ?_
    repeat (first | (with_reducible first | refine K0 ?_ | refine K1 ?_ | refine K2 ?_ | refine K3 ?_ | refine K4 ?_ | refine K5 ?_ | refine K6 ?_ | refine K7 ?_ | refine K8 ?_ | refine K9 ?_ | refine L0 ?_ | refine L1 ?_ | refine L2 ?_ | refine L3 ?_ | refine L4 ?_ | refine L5 ?_ | refine L6 ?_) | refine Y0 hO rfl ?_ | refine Y1 hO rfl rfl (fun w hO => ?_) | refine Y2 hO rfl ?_ | refine Y3 hO rfl rfl (fun w hO => ?_) | refine l_y rfl rfl (y_index rfl rfl (by omega) (by omega)) ?_ | refine l_y rfl rfl (y_indexA rfl rfl (by omega) (by omega)) ?_ | refine L7 ?_ | refine L8 ?_ | refine L9 ?_ | refine M0 ?_ | refine M1 ?_ | refine M2 ?_ | refine M3 ?_ | refine M4 ?_ | refine M5 ?_ | refine M6 ?_ | refine M7 ?_ | refine M8 ?_ | refine M9 ?_ | refine N0 ?_ | refine N1 ?_ | refine N2 ?_ | refine N3 ?_ | refine N4 ?_ | refine N5 ?_ | refine N6 ?_ | refine N7 ?_ | refine N8 ?_ | refine N9 ?_ | refine R0 ?_ | refine R1 ?_ | refine R2 ?_ | refine R3 ?_ | refine R4 ?_ | refine R5 ?_ | refine R6 ?_ | refine R7 ?_ | refine R8 ?_ | refine R9 ?_ | refine S0 ?_)
    refine l_y rfl rfl (y_min rfl rfl) ?_
    obtain ⟨g, hg⟩ : ∃ g : Nat, min ((l.drop d).length : Int) (c % 8) = (g : Int) := ⟨(min ((l.drop d).length : Int) (c % 8)).toNat, by omega⟩
    have hgl : g ≤ (l.drop d).length := by omega
    rw [hg]
    repeat (first | (with_reducible first | refine K0 ?_ | refine K1 ?_ | refine K2 ?_ | refine K3 ?_ | refine K4 ?_ | refine K5 ?_ | refine K6 ?_ | refine K7 ?_ | refine K8 ?_ | refine K9 ?_ | refine L0 ?_ | refine L1 ?_ | refine L2 ?_ | refine L3 ?_ | refine L4 ?_ | refine L5 ?_ | refine L6 ?_) | refine Y0 hO rfl ?_ | refine Y1 hO rfl rfl (fun w hO => ?_) | refine Y2 hO rfl ?_ | refine Y3 hO rfl rfl (fun w hO => ?_) | refine l_y rfl rfl (y_index rfl rfl (by omega) (by omega)) ?_ | refine l_y rfl rfl (y_indexA rfl rfl (by omega) (by omega)) ?_ | refine L7 ?_ | refine L8 ?_ | refine L9 ?_ | refine M0 ?_ | refine M1 ?_ | refine M2 ?_ | refine M3 ?_ | refine M4 ?_ | refine M5 ?_ | refine M6 ?_ | refine M7 ?_ | refine M8 ?_ | refine M9 ?_ | refine N0 ?_ | refine N1 ?_ | refine N2 ?_ | refine N3 ?_ | refine N4 ?_ | refine N5 ?_ | refine N6 ?_ | refine N7 ?_ | refine N8 ?_ | refine N9 ?_ | refine R0 ?_ | refine R1 ?_ | refine R2 ?_ | refine R3 ?_ | refine R4 ?_ | refine R5 ?_ | refine R6 ?_ | refine R7 ?_ | refine R8 ?_ | refine R9 ?_ | refine S0 ?_)
    refine l_y rfl rfl (y_head g rfl rfl rfl (by omega)) ?_
    have hfd := feedd ((l.drop d).take g) (by simp; omega)
    refine s_callO hO (.cons (.hd _ _) (.nil _)) rfl rfl rfl (fun k' hx hr hO' => Feed_spec k' _ s _ okσ.1 _ _ _ ((l.drop d).take g) (by
      have h1 := hR _ (cuts_ro k') (sl_ro hr (by simp) hO (.tl _ (.tl _ (.hd _ _))))
      have h2 := h1.head (cuts_ro k') (iv_one _ _) g cr (by omega) (by omega)
      rw [iv_take] at h2
      exact h2) hO') ?_
    rintro _ _ w ⟨rfl, rfl⟩ hO
    rw [hfd] at hO ⊢
    dsimp only at hO ⊢
    repeat (first | (with_reducible first | refine K0 ?_ | refine K1 ?_ | refine K2 ?_ | refine K3 ?_ | refine K4 ?_ | refine K5 ?_ | refine K6 ?_ | refine K7 ?_ | refine K8 ?_ | refine K9 ?_ | refine L0 ?_ | refine L1 ?_ | refine L2 ?_ | refine L3 ?_ | refine L4 ?_ | refine L5 ?_ | refine L6 ?_) | refine Y0 hO rfl ?_ | refine Y1 hO rfl rfl (fun w hO => ?_) | refine Y2 hO rfl ?_ | refine Y3 hO rfl rfl (fun w hO => ?_) | refine l_y rfl rfl (y_index rfl rfl (by omega) (by omega)) ?_ | refine l_y rfl rfl (y_indexA rfl rfl (by omega) (by omega)) ?_ | refine L7 ?_ | refine L8 ?_ | refine L9 ?_ | refine M0 ?_ | refine M1 ?_ | refine M2 ?_ | refine M3 ?_ | refine M4 ?_ | refine M5 ?_ | refine M6 ?_ | refine M7 ?_ | refine M8 ?_ | refine M9 ?_ | refine N0 ?_ | refine N1 ?_ | refine N2 ?_ | refine N3 ?_ | refine N4 ?_ | refine N5 ?_ | refine N6 ?_ | refine N7 ?_ | refine N8 ?_ | refine N9 ?_ | refine R0 ?_ | refine R1 ?_ | refine R2 ?_ | refine R3 ?_ | refine R4 ?_ | refine R5 ?_ | refine R6 ?_ | refine R7 ?_ | refine R8 ?_ | refine R9 ?_ | refine S0 ?_)
    refine l_y rfl rfl (y_tail g rfl rfl rfl hgl hrc) ?_
    repeat (first | (with_reducible first | refine K0 ?_ | refine K1 ?_ | refine K2 ?_ | refine K3 ?_ | refine K4 ?_ | refine K5 ?_ | refine K6 ?_ | refine K7 ?_ | refine K8 ?_ | refine K9 ?_ | refine L0 ?_ | refine L1 ?_ | refine L2 ?_ | refine L3 ?_ | refine L4 ?_ | refine L5 ?_ | refine L6 ?_) | refine Y0 hO rfl ?_ | refine Y1 hO rfl rfl (fun w hO => ?_) | refine Y2 hO rfl ?_ | refine Y3 hO rfl rfl (fun w hO => ?_) | refine l_y rfl rfl (y_index rfl rfl (by omega) (by omega)) ?_ | refine l_y rfl rfl (y_indexA rfl rfl (by omega) (by omega)) ?_ | refine L7 ?_ | refine L8 ?_ | refine L9 ?_ | refine M0 ?_ | refine M1 ?_ | refine M2 ?_ | refine M3 ?_ | refine M4 ?_ | refine M5 ?_ | refine M6 ?_ | refine M7 ?_ | refine M8 ?_ | refine M9 ?_ | refine N0 ?_ | refine N1 ?_ | refine N2 ?_ | refine N3 ?_ | refine N4 ?_ | refine N5 ?_ | refine N6 ?_ | refine N7 ?_ | refine N8 ?_ | refine N9 ?_ | refine R0 ?_ | refine R1 ?_ | refine R2 ?_ | refine R3 ?_ | refine R4 ?_ | refine R5 ?_ | refine R6 ?_ | refine R7 ?_ | refine R8 ?_ | refine R9 ?_ | refine S0 ?_)
    have ht : l.take (d + g) = l.take d ++ (l.drop d).take g := List.take_add
    have hdd : (l.drop d).drop g = l.drop (d + g) := List.drop_drop
    have hdl2 : (l.drop d).length - g = (l.drop (d + g)).length := by simp; omega
    rw [← ht] at hO
    rw [hdl2]
    exact q_next (i + 1, d + g, _, _) ⟨rfl, rfl, rfl, rfl, rfl, rfl, trivial⟩ ⟨hO, by dsimp only; omega, by dsimp only; omega, fun H hH h => by
      have h1 := (hR H hH h).tail hH (iv_one _ _) g hgl
      rw [iv_drop, hdd, hdl2] at h1
      exact h1⟩ (by dsimp only; omega)
  · repeat (first | (with_reducible first | refine K0 ?_ | refine K1 ?_ | refine K2 ?_ | refine K3 ?_ | refine K4 ?_ | refine K5 ?_ | refine K6 ?_ | refine K7 ?_ | refine K8 ?_ | refine K9 ?_ | refine L0 ?_ | refine L1 ?_ | refine L2 ?_ | refine L3 ?_ | refine L4 ?_ | refine L5 ?_ | refine L6 ?_) | refine Y0 hO rfl ?_ | refine Y1 hO rfl rfl (fun w hO => ?_) | refine Y2 hO rfl ?_ | refine Y3 hO rfl rfl (fun w hO => ?_) | refine l_y rfl rfl (y_index rfl rfl (by omega) (by omega)) ?_ | refine l_y rfl rfl (y_indexA rfl rfl (by omega) (by omega)) ?_ | refine L7 ?_ | refine L8 ?_ | refine L9 ?_ | refine M0 ?_ | refine M1 ?_ | refine M2 ?_ | refine M3 ?_ | refine M4 ?_ | refine M5 ?_ | refine M6 ?_ | refine M7 ?_ | refine M8 ?_ | refine M9 ?_ | refine N0 ?_ | refine N1 ?_ | refine N2 ?_ | refine N3 ?_ | refine N4 ?_ | refine N5 ?_ | refine N6 ?_ | refine N7 ?_ | refine N8 ?_ | refine N9 ?_ | refine R0 ?_ | refine R1 ?_ | refine R2 ?_ | refine R3 ?_ | refine R4 ?_ | refine R5 ?_ | refine R6 ?_ | refine R7 ?_ | refine R8 ?_ | refine R9 ?_ | refine S0 ?_)
    have hfd := feedd (l.drop d) (by omega)
    rw [List.take_append_drop] at hfd
    refine s_callO hO (.cons (.hd _ _) (.nil _)) rfl rfl rfl (fun k' hx hr hO' => Feed_spec k' _ s _ okσ.1 _ _ _ (l.drop d) (hR _ (cuts_ro k') (sl_ro hr (by simp) hO (.tl _ (.tl _ (.hd _ _))))) hO') ?_
    rintro _ _ w ⟨rfl, rfl⟩ hO
    rw [hfd] at hO
    obtain ⟨E, hE⟩ : ∃ E, E = (ends false l).1 := ⟨_, rfl⟩
    obtain ⟨c0, hc0⟩ : ∃ c0, c0 = (ends false l).2 := ⟨_, rfl⟩
    have hEl := ends_len l false
    have hEne := ends_ne hout false
    have hE10 := ends_tens l false
    have hE13 := ends_no13 l false
    have hfl := feed_new l (by omega)
    rw [← hE] at hO hEl hEne hE10 hE13 hfl
    rw [← hc0] at hO hfl
    have hO : Own k w [stm s ⟨E, [], c0, false, false⟩, stm t ⟨[], [], false, false, false⟩, rsl (.slice pv l.length cv) l] := hO
    repeat (first | (with_reducible first | refine K0 ?_ | refine K1 ?_ | refine K2 ?_ | refine K3 ?_ | refine K4 ?_ | refine K5 ?_ | refine K6 ?_ | refine K7 ?_ | refine K8 ?_ | refine K9 ?_ | refine L0 ?_ | refine L1 ?_ | refine L2 ?_ | refine L3 ?_ | refine L4 ?_ | refine L5 ?_ | refine L6 ?_) | refine Y0 hO rfl ?_ | refine Y1 hO rfl rfl (fun w hO => ?_) | refine Y2 hO rfl ?_ | refine Y3 hO rfl rfl (fun w hO => ?_) | refine l_y rfl rfl (y_index rfl rfl (by omega) (by omega)) ?_ | refine l_y rfl rfl (y_indexA rfl rfl (by omega) (by omega)) ?_ | refine L7 ?_ | refine L8 ?_ | refine L9 ?_ | refine M0 ?_ | refine M1 ?_ | refine M2 ?_ | refine M3 ?_ | refine M4 ?_ | refine M5 ?_ | refine M6 ?_ | refine M7 ?_ | refine M8 ?_ | refine M9 ?_ | refine N0 ?_ | refine N1 ?_ | refine N2 ?_ | refine N3 ?_ | refine N4 ?_ | refine N5 ?_ | refine N6 ?_ | refine N7 ?_ | refine N8 ?_ | refine N9 ?_ | refine R0 ?_ | refine R1 ?_ | refine R2 ?_ | refine R3 ?_ | refine R4 ?_ | refine R5 ?_ | refine R6 ?_ | refine R7 ?_ | refine R8 ?_ | refine R9 ?_ | refine S0 ?_)
    refine s_callO hO (.cons (.tl _ (.hd _ _)) (.nil _)) rfl rfl rfl (fun k' hx hr hO' => Feed_spec k' _ t _ ok_new.1 _ _ _ l (sl_ro hr (by simp) hO (.tl _ (.tl _ (.hd _ _)))) hO') ?_
    rintro _ _ w ⟨rfl, rfl⟩ hO
    rw [hfl] at hO
    have hO : Own k w [stm t ⟨E, [], c0, false, false⟩, stm s ⟨E, [], c0, false, false⟩, rsl (.slice pv l.length cv) l] := hO
    repeat (first | (with_reducible first | refine K0 ?_ | refine K1 ?_ | refine K2 ?_ | refine K3 ?_ | refine K4 ?_ | refine K5 ?_ | refine K6 ?_ | refine K7 ?_ | refine K8 ?_ | refine K9 ?_ | refine L0 ?_ | refine L1 ?_ | refine L2 ?_ | refine L3 ?_ | refine L4 ?_ | refine L5 ?_ | refine L6 ?_) | refine Y0 hO rfl ?_ | refine Y1 hO rfl rfl (fun w hO => ?_) | refine Y2 hO rfl ?_ | refine Y3 hO rfl rfl (fun w hO => ?_) | refine l_y rfl rfl (y_index rfl rfl (by omega) (by omega)) ?_ | refine l_y rfl rfl (y_indexA rfl rfl (by omega) (by omega)) ?_ | refine L7 ?_ | refine L8 ?_ | refine L9 ?_ | refine M0 ?_ | refine M1 ?_ | refine M2 ?_ | refine M3 ?_ | refine M4 ?_ | refine M5 ?_ | refine M6 ?_ | refine M7 ?_ | refine M8 ?_ | refine M9 ?_ | refine N0 ?_ | refine N1 ?_ | refine N2 ?_ | refine N3 ?_ | refine N4 ?_ | refine N5 ?_ | refine N6 ?_ | refine N7 ?_ | refine N8 ?_ | refine N9 ?_ | refine R0 ?_ | refine R1 ?_ | refine R2 ?_ | refine R3 ?_ | refine R4 ?_ | refine R5 ?_ | refine R6 ?_ | refine R7 ?_ | refine R8 ?_ | refine R9 ?_ | refine S0 ?_)
    refine s_callO hO (.cons (.tl _ (.hd _ _)) (.nil _)) rfl rfl rfl (fun k' hx hr hO => End_spec k' _ s _ hO) ?_
    rintro _ _ w ⟨rfl, rfl⟩ hO
    have hO : Own k w [stm s ⟨E, [], c0, true, false⟩, stm t ⟨E, [], c0, false, false⟩, rsl (.slice pv l.length cv) l] := hO
    repeat (first | (with_reducible first | refine K0 ?_ | refine K1 ?_ | refine K2 ?_ | refine K3 ?_ | refine K4 ?_ | refine K5 ?_ | refine K6 ?_ | refine K7 ?_ | refine K8 ?_ | refine K9 ?_ | refine L0 ?_ | refine L1 ?_ | refine L2 ?_ | refine L3 ?_ | refine L4 ?_ | refine L5 ?_ | refine L6 ?_) | refine Y0 hO rfl ?_ | refine Y1 hO rfl rfl (fun w hO => ?_) | refine Y2 hO rfl ?_ | refine Y3 hO rfl rfl (fun w hO => ?_) | refine l_y rfl rfl (y_index rfl rfl (by omega) (by omega)) ?_ | refine l_y rfl rfl (y_indexA rfl rfl (by omega) (by omega)) ?_ | refine L7 ?_ | refine L8 ?_ | refine L9 ?_ | refine M0 ?_ | refine M1 ?_ | refine M2 ?_ | refine M3 ?_ | refine M4 ?_ | refine M5 ?_ | refine M6 ?_ | refine M7 ?_ | refine M8 ?_ | refine M9 ?_ | refine N0 ?_ | refine N1 ?_ | refine N2 ?_ | refine N3 ?_ | refine N4 ?_ | refine N5 ?_ | refine N6 ?_ | refine N7 ?_ | refine N8 ?_ | refine N9 ?_ | refine R0 ?_ | refine R1 ?_ | refine R2 ?_ | refine R3 ?_ | refine R4 ?_ | refine R5 ?_ | refine R6 ?_ | refine R7 ?_ | refine R8 ?_ | refine R9 ?_ | refine S0 ?_)
    refine s_callO hO (.cons (.tl _ (.hd _ _)) (.nil _)) rfl rfl rfl (fun k' hx hr hO => End_spec k' _ t _ hO) ?_
    rintro _ _ w ⟨rfl, rfl⟩ hO
    have hO : Own k w [stm t ⟨E, [], c0, true, false⟩, stm s ⟨E, [], c0, true, false⟩, rsl (.slice pv l.length cv) l] := hO
    have okE : St.Ok ⟨E, [], c0, true, false⟩ := ⟨⟨by dsimp only; omega, by simp⟩, by simp, by simp⟩
    repeat (first | (with_reducible first | refine K0 ?_ | refine K1 ?_ | refine K2 ?_ | refine K3 ?_ | refine K4 ?_ | refine K5 ?_ | refine K6 ?_ | refine K7 ?_ | refine K8 ?_ | refine K9 ?_ | refine L0 ?_ | refine L1 ?_ | refine L2 ?_ | refine L3 ?_ | refine L4 ?_ | refine L5 ?_ | refine L6 ?_) | refine Y0 hO rfl ?_ | refine Y1 hO rfl rfl (fun w hO => ?_) | refine Y2 hO rfl ?_ | refine Y3 hO rfl rfl (fun w hO => ?_) | refine l_y rfl rfl (y_index rfl rfl (by omega) (by omega)) ?_ | refine l_y rfl rfl (y_indexA rfl rfl (by omega) (by omega)) ?_ | refine L7 ?_ | refine L8 ?_ | refine L9 ?_ | refine M0 ?_ | refine M1 ?_ | refine M2 ?_ | refine M3 ?_ | refine M4 ?_ | refine M5 ?_ | refine M6 ?_ | refine M7 ?_ | refine M8 ?_ | refine M9 ?_ | refine N0 ?_ | refine N1 ?_ | refine N2 ?_ | refine N3 ?_ | refine N4 ?_ | refine N5 ?_ | refine N6 ?_ | refine N7 ?_ | refine N8 ?_ | refine N9 ?_ | refine R0 ?_ | refine R1 ?_ | refine R2 ?_ | refine R3 ?_ | refine R4 ?_ | refine R5 ?_ | refine R6 ?_ | refine R7 ?_ | refine R8 ?_ | refine R9 ?_ | refine S0 ?_)
    refine s_callO hO (.cons (.tl _ (.hd _ _)) (.nil _)) rfl rfl rfl (fun k' hx hr hO => all_spec k' _ s _ okE hEne hO) ?_
    rintro u1 _ w rfl hO
    rw [(read_all _ _).1, List.take_length] at hO
    have hO : Own k w [_, _, _, _] := hO
    obtain ⟨p1, c1, hv⟩ := sl_shape (hO.pull (.tl _ (.hd _ _)))
    rw [iv_length] at hv
    subst hv
    repeat (first | (with_reducible first | refine K0 ?_ | refine K1 ?_ | refine K2 ?_ | refine K3 ?_ | refine K4 ?_ | refine K5 ?_ | refine K6 ?_ | refine K7 ?_ | refine K8 ?_ | refine K9 ?_ | refine L0 ?_ | refine L1 ?_ | refine L2 ?_ | refine L3 ?_ | refine L4 ?_ | refine L5 ?_ | refine L6 ?_) | refine Y0 hO rfl ?_ | refine Y1 hO rfl rfl (fun w hO => ?_) | refine Y2 hO rfl ?_ | refine Y3 hO rfl rfl (fun w hO => ?_) | refine l_y rfl rfl (y_index rfl rfl (by omega) (by omega)) ?_ | refine l_y rfl rfl (y_indexA rfl rfl (by omega) (by omega)) ?_ | refine L7 ?_ | refine L8 ?_ | refine L9 ?_ | refine M0 ?_ | refine M1 ?_ | refine M2 ?_ | refine M3 ?_ | refine M4 ?_ | refine M5 ?_ | refine M6 ?_ | refine M7 ?_ | refine M8 ?_ | refine M9 ?_ | refine N0 ?_ | refine N1 ?_ | refine N2 ?_ | refine N3 ?_ | refine N4 ?_ | refine N5 ?_ | refine N6 ?_ | refine N7 ?_ | refine N8 ?_ | refine N9 ?_ | refine R0 ?_ | refine R1 ?_ | refine R2 ?_ | refine R3 ?_ | refine R4 ?_ | refine R5 ?_ | refine R6 ?_ | refine R7 ?_ | refine R8 ?_ | refine R9 ?_ | refine S0 ?_)
    refine s_callO hO (.cons (.tl _ (.tl _ (.hd _ _))) (.nil _)) rfl rfl rfl (fun k' hx hr hO => all_spec k' _ t _ okE hEne hO) ?_
    rintro u2 _ w rfl hO
    rw [(read_all _ _).1, List.take_length] at hO
    have hO : Own k w [_, _, _, _, _] := hO
    obtain ⟨p2, c2, hv⟩ := sl_shape (hO.pull (.tl _ (.hd _ _)))
    rw [iv_length] at hv
    subst hv
    have hO := hO.pulls (As := [_, _, _]) (.cons (.tl _ (.tl _ (.tl _ (.hd _ _)))) (.cons (.tl _ (.hd _ _)) (.cons (.tl _ (.tl _ (.hd _ _))) (.nil _))))
    have hO := Own.front (l := [_, _, _]) hO
    repeat (first | (with_reducible first | refine K0 ?_ | refine K1 ?_ | refine K2 ?_ | refine K3 ?_ | refine K4 ?_ | refine K5 ?_ | refine K6 ?_ | refine K7 ?_ | refine K8 ?_ | refine K9 ?_ | refine L0 ?_ | refine L1 ?_ | refine L2 ?_ | refine L3 ?_ | refine L4 ?_ | refine L5 ?_ | refine L6 ?_) | refine Y0 hO rfl ?_ | refine Y1 hO rfl rfl (fun w hO => ?_) | refine Y2 hO rfl ?_ | refine Y3 hO rfl rfl (fun w hO => ?_) | refine l_y rfl rfl (y_index rfl rfl (by omega) (by omega)) ?_ | refine l_y rfl rfl (y_indexA rfl rfl (by omega) (by omega)) ?_ | refine L7 ?_ | refine L8 ?_ | refine L9 ?_ | refine M0 ?_ | refine M1 ?_ | refine M2 ?_ | refine M3 ?_ | refine M4 ?_ | refine M5 ?_ | refine M6 ?_ | refine M7 ?_ | refine M8 ?_ | refine M9 ?_ | refine N0 ?_ | refine N1 ?_ | refine N2 ?_ | refine N3 ?_ | refine N4 ?_ | refine N5 ?_ | refine N6 ?_ | refine N7 ?_ | refine N8 ?_ | refine N9 ?_ | refine R0 ?_ | refine R1 ?_ | refine R2 ?_ | refine R3 ?_ | refine R4 ?_ | refine R5 ?_ | refine R6 ?_ | refine R7 ?_ | refine R8 ?_ | refine R9 ?_ | refine S0 ?_)
    have hll := lns_le l false
    refine c_rounds (X := Nat × Nat × Bool) (fun q => [(5, .slice pv l.length cv), (11, .slice p1 E.length c1), (12, .slice p2 E.length c2), (13, .int .i64 q.2.1), (14, .int .i64 q.1)]) (fun q w => Own k w [rsl (.slice p1 E.length c1) E, rsl (.slice p2 E.length c2) E, rsl (.slice pv l.length cv) l] ∧ q.1 ≤ l.length ∧ q.2.1 + lns q.2.2 (l.drop q.1) = lns false l ∧ (q.1 = 0 → q.2.2 = false) ∧ (∀ z, 0 < q.1 → l[q.1 - 1]? = some z → q.2.2 = (z == 13))) (fun q => l.length - q.1) (0, 0, false) ⟨rfl, rfl, rfl, rfl, rfl, trivial⟩ ⟨hO, Nat.zero_le _, by simp, fun _ => rfl, fun z h => absurd h (Nat.lt_irrefl _)⟩ ?_
    clear hO okE feedd hfd hRh hrc hR okσ hi hm hlt
    clear hdl htd hel hd
    rintro ⟨i, ln, pb⟩ w m hm ⟨hO, hi, hln, hp0, hp1⟩
    dsimp only at hO hi hln hp0 hp1 hm ⊢
    by_cases hlt : i < l.length
    · obtain ⟨z, hz⟩ : ∃ z, l[i]? = some z := ⟨l[i], List.getElem?_eq_getElem hlt⟩
      have hdrop : l.drop i = z :: l.drop (i + 1) := by
        rw [List.drop_eq_getElem_cons hlt]; congr 1; rw [List.getElem?_eq_getElem hlt] at hz; exact Option.some.inj hz
      rw [hdrop] at hln
      rw [lns_cons] at hln
      have nxt : ∀ y, 0 < i + 1 → l[i + 1 - 1]? = some y → (z == 13) = (y == 13) := by
        intro y _ hy; rw [Nat.add_sub_cancel, hz] at hy; cases hy; rfl
      obtain ⟨b, o, hp, hH⟩ := (sl_sli hO (.tl _ (.tl _ (.hd _ _)))).get (cuts_holds _) (iv_one _ _) (iv_get hz)
      have hget := fun (j : Nat) (y : Int) (hy : l[j]? = some y) => (sl_sli hO (.tl _ (.tl _ (.hd _ _)))).get (cuts_holds _) (iv_one _ _) (iv_get hy)
      subst hp
      repeat (first | (with_reducible first | refine K0 ?_ | refine K1 ?_ | refine K2 ?_ | refine K3 ?_ | refine K4 ?_ | refine K5 ?_ | refine K6 ?_ | refine K7 ?_ | refine K8 ?_ | refine K9 ?_ | refine L0 ?_ | refine L1 ?_ | refine L2 ?_ | refine L3 ?_ | refine L4 ?_ | refine L5 ?_ | refine L6 ?_) | refine Y0 hO rfl ?_ | refine Y1 hO rfl rfl (fun w hO => ?_) | refine Y2 hO rfl ?_ | refine Y3 hO rfl rfl (fun w hO => ?_) | refine l_y rfl rfl (y_index rfl rfl (by omega) (by omega)) ?_ | refine l_y rfl rfl (y_indexA rfl rfl (by omega) (by omega)) ?_ | refine L7 ?_ | refine L8 ?_ | refine L9 ?_ | refine M0 ?_ | refine M1 ?_ | refine M2 ?_ | refine M3 ?_ | refine M4 ?_ | refine M5 ?_ | refine M6 ?_ | refine M7 ?_ | refine M8 ?_ | refine M9 ?_ | refine N0 ?_ | refine N1 ?_ | refine N2 ?_ | refine N3 ?_ | refine N4 ?_ | refine N5 ?_ | refine N6 ?_ | refine N7 ?_ | refine N8 ?_ | refine N9 ?_ | refine R0 ?_ | refine R1 ?_ | refine R2 ?_ | refine R3 ?_ | refine R4 ?_ | refine R5 ?_ | refine R6 ?_ | refine R7 ?_ | refine R8 ?_ | refine R9 ?_ | refine S0 ?_)
      refine l_y rfl rfl (y_load1 rfl hH) ?_
      by_cases h13 : z = 13
      · rw [if_pos (.inl h13)] at hln
        repeat (first | (with_reducible first | refine K0 ?_ | refine K1 ?_ | refine K2 ?_ | refine K3 ?_ | refine K4 ?_ | refine K5 ?_ | refine K6 ?_ | refine K7 ?_ | refine K8 ?_ | refine K9 ?_ | refine L0 ?_ | refine L1 ?_ | refine L2 ?_ | refine L3 ?_ | refine L4 ?_ | refine L5 ?_ | refine L6 ?_) | refine Y0 hO rfl ?_ | refine Y1 hO rfl rfl (fun w hO => ?_) | refine Y2 hO rfl ?_ | refine Y3 hO rfl rfl (fun w hO => ?_) | refine l_y rfl rfl (y_index rfl rfl (by omega) (by omega)) ?_ | refine l_y rfl rfl (y_indexA rfl rfl (by omega) (by omega)) ?_ | refine L7 ?_ | refine L8 ?_ | refine L9 ?_ | refine M0 ?_ | refine M1 ?_ | refine M2 ?_ | refine M3 ?_ | refine M4 ?_ | refine M5 ?_ | refine M6 ?_ | refine M7 ?_ | refine M8 ?_ | refine M9 ?_ | refine N0 ?_ | refine N1 ?_ | refine N2 ?_ | refine N3 ?_ | refine N4 ?_ | refine N5 ?_ | refine N6 ?_ | refine N7 ?_ | refine N8 ?_ | refine N9 ?_ | refine R0 ?_ | refine R1 ?_ | refine R2 ?_ | refine R3 ?_ | refine R4 ?_ | refine R5 ?_ | refine R6 ?_ | refine R7 ?_ | refine R8 ?_ | refine R9 ?_ | refine S0 ?_)
        exact q_next (i + 1, ln + 1, z == 13) ⟨rfl, rfl, rfl, rfl, rfl, trivial⟩ ⟨hO, by dsimp only; omega, by dsimp only; omega, fun h => by dsimp only at h; omega, nxt⟩ (by dsimp only; omega)
      · repeat (first | (with_reducible first | refine K0 ?_ | refine K1 ?_ | refine K2 ?_ | refine K3 ?_ | refine K4 ?_ | refine K5 ?_ | refine K6 ?_ | refine K7 ?_ | refine K8 ?_ | refine K9 ?_ | refine L0 ?_ | refine L1 ?_ | refine L2 ?_ | refine L3 ?_ | refine L4 ?_ | refine L5 ?_ | refine L6 ?_) | refine Y0 hO rfl ?_ | refine Y1 hO rfl rfl (fun w hO => ?_) | refine Y2 hO rfl ?_ | refine Y3 hO rfl rfl (fun w hO => ?_) | refine l_y rfl rfl (y_index rfl rfl (by omega) (by omega)) ?_ | refine l_y rfl rfl (y_indexA rfl rfl (by omega) (by omega)) ?_ | refine L7 ?_ | refine L8 ?_ | refine L9 ?_ | refine M0 ?_ | refine M1 ?_ | refine M2 ?_ | refine M3 ?_ | refine M4 ?_ | refine M5 ?_ | refine M6 ?_ | refine M7 ?_ | refine M8 ?_ | refine M9 ?_ | refine N0 ?_ | refine N1 ?_ | refine N2 ?_ | refine N3 ?_ | refine N4 ?_ | refine N5 ?_ | refine N6 ?_ | refine N7 ?_ | refine N8 ?_ | refine N9 ?_ | refine R0 ?_ | refine R1 ?_ | refine R2 ?_ | refine R3 ?_ | refine R4 ?_ | refine R5 ?_ | refine R6 ?_ | refine R7 ?_ | refine R8 ?_ | refine R9 ?_ | refine S0 ?_)
        refine l_y rfl rfl (y_load1 rfl hH) ?_
        by_cases h10 : z = 10
        · by_cases hi0 : i = 0
          · have hpb := hp0 hi0
            rw [if_pos (.inr ⟨h10, hpb⟩)] at hln
            repeat (first | (with_reducible first | refine K0 ?_ | refine K1 ?_ | refine K2 ?_ | refine K3 ?_ | refine K4 ?_ | refine K5 ?_ | refine K6 ?_ | refine K7 ?_ | refine K8 ?_ | refine K9 ?_ | refine L0 ?_ | refine L1 ?_ | refine L2 ?_ | refine L3 ?_ | refine L4 ?_ | refine L5 ?_ | refine L6 ?_) | refine Y0 hO rfl ?_ | refine Y1 hO rfl rfl (fun w hO => ?_) | refine Y2 hO rfl ?_ | refine Y3 hO rfl rfl (fun w hO => ?_) | refine l_y rfl rfl (y_index rfl rfl (by omega) (by omega)) ?_ | refine l_y rfl rfl (y_indexA rfl rfl (by omega) (by omega)) ?_ | refine L7 ?_ | refine L8 ?_ | refine L9 ?_ | refine M0 ?_ | refine M1 ?_ | refine M2 ?_ | refine M3 ?_ | refine M4 ?_ | refine M5 ?_ | refine M6 ?_ | refine M7 ?_ | refine M8 ?_ | refine M9 ?_ | refine N0 ?_ | refine N1 ?_ | refine N2 ?_ | refine N3 ?_ | refine N4 ?_ | refine N5 ?_ | refine N6 ?_ | refine N7 ?_ | refine N8 ?_ | refine N9 ?_ | refine R0 ?_ | refine R1 ?_ | refine R2 ?_ | refine R3 ?_ | refine R4 ?_ | refine R5 ?_ | refine R6 ?_ | refine R7 ?_ | refine R8 ?_ | refine R9 ?_ | refine S0 ?_)
            exact q_next (i + 1, ln + 1, z == 13) ⟨rfl, rfl, rfl, rfl, rfl, trivial⟩ ⟨hO, by dsimp only; omega, by dsimp only; omega, fun h => by dsimp only at h; omega, nxt⟩ (by dsimp only; omega)
          · obtain ⟨y, hy⟩ : ∃ y, l[i - 1]? = some y := ⟨l[i - 1], List.getElem?_eq_getElem (by omega)⟩
            obtain ⟨b2, o2, hp2, hH2⟩ := hget (i - 1) y hy
            cases hp2
            have hpb := hp1 y (by omega) hy
            have e : ((i : Int) - 1).toNat = i - 1 := by omega
            repeat (first | (with_reducible first | refine K0 ?_ | refine K1 ?_ | refine K2 ?_ | refine K3 ?_ | refine K4 ?_ | refine K5 ?_ | refine K6 ?_ | refine K7 ?_ | refine K8 ?_ | refine K9 ?_ | refine L0 ?_ | refine L1 ?_ | refine L2 ?_ | refine L3 ?_ | refine L4 ?_ | refine L5 ?_ | refine L6 ?_) | refine Y0 hO rfl ?_ | refine Y1 hO rfl rfl (fun w hO => ?_) | refine Y2 hO rfl ?_ | refine Y3 hO rfl rfl (fun w hO => ?_) | refine l_y rfl rfl (y_index rfl rfl (by omega) (by omega)) ?_ | refine l_y rfl rfl (y_indexA rfl rfl (by omega) (by omega)) ?_ | refine L7 ?_ | refine L8 ?_ | refine L9 ?_ | refine M0 ?_ | refine M1 ?_ | refine M2 ?_ | refine M3 ?_ | refine M4 ?_ | refine M5 ?_ | refine M6 ?_ | refine M7 ?_ | refine M8 ?_ | refine M9 ?_ | refine N0 ?_ | refine N1 ?_ | refine N2 ?_ | refine N3 ?_ | refine N4 ?_ | refine N5 ?_ | refine N6 ?_ | refine N7 ?_ | refine N8 ?_ | refine N9 ?_ | refine R0 ?_ | refine R1 ?_ | refine R2 ?_ | refine R3 ?_ | refine R4 ?_ | refine R5 ?_ | refine R6 ?_ | refine R7 ?_ | refine R8 ?_ | refine R9 ?_ | refine S0 ?_)
            refine l_y rfl rfl (y_load1 (v := .int .i32 y) rfl (by rw [e]; exact hH2)) ?_
            by_cases hy13 : y = 13
            · rw [if_neg (by rintro (h | ⟨_, h⟩); exact h13 h; rw [hpb, hy13] at h; cases h)] at hln
              repeat (first | (with_reducible first | refine K0 ?_ | refine K1 ?_ | refine K2 ?_ | refine K3 ?_ | refine K4 ?_ | refine K5 ?_ | refine K6 ?_ | refine K7 ?_ | refine K8 ?_ | refine K9 ?_ | refine L0 ?_ | refine L1 ?_ | refine L2 ?_ | refine L3 ?_ | refine L4 ?_ | refine L5 ?_ | refine L6 ?_) | refine Y0 hO rfl ?_ | refine Y1 hO rfl rfl (fun w hO => ?_) | refine Y2 hO rfl ?_ | refine Y3 hO rfl rfl (fun w hO => ?_) | refine l_y rfl rfl (y_index rfl rfl (by omega) (by omega)) ?_ | refine l_y rfl rfl (y_indexA rfl rfl (by omega) (by omega)) ?_ | refine L7 ?_ | refine L8 ?_ | refine L9 ?_ | refine M0 ?_ | refine M1 ?_ | refine M2 ?_ | refine M3 ?_ | refine M4 ?_ | refine M5 ?_ | refine M6 ?_ | refine M7 ?_ | refine M8 ?_ | refine M9 ?_ | refine N0 ?_ | refine N1 ?_ | refine N2 ?_ | refine N3 ?_ | refine N4 ?_ | refine N5 ?_ | refine N6 ?_ | refine N7 ?_ | refine N8 ?_ | refine N9 ?_ | refine R0 ?_ | refine R1 ?_ | refine R2 ?_ | refine R3 ?_ | refine R4 ?_ | refine R5 ?_ | refine R6 ?_ | refine R7 ?_ | refine R8 ?_ | refine R9 ?_ | refine S0 ?_)
              exact q_next (i + 1, ln, z == 13) ⟨rfl, rfl, rfl, rfl, rfl, trivial⟩ ⟨hO, by dsimp only; omega, by dsimp only; omega, fun h => by dsimp only at h; omega, nxt⟩ (by dsimp only; omega)
            · rw [if_pos (.inr ⟨h10, by rw [hpb]; simpa using hy13⟩)] at hln
              repeat (first | (with_reducible first | refine K0 ?_ | refine K1 ?_ | refine K2 ?_ | refine K3 ?_ | refine K4 ?_ | refine K5 ?_ | refine K6 ?_ | refine K7 ?_ | refine K8 ?_ | refine K9 ?_ | refine L0 ?_ | refine L1 ?_ | refine L2 ?_ | refine L3 ?_ | refine L4 ?_ | refine L5 ?_ | refine L6 ?_) | refine Y0 hO rfl ?_ | refine Y1 hO rfl rfl (fun w hO => ?_) | refine Y2 hO rfl ?_ | refine Y3 hO rfl rfl (fun w hO => ?_) | refine l_y rfl rfl (y_index rfl rfl (by omega) (by omega)) ?_ | refine l_y rfl rfl (y_indexA rfl rfl (by omega) (by omega)) ?_ | refine L7 ?_ | refine L8 ?_ | refine L9 ?_ | refine M0 ?_ | refine M1 ?_ | refine M2 ?_ | refine M3 ?_ | refine M4 ?_ | refine M5 ?_ | refine M6 ?_ | refine M7 ?_ | refine M8 ?_ | refine M9 ?_ | refine N0 ?_ | refine N1 ?_ | refine N2 ?_ | refine N3 ?_ | refine N4 ?_ | refine N5 ?_ | refine N6 ?_ | refine N7 ?_ | refine N8 ?_ | refine N9 ?_ | refine R0 ?_ | refine R1 ?_ | refine R2 ?_ | refine R3 ?_ | refine R4 ?_ | refine R5 ?_ | refine R6 ?_ | refine R7 ?_ | refine R8 ?_ | refine R9 ?_ | refine S0 ?_)
              exact q_next (i + 1, ln + 1, z == 13) ⟨rfl, rfl, rfl, rfl, rfl, trivial⟩ ⟨hO, by dsimp only; omega, by dsimp only; omega, fun h => by dsimp only at h; omega, nxt⟩ (by dsimp only; omega)
        · rw [if_neg (by rintro (h | ⟨h, _⟩); exact h13 h; exact h10 h)] at hln
          repeat (first | (with_reducible first | refine K0 ?_ | refine K1 ?_ | refine K2 ?_ | refine K3 ?_ | refine K4 ?_ | refine K5 ?_ | refine K6 ?_ | refine K7 ?_ | refine K8 ?_ | refine K9 ?_ | refine L0 ?_ | refine L1 ?_ | refine L2 ?_ | refine L3 ?_ | refine L4 ?_ | refine L5 ?_ | refine L6 ?_) | refine Y0 hO rfl ?_ | refine Y1 hO rfl rfl (fun w hO => ?_) | refine Y2 hO rfl ?_ | refine Y3 hO rfl rfl (fun w hO => ?_) | refine l_y rfl rfl (y_index rfl rfl (by omega) (by omega)) ?_ | refine l_y rfl rfl (y_indexA rfl rfl (by omega) (by omega)) ?_ | refine L7 ?_ | refine L8 ?_ | refine L9 ?_ | refine M0 ?_ | refine M1 ?_ | refine M2 ?_ | refine M3 ?_ | refine M4 ?_ | refine M5 ?_ | refine M6 ?_ | refine M7 ?_ | refine M8 ?_ | refine M9 ?_ | refine N0 ?_ | refine N1 ?_ | refine N2 ?_ | refine N3 ?_ | refine N4 ?_ | refine N5 ?_ | refine N6 ?_ | refine N7 ?_ | refine N8 ?_ | refine N9 ?_ | refine R0 ?_ | refine R1 ?_ | refine R2 ?_ | refine R3 ?_ | refine R4 ?_ | refine R5 ?_ | refine R6 ?_ | refine R7 ?_ | refine R8 ?_ | refine R9 ?_ | refine S0 ?_)
          exact q_next (i + 1, ln, z == 13) ⟨rfl, rfl, rfl, rfl, rfl, trivial⟩ ⟨hO, by dsimp only; omega, by dsimp only; omega, fun h => by dsimp only at h; omega, nxt⟩ (by dsimp only; omega)
    · rw [List.drop_of_length_le (by omega)] at hln
      simp only [lns, Nat.add_zero] at hln
      subst hln
      repeat (first | (with_reducible first | refine K0 ?_ | refine K1 ?_ | refine K2 ?_ | refine K3 ?_ | refine K4 ?_ | refine K5 ?_ | refine K6 ?_ | refine K7 ?_ | refine K8 ?_ | refine K9 ?_ | refine L0 ?_ | refine L1 ?_ | refine L2 ?_ | refine L3 ?_ | refine L4 ?_ | refine L5 ?_ | refine L6 ?_) | refine Y0 hO rfl ?_ | refine Y1 hO rfl rfl (fun w hO => ?_) | refine Y2 hO rfl ?_ | refine Y3 hO rfl rfl (fun w hO => ?_) | refine l_y rfl rfl (y_index rfl rfl (by omega) (by omega)) ?_ | refine l_y rfl rfl (y_indexA rfl rfl (by omega) (by omega)) ?_ | refine L7 ?_ | refine L8 ?_ | refine L9 ?_ | refine M0 ?_ | refine M1 ?_ | refine M2 ?_ | refine M3 ?_ | refine M4 ?_ | refine M5 ?_ | refine M6 ?_ | refine M7 ?_ | refine M8 ?_ | refine M9 ?_ | refine N0 ?_ | refine N1 ?_ | refine N2 ?_ | refine N3 ?_ | refine N4 ?_ | refine N5 ?_ | refine N6 ?_ | refine N7 ?_ | refine N8 ?_ | refine N9 ?_ | refine R0 ?_ | refine R1 ?_ | refine R2 ?_ | refine R3 ?_ | refine R4 ?_ | refine R5 ?_ | refine R6 ?_ | refine R7 ?_ | refine R8 ?_ | refine R9 ?_ | refine S0 ?_)
      clear hp1
      refine c_rounds (X := Nat) (fun i => [(11, .slice p1 E.length c1), (12, .slice p2 E.length c2), (13, .int .i64 (tens (E.drop i))), (15, .int .i64 i)]) (fun i w => Own k w [rsl (.slice p1 E.length c1) E, rsl (.slice p2 E.length c2) E, rsl (.slice pv l.length cv) l] ∧ i ≤ E.length ∧ tens (E.drop i) ≤ 5000) (fun i => E.length - i) 0 ⟨rfl, rfl, by rw [List.drop_zero, hE10]; rfl, rfl, trivial⟩ ⟨hO, Nat.zero_le _, by rw [List.drop_zero, hE10]; omega⟩ ?_
      clear hO hm hi hlt hp0
      rintro i w m hm ⟨hO, hi, h5⟩
      by_cases hlt : i < E.length
      · obtain ⟨z, hz⟩ : ∃ z, E[i]? = some z := ⟨E[i], List.getElem?_eq_getElem hlt⟩
        have hdrop : E.drop i = z :: E.drop (i + 1) := by
          rw [List.drop_eq_getElem_cons hlt]; congr 1; rw [List.getElem?_eq_getElem hlt] at hz; exact Option.some.inj hz
        rw [hdrop, tens_cons] at h5 ⊢
        have hz13 := hE13 z (List.mem_of_getElem? hz)
        obtain ⟨b, o, hp, hH⟩ := (sl_sli hO (.hd _ _)).get (cuts_holds _) (iv_one _ _) (iv_get hz)
        subst hp
        repeat (first | (with_reducible first | refine K0 ?_ | refine K1 ?_ | refine K2 ?_ | refine K3 ?_ | refine K4 ?_ | refine K5 ?_ | refine K6 ?_ | refine K7 ?_ | refine K8 ?_ | refine K9 ?_ | refine L0 ?_ | refine L1 ?_ | refine L2 ?_ | refine L3 ?_ | refine L4 ?_ | refine L5 ?_ | refine L6 ?_) | refine Y0 hO rfl ?_ | refine Y1 hO rfl rfl (fun w hO => ?_) | refine Y2 hO rfl ?_ | refine Y3 hO rfl rfl (fun w hO => ?_) | refine l_y rfl rfl (y_index rfl rfl (by omega) (by omega)) ?_ | refine l_y rfl rfl (y_indexA rfl rfl (by omega) (by omega)) ?_ | refine L7 ?_ | refine L8 ?_ | refine L9 ?_ | refine M0 ?_ | refine M1 ?_ | refine M2 ?_ | refine M3 ?_ | refine M4 ?_ | refine M5 ?_ | refine M6 ?_ | refine M7 ?_ | refine M8 ?_ | refine M9 ?_ | refine N0 ?_ | refine N1 ?_ | refine N2 ?_ | refine N3 ?_ | refine N4 ?_ | refine N5 ?_ | refine N6 ?_ | refine N7 ?_ | refine N8 ?_ | refine N9 ?_ | refine R0 ?_ | refine R1 ?_ | refine R2 ?_ | refine R3 ?_ | refine R4 ?_ | refine R5 ?_ | refine R6 ?_ | refine R7 ?_ | refine R8 ?_ | refine R9 ?_ | refine S0 ?_)
        refine l_y rfl rfl (y_load1 rfl hH) ?_
        repeat (first | (with_reducible first | refine K0 ?_ | refine K1 ?_ | refine K2 ?_ | refine K3 ?_ | refine K4 ?_ | refine K5 ?_ | refine K6 ?_ | refine K7 ?_ | refine K8 ?_ | refine K9 ?_ | refine L0 ?_ | refine L1 ?_ | refine L2 ?_ | refine L3 ?_ | refine L4 ?_ | refine L5 ?_ | refine L6 ?_) | refine Y0 hO rfl ?_ | refine Y1 hO rfl rfl (fun w hO => ?_) | refine Y2 hO rfl ?_ | refine Y3 hO rfl rfl (fun w hO => ?_) | refine l_y rfl rfl (y_index rfl rfl (by omega) (by omega)) ?_ | refine l_y rfl rfl (y_indexA rfl rfl (by omega) (by omega)) ?_ | refine L7 ?_ | refine L8 ?_ | refine L9 ?_ | refine M0 ?_ | refine M1 ?_ | refine M2 ?_ | refine M3 ?_ | refine M4 ?_ | refine M5 ?_ | refine M6 ?_ | refine M7 ?_ | refine M8 ?_ | refine M9 ?_ | refine N0 ?_ | refine N1 ?_ | refine N2 ?_ | refine N3 ?_ | refine N4 ?_ | refine N5 ?_ | refine N6 ?_ | refine N7 ?_ | refine N8 ?_ | refine N9 ?_ | refine R0 ?_ | refine R1 ?_ | refine R2 ?_ | refine R3 ?_ | refine R4 ?_ | refine R5 ?_ | refine R6 ?_ | refine R7 ?_ | refine R8 ?_ | refine R9 ?_ | refine S0 ?_)
        refine l_y rfl rfl (y_load1 rfl hH) ?_
        by_cases h10 : z = 10
        · rw [if_pos h10] at h5 ⊢
          have e : (((1 + tens (E.drop (i + 1)) : Nat) : Int) - 1) = (tens (E.drop (i + 1)) : Nat) := by omega
          repeat (first | (with_reducible first | refine K0 ?_ | refine K1 ?_ | refine K2 ?_ | refine K3 ?_ | refine K4 ?_ | refine K5 ?_ | refine K6 ?_ | refine K7 ?_ | refine K8 ?_ | refine K9 ?_ | refine L0 ?_ | refine L1 ?_ | refine L2 ?_ | refine L3 ?_ | refine L4 ?_ | refine L5 ?_ | refine L6 ?_) | refine Y0 hO rfl ?_ | refine Y1 hO rfl rfl (fun w hO => ?_) | refine Y2 hO rfl ?_ | refine Y3 hO rfl rfl (fun w hO => ?_) | refine l_y rfl rfl (y_index rfl rfl (by omega) (by omega)) ?_ | refine l_y rfl rfl (y_indexA rfl rfl (by omega) (by omega)) ?_ | refine L7 ?_ | refine L8 ?_ | refine L9 ?_ | refine M0 ?_ | refine M1 ?_ | refine M2 ?_ | refine M3 ?_ | refine M4 ?_ | refine M5 ?_ | refine M6 ?_ | refine M7 ?_ | refine M8 ?_ | refine M9 ?_ | refine N0 ?_ | refine N1 ?_ | refine N2 ?_ | refine N3 ?_ | refine N4 ?_ | refine N5 ?_ | refine N6 ?_ | refine N7 ?_ | refine N8 ?_ | refine N9 ?_ | refine R0 ?_ | refine R1 ?_ | refine R2 ?_ | refine R3 ?_ | refine R4 ?_ | refine R5 ?_ | refine R6 ?_ | refine R7 ?_ | refine R8 ?_ | refine R9 ?_ | refine S0 ?_)
          rw [e]
          repeat (first | (with_reducible first | refine K0 ?_ | refine K1 ?_ | refine K2 ?_ | refine K3 ?_ | refine K4 ?_ | refine K5 ?_ | refine K6 ?_ | refine K7 ?_ | refine K8 ?_ | refine K9 ?_ | refine L0 ?_ | refine L1 ?_ | refine L2 ?_ | refine L3 ?_ | refine L4 ?_ | refine L5 ?_ | refine L6 ?_) | refine Y0 hO rfl ?_ | refine Y1 hO rfl rfl (fun w hO => ?_) | refine Y2 hO rfl ?_ | refine Y3 hO rfl rfl (fun w hO => ?_) | refine l_y rfl rfl (y_index rfl rfl (by omega) (by omega)) ?_ | refine l_y rfl rfl (y_indexA rfl rfl (by omega) (by omega)) ?_ | refine L7 ?_ | refine L8 ?_ | refine L9 ?_ | refine M0 ?_ | refine M1 ?_ | refine M2 ?_ | refine M3 ?_ | refine M4 ?_ | refine M5 ?_ | refine M6 ?_ | refine M7 ?_ | refine M8 ?_ | refine M9 ?_ | refine N0 ?_ | refine N1 ?_ | refine N2 ?_ | refine N3 ?_ | refine N4 ?_ | refine N5 ?_ | refine N6 ?_ | refine N7 ?_ | refine N8 ?_ | refine N9 ?_ | refine R0 ?_ | refine R1 ?_ | refine R2 ?_ | refine R3 ?_ | refine R4 ?_ | refine R5 ?_ | refine R6 ?_ | refine R7 ?_ | refine R8 ?_ | refine R9 ?_ | refine S0 ?_)
          exact q_next (i + 1) ⟨rfl, rfl, rfl, rfl, trivial⟩ ⟨hO, by omega, by omega⟩ (by omega)
        · rw [if_neg h10, Nat.zero_add] at h5 ⊢
          repeat (first | (with_reducible first | refine K0 ?_ | refine K1 ?_ | refine K2 ?_ | refine K3 ?_ | refine K4 ?_ | refine K5 ?_ | refine K6 ?_ | refine K7 ?_ | refine K8 ?_ | refine K9 ?_ | refine L0 ?_ | refine L1 ?_ | refine L2 ?_ | refine L3 ?_ | refine L4 ?_ | refine L5 ?_ | refine L6 ?_) | refine Y0 hO rfl ?_ | refine Y1 hO rfl rfl (fun w hO => ?_) | refine Y2 hO rfl ?_ | refine Y3 hO rfl rfl (fun w hO => ?_) | refine l_y rfl rfl (y_index rfl rfl (by omega) (by omega)) ?_ | refine l_y rfl rfl (y_indexA rfl rfl (by omega) (by omega)) ?_ | refine L7 ?_ | refine L8 ?_ | refine L9 ?_ | refine M0 ?_ | refine M1 ?_ | refine M2 ?_ | refine M3 ?_ | refine M4 ?_ | refine M5 ?_ | refine M6 ?_ | refine M7 ?_ | refine M8 ?_ | refine M9 ?_ | refine N0 ?_ | refine N1 ?_ | refine N2 ?_ | refine N3 ?_ | refine N4 ?_ | refine N5 ?_ | refine N6 ?_ | refine N7 ?_ | refine N8 ?_ | refine N9 ?_ | refine R0 ?_ | refine R1 ?_ | refine R2 ?_ | refine R3 ?_ | refine R4 ?_ | refine R5 ?_ | refine R6 ?_ | refine R7 ?_ | refine R8 ?_ | refine R9 ?_ | refine S0 ?_)
          exact q_next (i + 1) ⟨rfl, rfl, rfl, rfl, trivial⟩ ⟨hO, by omega, by omega⟩ (by omega)
      · rw [List.drop_of_length_le (by omega)]
        repeat (first | (with_reducible first | refine K0 ?_ | refine K1 ?_ | refine K2 ?_ | refine K3 ?_ | refine K4 ?_ | refine K5 ?_ | refine K6 ?_ | refine K7 ?_ | refine K8 ?_ | refine K9 ?_ | refine L0 ?_ | refine L1 ?_ | refine L2 ?_ | refine L3 ?_ | refine L4 ?_ | refine L5 ?_ | refine L6 ?_) | refine Y0 hO rfl ?_ | refine Y1 hO rfl rfl (fun w hO => ?_) | refine Y2 hO rfl ?_ | refine Y3 hO rfl rfl (fun w hO => ?_) | refine l_y rfl rfl (y_index rfl rfl (by omega) (by omega)) ?_ | refine l_y rfl rfl (y_indexA rfl rfl (by omega) (by omega)) ?_ | refine L7 ?_ | refine L8 ?_ | refine L9 ?_ | refine M0 ?_ | refine M1 ?_ | refine M2 ?_ | refine M3 ?_ | refine M4 ?_ | refine M5 ?_ | refine M6 ?_ | refine M7 ?_ | refine M8 ?_ | refine M9 ?_ | refine N0 ?_ | refine N1 ?_ | refine N2 ?_ | refine N3 ?_ | refine N4 ?_ | refine N5 ?_ | refine N6 ?_ | refine N7 ?_ | refine N8 ?_ | refine N9 ?_ | refine R0 ?_ | refine R1 ?_ | refine R2 ?_ | refine R3 ?_ | refine R4 ?_ | refine R5 ?_ | refine R6 ?_ | refine R7 ?_ | refine R8 ?_ | refine R9 ?_ | refine S0 ?_)
        refine s_callO hO (.nil _) rfl rfl rfl (fun k' hx hr hO' => runes_spec k' _ p1 p2 _ _ _ _ E E (sl_ro hr (by simp) hO (.hd _ _)) (sl_ro hr (by simp) hO (.tl _ (.hd _ _))) (by omega) hO') ?_
        rintro _ _ w ⟨rfl, rfl⟩ hO
        rw [decide_eq_true rfl, show tens [] = 0 from rfl]
        repeat (first | (with_reducible first | refine K0 ?_ | refine K1 ?_ | refine K2 ?_ | refine K3 ?_ | refine K4 ?_ | refine K5 ?_ | refine K6 ?_ | refine K7 ?_ | refine K8 ?_ | refine K9 ?_ | refine L0 ?_ | refine L1 ?_ | refine L2 ?_ | refine L3 ?_ | refine L4 ?_ | refine L5 ?_ | refine L6 ?_) | refine Y0 hO rfl ?_ | refine Y1 hO rfl rfl (fun w hO => ?_) | refine Y2 hO rfl ?_ | refine Y3 hO rfl rfl (fun w hO => ?_) | refine l_y rfl rfl (y_index rfl rfl (by omega) (by omega)) ?_ | refine l_y rfl rfl (y_indexA rfl rfl (by omega) (by omega)) ?_ | refine L7 ?_ | refine L8 ?_ | refine L9 ?_ | refine M0 ?_ | refine M1 ?_ | refine M2 ?_ | refine M3 ?_ | refine M4 ?_ | refine M5 ?_ | refine M6 ?_ | refine M7 ?_ | refine M8 ?_ | refine M9 ?_ | refine N0 ?_ | refine N1 ?_ | refine N2 ?_ | refine N3 ?_ | refine N4 ?_ | refine N5 ?_ | refine N6 ?_ | refine N7 ?_ | refine N8 ?_ | refine N9 ?_ | refine R0 ?_ | refine R1 ?_ | refine R2 ?_ | refine R3 ?_ | refine R4 ?_ | refine R5 ?_ | refine R6 ?_ | refine R7 ?_ | refine R8 ?_ | refine R9 ?_ | refine S0 ?_)
        refine s_callO hO (.nil _) rfl rfl rfl (fun k' hx hr hO' => awake_spec k' _ hO') ?_
        rintro _ _ w ⟨rfl, rfl⟩ hO
        repeat (first | (with_reducible first | refine K0 ?_ | refine K1 ?_ | refine K2 ?_ | refine K3 ?_ | refine K4 ?_ | refine K5 ?_ | refine K6 ?_ | refine K7 ?_ | refine K8 ?_ | refine K9 ?_ | refine L0 ?_ | refine L1 ?_ | refine L2 ?_ | refine L3 ?_ | refine L4 ?_ | refine L5 ?_ | refine L6 ?_) | refine Y0 hO rfl ?_ | refine Y1 hO rfl rfl (fun w hO => ?_) | refine Y2 hO rfl ?_ | refine Y3 hO rfl rfl (fun w hO => ?_) | refine l_y rfl rfl (y_index rfl rfl (by omega) (by omega)) ?_ | refine l_y rfl rfl (y_indexA rfl rfl (by omega) (by omega)) ?_ | refine L7 ?_ | refine L8 ?_ | refine L9 ?_ | refine M0 ?_ | refine M1 ?_ | refine M2 ?_ | refine M3 ?_ | refine M4 ?_ | refine M5 ?_ | refine M6 ?_ | refine M7 ?_ | refine M8 ?_ | refine M9 ?_ | refine N0 ?_ | refine N1 ?_ | refine N2 ?_ | refine N3 ?_ | refine N4 ?_ | refine N5 ?_ | refine N6 ?_ | refine N7 ?_ | refine N8 ?_ | refine N9 ?_ | refine R0 ?_ | refine R1 ?_ | refine R2 ?_ | refine R3 ?_ | refine R4 ?_ | refine R5 ?_ | refine R6 ?_ | refine R7 ?_ | refine R8 ?_ | refine R9 ?_ | refine S0 ?_)
        exact fin1 rfl rfl ⟨_, rfl, hO⟩
end Go.Proofs.Ytfpppopcdhihgaa
