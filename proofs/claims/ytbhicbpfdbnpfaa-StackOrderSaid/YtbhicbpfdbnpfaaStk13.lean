/- The walk of the law StackOrder. -/
import Derived.Test.YtbhicbpfdbnpfaaStk12
import Derived.Test.YtbhicbpfdbnpfaaOrder2
set_option linter.unusedVariables false
set_option linter.unusedSimpArgs false
set_option maxRecDepth 100000
namespace Go.Proofs.Ytbhicbpfdbnpfaa
open Go Go.Hb Go.RowKit
/-- so many elements, and no others -/
structure PAr (A : List Node_one) (n : Nat) : Prop where
  len : A.length = n + 1
  el : ∀ j : Int, elB A j = decide (1 ≤ j ∧ j ≤ n)
  attrs : AttrsOk A
theorem PAr.new : PAr [docD] 0 := ⟨rfl, fun j => by
  unfold elB hasB
  by_cases h : j = 0
  · subst h; rfl
  · rw [show decide (0 ≤ j ∧ j < (([docD] : List Node_one).length : Int)) = false from decide_eq_false (by simp; omega)]
    exact (decide_eq_false (by omega)).symm, fun i hi => by
  have : i = 0 := by simp at hi; omega
  subst this; exact Nat.zero_le _⟩
theorem PAr.step {A : List Node_one} {n : Nat} (h : PAr A n) (q : Option Addr) (d : Nat) (nm : ByteArray) : PAr (A ++ [blankN (elementN q d 0 nm [])]) (n + 1) := ⟨by simp [h.len], fun j => by
  have hl := h.len
  by_cases h1 : j = A.length
  · subst h1
    unfold elB hasB
    rw [at_new, decide_eq_true (show 0 ≤ (A.length : Int) ∧ (A.length : Int) < ((A ++ [blankN (elementN q d 0 nm [])]).length : Int) by simp; omega), decide_eq_true (show 1 ≤ (A.length : Int) ∧ (A.length : Int) ≤ ((n + 1 : Nat) : Int) by omega)]
    rfl
  · have h2 := h.el j
    by_cases h3 : 0 ≤ j ∧ j < A.length
    · have e : elB (A ++ [blankN (elementN q d 0 nm [])]) j = elB A j := by
        unfold elB hasB
        rw [at_app_l (by omega), decide_eq_true h3, decide_eq_true (show 0 ≤ j ∧ j < ((A ++ [blankN (elementN q d 0 nm [])]).length : Int) by simp; omega)]
      rw [e, h2]; congr 1; apply propext; omega
    · unfold elB hasB
      rw [decide_eq_false (show ¬ (0 ≤ j ∧ j < ((A ++ [blankN (elementN q d 0 nm [])]).length : Int)) by simp; omega)]
      exact (decide_eq_false (by omega)).symm, fun i hi => by
  by_cases h1 : i < A.length
  · rw [at_app_l h1]; exact h.attrs i h1
  · have : i = A.length := by simp at hi; omega
    subst this; rw [at_app_new]; exact Nat.zero_le _⟩
theorem findI_not {l : List Int} {x : Int} (h : x ∉ l) : findI l x = -1 := idx_none fun j hj => decide_eq_false fun e => h (e ▸ at_mem hj)
theorem rowN_nodup {n : Nat} : (rowN n).Nodup := by
  induction n with
  | zero => exact List.nodup_nil
  | succ n ih =>
    rw [rowN_succ]
    refine List.nodup_append.2 ⟨ih, by simp, fun a ha b hb => ?_⟩
    have := (rowN_mem.1 ha).2
    simp at hb; omega
theorem rowN_find {n : Nat} : findI (rowN (n + 1)) ((n : Int) + 1) = n := by
  refine findI_last rowN_nodup (by omega) (by rw [rowN_len]; omega) ?_
  rw [show ((n : Int)).toNat = n by omega, rowN_at (by omega)]
theorem rowN_top {j : Int} (h : 0 < j) : topI (rowN j.toNat) = j := by
  rw [topI_at (by rw [rowN_len]; omega), rowN_len, rowN_at (by omega)]; omega
theorem rowN_pop {j : Int} (h : 0 < j) : (rowN j.toNat).take ((rowN j.toNat).length - 1) = rowN (j - 1).toNat := by
  have e : j.toNat = (j - 1).toNat + 1 := by omega
  rw [rowN_len, e, rowN_succ, show (j - 1).toNat + 1 - 1 = (rowN (j - 1).toNat).length by rw [rowN_len]; omega, List.take_left]
theorem PAr.f0 {A : List Node_one} {n : Nat} (h : PAr A (n + 1)) : freshE A (rowN n) ((n : Int) + 1) = 0 := by
  rw [freshE, h.el, if_neg (by simp; omega), findI_not (fun hm => by have := (rowN_mem.1 hm).2; omega), if_neg (by omega)]
theorem PAr.f1 {A : List Node_one} {n : Nat} (h : PAr A (n + 1)) : freshE A (rowN (n + 1)) ((n : Int) + 1) = 1 := by
  rw [freshE, h.el, if_neg (by simp; omega), rowN_find, if_pos (by omega)]
theorem PAr.f6 {A : List Node_one} {n : Nat} (h : PAr A n) (l : List Int) : freshE A l 0 = 6 := by
  rw [freshE, h.el, if_pos (by simp)]
section
variable {k : Ctx} {w : World}
set_option maxHeartbeats 4000000 in
theorem StackOrder_spec {a0 : Int} (h00 : 0 ≤ a0) (h01 : a0 ≤ 255) (hO : Own k w []) :
    Tri Try.prog 3 #[.int .u8 a0] k w fun v m => v = .bool true := by
  refine enter (args := [.int .u8 a0]) Try.func3 rfl rfl ?_
  obtain ⟨n, hn⟩ : ∃ n : Nat, a0 % 50 = n := ⟨(a0 % 50).toNat, by omega⟩
  have hn50 : n < 50 := by omega
  refine K0 (K1 ?_)
  refine l_y rfl rfl (y_assign rfl) ?_
  refine K2 (K3 (K0 (K1 ?_)))
  refine CK [] hO rfl (fun k' hx hr hO' => New_spec (hO := hO')) ?_
  rintro _ _ w ⟨a11, rfl, rfl⟩ hO
  simp only [List.cons_append, List.nil_append] at hO
  refine l_y rfl rfl (y_assign rfl) ?_
  refine K2 (K3 (K0 (K0 (K1 ?_))))
  refine l_y rfl rfl (y_move rfl) ?_
  refine l_y rfl rfl (y_eqPnil rfl rfl rfl) ?_
  refine K2 (K3 (L9 (K5 (K3 (K0 (K1 ?_))))))
  refine l_y rfl rfl (y_move rfl) ?_
  refine CK [.o a11] hO rfl (fun k' hx hr hO' => sNew_spec (A := [docD]) (by decide) (hO := hO')) ?_
  rintro _ _ w ⟨s16, rfl, rfl⟩ hO
  simp only [List.cons_append, List.nil_append] at hO
  refine l_y rfl rfl (y_move rfl) ?_
  refine l_y rfl rfl (y_extract rfl rfl) ?_
  refine l_y rfl rfl (y_extract rfl rfl) ?_
  refine l_y rfl rfl (y_assign rfl) ?_
  refine l_y rfl rfl (y_assign rfl) ?_
  refine K2 (K3 (K0 (K0 (K1 ?_))))
  refine l_y rfl rfl (y_move rfl) ?_
  refine l_y rfl rfl (y_eqPnil rfl rfl rfl) ?_
  refine K2 (K3 (L9 (K5 (K3 (K0 (K1 ?_))))))
  refine l_y rfl rfl (y_move rfl) ?_
  refine l_y (v := .int .u8 (n : Int)) rfl rfl (by rw [← hn]; exact y_remN rfl rfl (by omega) (by decide)) ?_
  refine l_y rfl rfl (D7) ?_
  refine l_y rfl rfl (y_assign rfl) ?_
  refine K2 (K3 (K0 (K0 (K1 ?_))))
  refine l_y rfl rfl (y_assign rfl) ?_
  refine K2 (K3 (K4 ?_))
  refine c_rounds (X := Nat × List Node_one) (fun x => [(2, .bool false), (3, .pointer (some ⟨a11, 0, none⟩)), (4, .pointer (some ⟨s16, 0, none⟩)), (6, .int .i64 (n : Int)), (7, .int .i64 (x.1 : Int))]) (fun x w => Own k w [arenaL a11 x.2, stkL s16 a11 (rowN x.1)] ∧ (PAr x.2 x.1) ∧ (x.1 ≤ n)) (fun x => n - x.1) ((0, [docD])) ⟨rfl, rfl, rfl, rfl, rfl, trivial⟩ ⟨hO.only [.o a11, .o s16], PAr.new, Nat.zero_le _⟩ ?_
  rintro x w m hm ⟨hO, hp, hq⟩
  refine K0 (K0 (K1 ?_))
  refine l_y rfl rfl (y_move rfl) ?_
  refine l_y rfl rfl (y_move rfl) ?_
  refine Z0 (fun h9_2 => ?_) (fun h9_2 => ?_)
  · refine K2 (K3 (L8 (K5 (K3 (K0 (K4 (K0 (K1 ?_))))))))
    refine l_y rfl rfl (y_move rfl) ?_
    refine CK [.o a11] hO rfl (fun k' hx hr hO' => ElP_spec hp.len (by omega) (hO := hO')) ?_
    rintro _ _ w ⟨q1, d1, rfl, rfl⟩ hO
    simp only [List.cons_append, List.nil_append] at hO
    have hp2 := hp.step q1 d1 pS
    refine l_y rfl rfl (y_move rfl) ?_
    refine l_y rfl rfl (y_extract rfl rfl) ?_
    refine l_y rfl rfl (y_extract rfl rfl) ?_
    refine l_y rfl rfl (y_assign rfl) ?_
    refine l_y rfl rfl (y_assign rfl) ?_
    refine K2 (K3 (K0 (K1 ?_)))
    refine l_y rfl rfl (y_move rfl) ?_
    refine l_y rfl rfl (y_move rfl) ?_
    refine CK [.o a11, .o s16] hO rfl (fun k' hx hr hO' => sPush_spec (by simp) hp2.attrs (by rw [rowN_len]; omega) (hO := hO')) ?_
    rintro _ _ w ⟨rfl, rfl⟩ hO
    simp only [List.cons_append, List.nil_append] at hO
    rw [hp2.f0, if_pos rfl, ← rowN_succ] at hO
    rw [hp2.f0]
    refine N4 ?_
    refine l_y rfl rfl (y_move rfl) ?_
    refine l_y rfl rfl (y_move rfl) ?_
    refine l_y rfl rfl (y_move rfl) ?_
    refine CK [.o a11, .o s16] hO rfl (fun k' hx hr hO' => sPush_spec (by simp) hp2.attrs (by rw [rowN_len]; omega) (hO := hO')) ?_
    rintro _ _ w ⟨rfl, rfl⟩ hO
    simp only [List.cons_append, List.nil_append] at hO
    rw [hp2.f1, if_neg (by decide)] at hO
    rw [hp2.f1]
    refine N4 ?_
    refine l_y rfl rfl (y_pick_f rfl rfl) ?_
    refine l_y rfl rfl (y_move rfl) ?_
    refine l_y rfl rfl (y_move rfl) ?_
    refine l_y rfl rfl (y_move rfl) ?_
    refine CK [.o s16] hO rfl (fun k' hx hr hO' => sFindC_spec (by rw [rowN_len]; omega) (hO := hO')) ?_
    rintro _ _ w ⟨rfl, rfl⟩ hO
    simp only [List.cons_append, List.nil_append] at hO
    rw [rowN_find]
    refine l_y rfl rfl (y_move rfl) ?_
    refine N4 (hp := rfl) ?_
    refine l_y rfl rfl (y_pick_f rfl rfl) ?_
    refine l_y rfl rfl (y_move rfl) ?_
    refine l_y rfl rfl (y_move rfl) ?_
    refine CK [.o s16] hO rfl (fun k' hx hr hO' => sLenC_spec (hO := hO')) ?_
    rintro _ _ w ⟨rfl, rfl⟩ hO
    simp only [List.cons_append, List.nil_append] at hO
    rw [rowN_len]
    refine l_y rfl rfl (y_move rfl) ?_
    refine l_y rfl rfl (D4) ?_
    refine N4 ?_
    refine l_y rfl rfl (y_pick_f rfl rfl) ?_
    refine K2 (K3 (L9 (K5 (K8 (K3 (K1 ?_))))))
    refine l_y rfl rfl (y_move rfl) ?_
    refine l_y rfl rfl (D4) ?_
    refine l_y rfl rfl (y_assign rfl) ?_
    refine K2 ?_
    exact q_next ((x.1 + 1, _)) ⟨rfl, rfl, rfl, rfl, rfl, trivial⟩ ⟨hO.only [.o a11, .o s16], hp2, by dsimp only; omega⟩ (by dsimp only; omega)
  · refine K2 (K3 (L9 (K7 (L1 (L1 (L2 (K3 (K0 (K0 ?_)))))))))
    have hxn : x.1 = n := by omega
    have hO : Own k w [arenaL a11 x.2, stkL s16 a11 (rowN (n : Int).toNat)] := by
      have := hO.only [.o a11, .o s16]
      rw [hxn] at this; exact this
    refine K1 ?_
    refine l_y rfl rfl (y_move rfl) ?_
    refine l_y rfl rfl (y_assign rfl) ?_
    refine K2 (K3 (K4 ?_))
    refine c_rounds (X := Int) (fun j => [(2, .bool false), (4, .pointer (some ⟨s16, 0, none⟩)), (10, .int .i64 j)]) (fun j w => Own k w [arenaL a11 x.2, stkL s16 a11 (rowN j.toNat)] ∧ (0 ≤ j ∧ j ≤ n)) (fun j => j.toNat) ((n : Int)) ⟨rfl, rfl, rfl, trivial⟩ ⟨hO.only [.o a11, .o s16], ⟨by omega, by omega⟩⟩ ?_
    rintro j w m hm ⟨hO, hj⟩
    refine K0 (K0 (K1 ?_))
    refine l_y rfl rfl (y_move rfl) ?_
    refine Z0 (fun h15_1 => ?_) (fun h15_1 => ?_)
    · refine K2 (K3 (L8 (K5 (K3 (K0 (K4 (K0 (K1 ?_))))))))
      refine l_y rfl rfl (y_move rfl) ?_
      refine CK [.o s16] hO rfl (fun k' hx hr hO' => sTopC_spec (x := 0) (by rw [rowN_len]; omega) (hO := hO')) ?_
      rintro _ _ w ⟨rfl, rfl⟩ hO
      simp only [List.cons_append, List.nil_append] at hO
      rw [rowN_top (by omega)]
      refine l_y rfl rfl (y_move rfl) ?_
      refine N4 (hp := rfl) ?_
      refine l_y rfl rfl (y_move rfl) ?_
      refine l_y rfl rfl (y_move rfl) ?_
      refine CK [.o s16] hO rfl (fun k' hx hr hO' => sPop_spec (by rw [rowN_len]; omega) (fun y hy => by have := rowN_mem.1 hy; omega) (hO := hO')) ?_
      rintro _ _ w ⟨rfl, rfl⟩ hO
      simp only [List.cons_append, List.nil_append] at hO
      rw [rowN_pop (by omega)] at hO
      rw [rowN_top (by omega)]
      refine l_y rfl rfl (y_move rfl) ?_
      refine N4 (hp := rfl) ?_
      refine l_y rfl rfl (y_pick_f rfl rfl) ?_
      refine l_y rfl rfl (y_move rfl) ?_
      refine l_y rfl rfl (y_move rfl) ?_
      refine l_y rfl rfl (y_move rfl) ?_
      refine CK [.o s16] hO rfl (fun k' hx hr hO' => sFindC_spec (by rw [rowN_len]; omega) (hO := hO')) ?_
      rintro _ _ w ⟨rfl, rfl⟩ hO
      simp only [List.cons_append, List.nil_append] at hO
      rw [findI_not (fun hm => by have := rowN_mem.1 hm; omega)]
      refine N4 ?_
      refine l_y rfl rfl (y_pick_f rfl rfl) ?_
      refine K2 (K3 (L9 (K5 (K8 (K3 (K1 ?_))))))
      refine l_y rfl rfl (y_move rfl) ?_
      refine l_y rfl rfl (D4) ?_
      refine l_y rfl rfl (y_assign rfl) ?_
      refine K2 ?_
      exact q_next (j - 1) ⟨rfl, rfl, rfl, trivial⟩ ⟨hO.only [.o a11, .o s16], ⟨by omega, by omega⟩⟩ (by omega)
    · refine K2 (K3 (L9 (K7 (L1 (L1 (L2 (K3 (K0 ?_))))))))
      have hj0 : j = 0 := by omega
      subst hj0
      refine K1 ?_
      refine l_y rfl rfl (y_move rfl) ?_
      refine CK [.o s16] hO rfl (fun k' hx hr hO' => sPop_spec (by rw [rowN_len]; omega) (fun y hy => by have := rowN_mem.1 hy; omega) (hO := hO')) ?_
      rintro _ _ w ⟨rfl, rfl⟩ hO
      simp only [List.cons_append, List.nil_append] at hO
      refine N2 (hp := rfl) ?_
      refine l_y rfl rfl (y_move rfl) ?_
      refine l_y rfl rfl (y_move rfl) ?_
      refine CK [.o s16] hO rfl (fun k' hx hr hO' => sLenC_spec (hO := hO')) ?_
      rintro _ _ w ⟨rfl, rfl⟩ hO
      simp only [List.cons_append, List.nil_append] at hO
      refine N2 (hp := rfl) ?_
      refine l_y rfl rfl (y_pick_t rfl rfl) ?_
      refine l_y rfl rfl (y_move rfl) ?_
      refine l_y rfl rfl (y_move rfl) ?_
      refine CK [.o a11, .o s16] hO rfl (fun k' hx hr hO' => sPush_spec (by rw [hp.len]; omega) hp.attrs (by decide) (hO := hO')) ?_
      rintro _ _ w ⟨rfl, rfl⟩ hO
      simp only [List.cons_append, List.nil_append] at hO
      rw [hp.f6]
      refine N2 ?_
      refine l_y rfl rfl (y_pick_t rfl rfl) ?_
      refine l_y rfl rfl (y_move rfl) ?_
      refine CK [] hO rfl (fun k' hx hr hO' => awake12_spec (hO := hO')) ?_
      rintro _ _ w ⟨rfl, rfl⟩ hO
      simp only [List.cons_append, List.nil_append] at hO
      refine l_y rfl rfl (y_pick_t rfl rfl) ?_
      refine l_y rfl rfl (y_assign rfl) ?_
      refine K2 (K3 (K6 ?_))
      exact fin1 rfl rfl ⟨_, rfl, hO⟩
end
end Go.Proofs.Ytbhicbpfdbnpfaa
