/- What a number means is a code point; EntityRight's walk. -/
import Derived.Test.YtklomlknakhedaaEnt8
set_option linter.unusedVariables false
set_option linter.unusedSimpArgs false
set_option maxRecDepth 100000
namespace Go.Proofs.Ytklomlknakhedaa
open Go Go.Hb Go.RowKit
def plainN (n : Int) : Prop := n = 9 ∨ n = 10 ∨ n = 12 ∨ (32 ≤ n ∧ n < 127) ∨ (160 ≤ n ∧ n < 55296) ∨ (57344 ≤ n ∧ n < 64976) ∨ (65008 ≤ n ∧ n < 65534)
theorem numF_ok (n : Int) : 0 ≤ (numF n).1 ∧ (numF n).1 ≤ 1114111 ∧ ((numF n).1 < 55296 ∨ 57343 < (numF n).1) := by
  unfold numF
  by_cases h1 : n = 0
  · rw [if_pos h1]; show (0 : Int) ≤ 65533 ∧ (65533 : Int) ≤ 1114111 ∧ ((65533 : Int) < 55296 ∨ (57343 : Int) < 65533); omega
  rw [if_neg h1]
  by_cases h2 : n < 0 ∨ 1114111 < n
  · rw [if_pos h2]; show (0 : Int) ≤ 65533 ∧ (65533 : Int) ≤ 1114111 ∧ ((65533 : Int) < 55296 ∨ (57343 : Int) < 65533); omega
  rw [if_neg h2]
  by_cases h3 : 55296 ≤ n ∧ n ≤ 57343
  · rw [if_pos h3]; show (0 : Int) ≤ 65533 ∧ (65533 : Int) ≤ 1114111 ∧ ((65533 : Int) < 55296 ∨ (57343 : Int) < 65533); omega
  rw [if_neg h3]
  by_cases h4 : 65534 ≤ n % 65536 ∨ (64976 ≤ n ∧ n ≤ 65007)
  · rw [if_pos h4]; show 0 ≤ n ∧ n ≤ 1114111 ∧ (n < 55296 ∨ 57343 < n); omega
  rw [if_neg h4]
  by_cases h5 : (n < 32 ∧ n ≠ 9 ∧ n ≠ 10 ∧ n ≠ 12) ∨ (127 ≤ n ∧ n ≤ 159)
  · rw [if_pos h5]
    have := means_small (n := n) (by omega)
    show 0 ≤ (look' OT n).getD n ∧ (look' OT n).getD n ≤ 1114111 ∧ ((look' OT n).getD n < 55296 ∨ 57343 < (look' OT n).getD n)
    omega
  rw [if_neg h5]; show 0 ≤ n ∧ n ≤ 1114111 ∧ (n < 55296 ∨ 57343 < n); omega
theorem numF_plain {n : Int} (h : plainN n) : numF n = (n, ⟨#[]⟩) := by
  unfold plainN at h
  rw [numF, if_neg (by omega), if_neg (by omega), if_neg (by omega), if_neg (by omega), if_neg (by omega)]
theorem numF_fault {n : Int} (h : (numF n).2 = ⟨#[]⟩) : (numF n).1 = n := by
  unfold numF at h ⊢
  by_cases h1 : n = 0
  · rw [if_pos h1] at h; exact absurd h (by decide)
  rw [if_neg h1] at h ⊢
  by_cases h2 : n < 0 ∨ 1114111 < n
  · rw [if_pos h2] at h; exact absurd h (by decide)
  rw [if_neg h2] at h ⊢
  by_cases h3 : 55296 ≤ n ∧ n ≤ 57343
  · rw [if_pos h3] at h; exact absurd h (by decide)
  rw [if_neg h3] at h ⊢
  by_cases h4 : 65534 ≤ n % 65536 ∨ (64976 ≤ n ∧ n ≤ 65007)
  · rw [if_pos h4]
  rw [if_neg h4] at h ⊢
  by_cases h5 : (n < 32 ∧ n ≠ 9 ∧ n ≠ 10 ∧ n ≠ 12) ∨ (127 ≤ n ∧ n ≤ 159)
  · rw [if_pos h5] at h; exact absurd h (show ¬ (⟨#[99, 111, 110, 116, 114, 111, 108, 45, 99, 104, 97, 114, 97, 99, 116, 101, 114, 45, 114, 101, 102, 101, 114, 101, 110, 99, 101]⟩ : ByteArray) = ⟨#[]⟩ by decide)
  rw [if_neg h5]
section
variable {k : Ctx} {w : World} {n : Int}
set_option maxHeartbeats 1000000 in
theorem EntityRight_spec (hn : -9223372036854775808 ≤ n ∧ n ≤ 9223372036854775807) (hO : Own k w []) : Tri Try.prog 8 #[.int .i64 n] k w fun v m => v = .bool true ∧ m = [] := by
  refine enter (args := [.int .i64 n]) Try.func8 rfl rfl ?_
  have hok := numF_ok n
  refine K0 (K1 ?_)
  refine l_y rfl rfl (y_assign rfl) ?_
  refine K2 (K3 (K0 (K1 ?_)))
  refine l_y rfl rfl (y_move rfl) ?_
  refine CK [] hO rfl (fun k' hx hr hO' => Number_spec (n := n) (hO := hO')) ?_
  rintro _ _ w ⟨rfl, rfl⟩ hO
  simp only [List.cons_append, List.nil_append] at hO
  refine l_y rfl rfl (y_move rfl) ?_
  refine l_y rfl rfl (y_extract rfl rfl) ?_
  refine l_y rfl rfl (y_extract rfl rfl) ?_
  refine l_y rfl rfl (y_assign rfl) ?_
  refine l_y rfl rfl (y_assign rfl) ?_
  refine K2 (K3 ?_)
  refine c_cut (X := Unit) (fun _u => [(0, .int .i64 n), (2, .bool false), (3, .int .i32 (numF n).1), (4, .string (numF n).2)]) (fun _u w => Own k w [] ∧ True) ?_ ?_
  · refine K0 (K1 ?_)
    refine l_y rfl rfl (y_move rfl) ?_
    refine l_y rfl rfl (y_cmpI (c := false) rfl rfl (by simp [cmpI]; omega)) ?_
    refine l_y rfl rfl (y_move rfl) ?_
    refine l_y rfl rfl (y_move rfl) ?_
    refine l_y rfl rfl (y_cmpI (c := false) rfl rfl (by simp [cmpI]; omega)) ?_
    refine l_y rfl rfl (y_pick_f rfl rfl) ?_
    refine l_y rfl rfl (y_move rfl) ?_
    refine l_y rfl rfl (y_move rfl) ?_
    refine Z0 (fun h2_8 => ?_) (fun h2_8 => ?_)
    · refine l_y rfl rfl (y_move rfl) ?_
      refine l_y rfl rfl (y_move rfl) ?_
      refine l_y rfl rfl (y_cmpI (c := false) rfl rfl (by simp [cmpI]; omega)) ?_
      refine l_y rfl rfl (y_pick_t rfl rfl) ?_
      refine l_y rfl rfl (y_pick_f rfl rfl) ?_
      refine K2 (K3 (L9 (K5 ?_)))
      exact q_cut (()) ⟨rfl, rfl, rfl, rfl, trivial⟩ ⟨hO.only [], trivial⟩
    · refine l_y rfl rfl (y_move rfl) ?_
      repeat refine M2 ?_
      refine l_y rfl rfl (y_pick_f rfl rfl) ?_
      refine l_y rfl rfl (y_pick_f rfl rfl) ?_
      refine K2 (K3 (L9 (K5 ?_)))
      exact q_cut (()) ⟨rfl, rfl, rfl, rfl, trivial⟩ ⟨hO.only [], trivial⟩
  · rintro _u w ⟨hO, _⟩
    refine c_cut (X := Bool) (fun pl => [(0, .int .i64 n), (2, .bool false), (3, .int .i32 (numF n).1), (4, .string (numF n).2), (5, .bool pl)]) (fun pl w => Own k w [] ∧ (pl = true → plainN n)) ?_ ?_
    · refine K1 ?_
      refine l_y rfl rfl (y_move rfl) ?_
      refine Z0 (fun h4_1 => ?_) (fun h4_1 => ?_)
      · refine l_y rfl rfl (y_move rfl) ?_
        repeat refine M2 ?_
        refine l_y rfl rfl (y_pick_t rfl rfl) ?_
        refine l_y rfl rfl (y_move rfl) ?_
        repeat refine M2 ?_
        refine l_y rfl rfl (y_pick_t rfl rfl) ?_
        refine l_y rfl rfl (y_move rfl) ?_
        repeat refine M2 ?_
        refine l_y rfl rfl (y_pick_t rfl rfl) ?_
        refine l_y rfl rfl (y_move rfl) ?_
        repeat refine M2 ?_
        refine l_y rfl rfl (y_pick_t rfl rfl) ?_
        refine l_y rfl rfl (y_move rfl) ?_
        repeat refine M2 ?_
        refine l_y rfl rfl (y_pick_t rfl rfl) ?_
        refine l_y rfl rfl (y_move rfl) ?_
        repeat refine M2 ?_
        refine l_y rfl rfl (y_pick_t rfl rfl) ?_
        refine l_y rfl rfl (y_assign rfl) ?_
        refine K2 ?_
        exact q_cut (_) ⟨rfl, rfl, rfl, rfl, rfl, trivial⟩ ⟨hO.only [], by unfold plainN; first | (intro _; omega) | (intro h; cases h)⟩
      · refine l_y rfl rfl (y_move rfl) ?_
        refine l_y rfl rfl (y_move rfl) ?_
        refine Z0 (fun h4_4 => ?_) (fun h4_4 => ?_)
        · refine l_y rfl rfl (y_pick_f rfl rfl) ?_
          refine l_y rfl rfl (y_move rfl) ?_
          repeat refine M2 ?_
          refine l_y rfl rfl (y_pick_t rfl rfl) ?_
          refine l_y rfl rfl (y_move rfl) ?_
          repeat refine M2 ?_
          refine l_y rfl rfl (y_pick_t rfl rfl) ?_
          refine l_y rfl rfl (y_move rfl) ?_
          repeat refine M2 ?_
          refine l_y rfl rfl (y_pick_t rfl rfl) ?_
          refine l_y rfl rfl (y_move rfl) ?_
          repeat refine M2 ?_
          refine l_y rfl rfl (y_pick_t rfl rfl) ?_
          refine l_y rfl rfl (y_move rfl) ?_
          repeat refine M2 ?_
          refine l_y rfl rfl (y_pick_t rfl rfl) ?_
          refine l_y rfl rfl (y_assign rfl) ?_
          refine K2 ?_
          exact q_cut (_) ⟨rfl, rfl, rfl, rfl, rfl, trivial⟩ ⟨hO.only [], by unfold plainN; first | (intro _; omega) | (intro h; cases h)⟩
        · refine l_y rfl rfl (y_pick_f rfl rfl) ?_
          refine l_y rfl rfl (y_move rfl) ?_
          refine l_y rfl rfl (y_move rfl) ?_
          refine Z0 (fun h4_8 => ?_) (fun h4_8 => ?_)
          · refine l_y rfl rfl (y_pick_f rfl rfl) ?_
            refine l_y rfl rfl (y_move rfl) ?_
            repeat refine M2 ?_
            refine l_y rfl rfl (y_pick_t rfl rfl) ?_
            refine l_y rfl rfl (y_move rfl) ?_
            repeat refine M2 ?_
            refine l_y rfl rfl (y_pick_t rfl rfl) ?_
            refine l_y rfl rfl (y_move rfl) ?_
            repeat refine M2 ?_
            refine l_y rfl rfl (y_pick_t rfl rfl) ?_
            refine l_y rfl rfl (y_move rfl) ?_
            repeat refine M2 ?_
            refine l_y rfl rfl (y_pick_t rfl rfl) ?_
            refine l_y rfl rfl (y_assign rfl) ?_
            refine K2 ?_
            exact q_cut (_) ⟨rfl, rfl, rfl, rfl, rfl, trivial⟩ ⟨hO.only [], by unfold plainN; first | (intro _; omega) | (intro h; cases h)⟩
          · refine l_y rfl rfl (y_pick_f rfl rfl) ?_
            refine l_y rfl rfl (y_move rfl) ?_
            refine l_y rfl rfl (y_move rfl) ?_
            refine Z0 (fun h4_12 => ?_) (fun h4_12 => ?_)
            · refine l_y rfl rfl (y_move rfl) ?_
              refine l_y rfl rfl (y_move rfl) ?_
              refine Z0 (fun h4_15 => ?_) (fun h4_15 => ?_)
              · refine l_y rfl rfl (y_pick_t rfl rfl) ?_
                refine l_y rfl rfl (y_pick_f rfl rfl) ?_
                refine l_y rfl rfl (y_move rfl) ?_
                repeat refine M2 ?_
                refine l_y rfl rfl (y_pick_t rfl rfl) ?_
                refine l_y rfl rfl (y_move rfl) ?_
                repeat refine M2 ?_
                refine l_y rfl rfl (y_pick_t rfl rfl) ?_
                refine l_y rfl rfl (y_move rfl) ?_
                repeat refine M2 ?_
                refine l_y rfl rfl (y_pick_t rfl rfl) ?_
                refine l_y rfl rfl (y_assign rfl) ?_
                refine K2 ?_
                exact q_cut (_) ⟨rfl, rfl, rfl, rfl, rfl, trivial⟩ ⟨hO.only [], by unfold plainN; first | (intro _; omega) | (intro h; cases h)⟩
              · refine l_y rfl rfl (y_pick_t rfl rfl) ?_
                refine l_y rfl rfl (y_pick_f rfl rfl) ?_
                refine l_y rfl rfl (y_move rfl) ?_
                refine l_y rfl rfl (y_move rfl) ?_
                refine Z0 (fun h4_20 => ?_) (fun h4_20 => ?_)
                · refine l_y rfl rfl (y_move rfl) ?_
                  refine l_y rfl rfl (y_move rfl) ?_
                  refine Z0 (fun h4_23 => ?_) (fun h4_23 => ?_)
                  · refine l_y rfl rfl (y_pick_t rfl rfl) ?_
                    refine l_y rfl rfl (y_pick_f rfl rfl) ?_
                    refine l_y rfl rfl (y_move rfl) ?_
                    repeat refine M2 ?_
                    refine l_y rfl rfl (y_pick_t rfl rfl) ?_
                    refine l_y rfl rfl (y_move rfl) ?_
                    repeat refine M2 ?_
                    refine l_y rfl rfl (y_pick_t rfl rfl) ?_
                    refine l_y rfl rfl (y_assign rfl) ?_
                    refine K2 ?_
                    exact q_cut (_) ⟨rfl, rfl, rfl, rfl, rfl, trivial⟩ ⟨hO.only [], by unfold plainN; first | (intro _; omega) | (intro h; cases h)⟩
                  · refine l_y rfl rfl (y_pick_t rfl rfl) ?_
                    refine l_y rfl rfl (y_pick_f rfl rfl) ?_
                    refine l_y rfl rfl (y_move rfl) ?_
                    refine l_y rfl rfl (y_move rfl) ?_
                    refine Z0 (fun h4_28 => ?_) (fun h4_28 => ?_)
                    · refine l_y rfl rfl (y_move rfl) ?_
                      refine l_y rfl rfl (y_move rfl) ?_
                      refine Z0 (fun h4_31 => ?_) (fun h4_31 => ?_)
                      · refine l_y rfl rfl (y_pick_t rfl rfl) ?_
                        refine l_y rfl rfl (y_pick_f rfl rfl) ?_
                        refine l_y rfl rfl (y_move rfl) ?_
                        repeat refine M2 ?_
                        refine l_y rfl rfl (y_pick_t rfl rfl) ?_
                        refine l_y rfl rfl (y_assign rfl) ?_
                        refine K2 ?_
                        exact q_cut (_) ⟨rfl, rfl, rfl, rfl, rfl, trivial⟩ ⟨hO.only [], by unfold plainN; first | (intro _; omega) | (intro h; cases h)⟩
                      · refine l_y rfl rfl (y_pick_t rfl rfl) ?_
                        refine l_y rfl rfl (y_pick_f rfl rfl) ?_
                        refine l_y rfl rfl (y_move rfl) ?_
                        refine l_y rfl rfl (y_move rfl) ?_
                        refine Z0 (fun h4_36 => ?_) (fun h4_36 => ?_)
                        · refine l_y rfl rfl (y_move rfl) ?_
                          refine l_y rfl rfl (y_move rfl) ?_
                          refine Z0 (fun h4_39 => ?_) (fun h4_39 => ?_)
                          · refine l_y rfl rfl (y_pick_t rfl rfl) ?_
                            refine l_y rfl rfl (y_pick_f rfl rfl) ?_
                            refine l_y rfl rfl (y_assign rfl) ?_
                            refine K2 ?_
                            exact q_cut (_) ⟨rfl, rfl, rfl, rfl, rfl, trivial⟩ ⟨hO.only [], by unfold plainN; first | (intro _; omega) | (intro h; cases h)⟩
                          · refine l_y rfl rfl (y_pick_t rfl rfl) ?_
                            refine l_y rfl rfl (y_pick_f rfl rfl) ?_
                            refine l_y rfl rfl (y_assign rfl) ?_
                            refine K2 ?_
                            exact q_cut (_) ⟨rfl, rfl, rfl, rfl, rfl, trivial⟩ ⟨hO.only [], by unfold plainN; first | (intro _; omega) | (intro h; cases h)⟩
                        · refine l_y rfl rfl (y_move rfl) ?_
                          repeat refine M2 ?_
                          refine l_y rfl rfl (y_pick_f rfl rfl) ?_
                          refine l_y rfl rfl (y_pick_f rfl rfl) ?_
                          refine l_y rfl rfl (y_assign rfl) ?_
                          refine K2 ?_
                          exact q_cut (_) ⟨rfl, rfl, rfl, rfl, rfl, trivial⟩ ⟨hO.only [], by unfold plainN; first | (intro _; omega) | (intro h; cases h)⟩
                    · refine l_y rfl rfl (y_move rfl) ?_
                      repeat refine M2 ?_
                      refine l_y rfl rfl (y_pick_f rfl rfl) ?_
                      refine l_y rfl rfl (y_pick_f rfl rfl) ?_
                      refine l_y rfl rfl (y_move rfl) ?_
                      refine l_y rfl rfl (y_move rfl) ?_
                      refine Z0 (fun h4_36 => ?_) (fun h4_36 => ?_)
                      · refine l_y rfl rfl (y_move rfl) ?_
                        refine l_y rfl rfl (y_move rfl) ?_
                        refine Z0 (fun h4_39 => ?_) (fun h4_39 => ?_)
                        · refine l_y rfl rfl (y_pick_t rfl rfl) ?_
                          refine l_y rfl rfl (y_pick_f rfl rfl) ?_
                          refine l_y rfl rfl (y_assign rfl) ?_
                          refine K2 ?_
                          exact q_cut (_) ⟨rfl, rfl, rfl, rfl, rfl, trivial⟩ ⟨hO.only [], by unfold plainN; first | (intro _; omega) | (intro h; cases h)⟩
                        · refine l_y rfl rfl (y_pick_t rfl rfl) ?_
                          refine l_y rfl rfl (y_pick_f rfl rfl) ?_
                          refine l_y rfl rfl (y_assign rfl) ?_
                          refine K2 ?_
                          exact q_cut (_) ⟨rfl, rfl, rfl, rfl, rfl, trivial⟩ ⟨hO.only [], by unfold plainN; first | (intro _; omega) | (intro h; cases h)⟩
                      · refine l_y rfl rfl (y_move rfl) ?_
                        repeat refine M2 ?_
                        refine l_y rfl rfl (y_pick_f rfl rfl) ?_
                        refine l_y rfl rfl (y_pick_f rfl rfl) ?_
                        refine l_y rfl rfl (y_assign rfl) ?_
                        refine K2 ?_
                        exact q_cut (_) ⟨rfl, rfl, rfl, rfl, rfl, trivial⟩ ⟨hO.only [], by unfold plainN; first | (intro _; omega) | (intro h; cases h)⟩
                · refine l_y rfl rfl (y_move rfl) ?_
                  repeat refine M2 ?_
                  refine l_y rfl rfl (y_pick_f rfl rfl) ?_
                  refine l_y rfl rfl (y_pick_f rfl rfl) ?_
                  refine l_y rfl rfl (y_move rfl) ?_
                  refine l_y rfl rfl (y_move rfl) ?_
                  refine Z0 (fun h4_28 => ?_) (fun h4_28 => ?_)
                  · refine l_y rfl rfl (y_move rfl) ?_
                    refine l_y rfl rfl (y_move rfl) ?_
                    refine Z0 (fun h4_31 => ?_) (fun h4_31 => ?_)
                    · refine l_y rfl rfl (y_pick_t rfl rfl) ?_
                      refine l_y rfl rfl (y_pick_f rfl rfl) ?_
                      refine l_y rfl rfl (y_move rfl) ?_
                      repeat refine M2 ?_
                      refine l_y rfl rfl (y_pick_t rfl rfl) ?_
                      refine l_y rfl rfl (y_assign rfl) ?_
                      refine K2 ?_
                      exact q_cut (_) ⟨rfl, rfl, rfl, rfl, rfl, trivial⟩ ⟨hO.only [], by unfold plainN; first | (intro _; omega) | (intro h; cases h)⟩
                    · refine l_y rfl rfl (y_pick_t rfl rfl) ?_
                      refine l_y rfl rfl (y_pick_f rfl rfl) ?_
                      refine l_y rfl rfl (y_move rfl) ?_
                      refine l_y rfl rfl (y_move rfl) ?_
                      refine Z0 (fun h4_36 => ?_) (fun h4_36 => ?_)
                      · refine l_y rfl rfl (y_move rfl) ?_
                        refine l_y rfl rfl (y_move rfl) ?_
                        refine Z0 (fun h4_39 => ?_) (fun h4_39 => ?_)
                        · refine l_y rfl rfl (y_pick_t rfl rfl) ?_
                          refine l_y rfl rfl (y_pick_f rfl rfl) ?_
                          refine l_y rfl rfl (y_assign rfl) ?_
                          refine K2 ?_
                          exact q_cut (_) ⟨rfl, rfl, rfl, rfl, rfl, trivial⟩ ⟨hO.only [], by unfold plainN; first | (intro _; omega) | (intro h; cases h)⟩
                        · refine l_y rfl rfl (y_pick_t rfl rfl) ?_
                          refine l_y rfl rfl (y_pick_f rfl rfl) ?_
                          refine l_y rfl rfl (y_assign rfl) ?_
                          refine K2 ?_
                          exact q_cut (_) ⟨rfl, rfl, rfl, rfl, rfl, trivial⟩ ⟨hO.only [], by unfold plainN; first | (intro _; omega) | (intro h; cases h)⟩
                      · refine l_y rfl rfl (y_move rfl) ?_
                        repeat refine M2 ?_
                        refine l_y rfl rfl (y_pick_f rfl rfl) ?_
                        refine l_y rfl rfl (y_pick_f rfl rfl) ?_
                        refine l_y rfl rfl (y_assign rfl) ?_
                        refine K2 ?_
                        exact q_cut (_) ⟨rfl, rfl, rfl, rfl, rfl, trivial⟩ ⟨hO.only [], by unfold plainN; first | (intro _; omega) | (intro h; cases h)⟩
                  · refine l_y rfl rfl (y_move rfl) ?_
                    repeat refine M2 ?_
                    refine l_y rfl rfl (y_pick_f rfl rfl) ?_
                    refine l_y rfl rfl (y_pick_f rfl rfl) ?_
                    refine l_y rfl rfl (y_move rfl) ?_
                    refine l_y rfl rfl (y_move rfl) ?_
                    refine Z0 (fun h4_36 => ?_) (fun h4_36 => ?_)
                    · refine l_y rfl rfl (y_move rfl) ?_
                      refine l_y rfl rfl (y_move rfl) ?_
                      refine Z0 (fun h4_39 => ?_) (fun h4_39 => ?_)
                      · refine l_y rfl rfl (y_pick_t rfl rfl) ?_
                        refine l_y rfl rfl (y_pick_f rfl rfl) ?_
                        refine l_y rfl rfl (y_assign rfl) ?_
                        refine K2 ?_
                        exact q_cut (_) ⟨rfl, rfl, rfl, rfl, rfl, trivial⟩ ⟨hO.only [], by unfold plainN; first | (intro _; omega) | (intro h; cases h)⟩
                      · refine l_y rfl rfl (y_pick_t rfl rfl) ?_
                        refine l_y rfl rfl (y_pick_f rfl rfl) ?_
                        refine l_y rfl rfl (y_assign rfl) ?_
                        refine K2 ?_
                        exact q_cut (_) ⟨rfl, rfl, rfl, rfl, rfl, trivial⟩ ⟨hO.only [], by unfold plainN; first | (intro _; omega) | (intro h; cases h)⟩
                    · refine l_y rfl rfl (y_move rfl) ?_
                      repeat refine M2 ?_
                      refine l_y rfl rfl (y_pick_f rfl rfl) ?_
                      refine l_y rfl rfl (y_pick_f rfl rfl) ?_
                      refine l_y rfl rfl (y_assign rfl) ?_
                      refine K2 ?_
                      exact q_cut (_) ⟨rfl, rfl, rfl, rfl, rfl, trivial⟩ ⟨hO.only [], by unfold plainN; first | (intro _; omega) | (intro h; cases h)⟩
            · refine l_y rfl rfl (y_move rfl) ?_
              repeat refine M2 ?_
              refine l_y rfl rfl (y_pick_f rfl rfl) ?_
              refine l_y rfl rfl (y_pick_f rfl rfl) ?_
              refine l_y rfl rfl (y_move rfl) ?_
              refine l_y rfl rfl (y_move rfl) ?_
              refine Z0 (fun h4_20 => ?_) (fun h4_20 => ?_)
              · refine l_y rfl rfl (y_move rfl) ?_
                refine l_y rfl rfl (y_move rfl) ?_
                refine Z0 (fun h4_23 => ?_) (fun h4_23 => ?_)
                · refine l_y rfl rfl (y_pick_t rfl rfl) ?_
                  refine l_y rfl rfl (y_pick_f rfl rfl) ?_
                  refine l_y rfl rfl (y_move rfl) ?_
                  repeat refine M2 ?_
                  refine l_y rfl rfl (y_pick_t rfl rfl) ?_
                  refine l_y rfl rfl (y_move rfl) ?_
                  repeat refine M2 ?_
                  refine l_y rfl rfl (y_pick_t rfl rfl) ?_
                  refine l_y rfl rfl (y_assign rfl) ?_
                  refine K2 ?_
                  exact q_cut (_) ⟨rfl, rfl, rfl, rfl, rfl, trivial⟩ ⟨hO.only [], by unfold plainN; first | (intro _; omega) | (intro h; cases h)⟩
                · refine l_y rfl rfl (y_pick_t rfl rfl) ?_
                  refine l_y rfl rfl (y_pick_f rfl rfl) ?_
                  refine l_y rfl rfl (y_move rfl) ?_
                  refine l_y rfl rfl (y_move rfl) ?_
                  refine Z0 (fun h4_28 => ?_) (fun h4_28 => ?_)
                  · refine l_y rfl rfl (y_move rfl) ?_
                    refine l_y rfl rfl (y_move rfl) ?_
                    refine Z0 (fun h4_31 => ?_) (fun h4_31 => ?_)
                    · refine l_y rfl rfl (y_pick_t rfl rfl) ?_
                      refine l_y rfl rfl (y_pick_f rfl rfl) ?_
                      refine l_y rfl rfl (y_move rfl) ?_
                      repeat refine M2 ?_
                      refine l_y rfl rfl (y_pick_t rfl rfl) ?_
                      refine l_y rfl rfl (y_assign rfl) ?_
                      refine K2 ?_
                      exact q_cut (_) ⟨rfl, rfl, rfl, rfl, rfl, trivial⟩ ⟨hO.only [], by unfold plainN; first | (intro _; omega) | (intro h; cases h)⟩
                    · refine l_y rfl rfl (y_pick_t rfl rfl) ?_
                      refine l_y rfl rfl (y_pick_f rfl rfl) ?_
                      refine l_y rfl rfl (y_move rfl) ?_
                      refine l_y rfl rfl (y_move rfl) ?_
                      refine Z0 (fun h4_36 => ?_) (fun h4_36 => ?_)
                      · refine l_y rfl rfl (y_move rfl) ?_
                        refine l_y rfl rfl (y_move rfl) ?_
                        refine Z0 (fun h4_39 => ?_) (fun h4_39 => ?_)
                        · refine l_y rfl rfl (y_pick_t rfl rfl) ?_
                          refine l_y rfl rfl (y_pick_f rfl rfl) ?_
                          refine l_y rfl rfl (y_assign rfl) ?_
                          refine K2 ?_
                          exact q_cut (_) ⟨rfl, rfl, rfl, rfl, rfl, trivial⟩ ⟨hO.only [], by unfold plainN; first | (intro _; omega) | (intro h; cases h)⟩
                        · refine l_y rfl rfl (y_pick_t rfl rfl) ?_
                          refine l_y rfl rfl (y_pick_f rfl rfl) ?_
                          refine l_y rfl rfl (y_assign rfl) ?_
                          refine K2 ?_
                          exact q_cut (_) ⟨rfl, rfl, rfl, rfl, rfl, trivial⟩ ⟨hO.only [], by unfold plainN; first | (intro _; omega) | (intro h; cases h)⟩
                      · refine l_y rfl rfl (y_move rfl) ?_
                        repeat refine M2 ?_
                        refine l_y rfl rfl (y_pick_f rfl rfl) ?_
                        refine l_y rfl rfl (y_pick_f rfl rfl) ?_
                        refine l_y rfl rfl (y_assign rfl) ?_
                        refine K2 ?_
                        exact q_cut (_) ⟨rfl, rfl, rfl, rfl, rfl, trivial⟩ ⟨hO.only [], by unfold plainN; first | (intro _; omega) | (intro h; cases h)⟩
                  · refine l_y rfl rfl (y_move rfl) ?_
                    repeat refine M2 ?_
                    refine l_y rfl rfl (y_pick_f rfl rfl) ?_
                    refine l_y rfl rfl (y_pick_f rfl rfl) ?_
                    refine l_y rfl rfl (y_move rfl) ?_
                    refine l_y rfl rfl (y_move rfl) ?_
                    refine Z0 (fun h4_36 => ?_) (fun h4_36 => ?_)
                    · refine l_y rfl rfl (y_move rfl) ?_
                      refine l_y rfl rfl (y_move rfl) ?_
                      refine Z0 (fun h4_39 => ?_) (fun h4_39 => ?_)
                      · refine l_y rfl rfl (y_pick_t rfl rfl) ?_
                        refine l_y rfl rfl (y_pick_f rfl rfl) ?_
                        refine l_y rfl rfl (y_assign rfl) ?_
                        refine K2 ?_
                        exact q_cut (_) ⟨rfl, rfl, rfl, rfl, rfl, trivial⟩ ⟨hO.only [], by unfold plainN; first | (intro _; omega) | (intro h; cases h)⟩
                      · refine l_y rfl rfl (y_pick_t rfl rfl) ?_
                        refine l_y rfl rfl (y_pick_f rfl rfl) ?_
                        refine l_y rfl rfl (y_assign rfl) ?_
                        refine K2 ?_
                        exact q_cut (_) ⟨rfl, rfl, rfl, rfl, rfl, trivial⟩ ⟨hO.only [], by unfold plainN; first | (intro _; omega) | (intro h; cases h)⟩
                    · refine l_y rfl rfl (y_move rfl) ?_
                      repeat refine M2 ?_
                      refine l_y rfl rfl (y_pick_f rfl rfl) ?_
                      refine l_y rfl rfl (y_pick_f rfl rfl) ?_
                      refine l_y rfl rfl (y_assign rfl) ?_
                      refine K2 ?_
                      exact q_cut (_) ⟨rfl, rfl, rfl, rfl, rfl, trivial⟩ ⟨hO.only [], by unfold plainN; first | (intro _; omega) | (intro h; cases h)⟩
              · refine l_y rfl rfl (y_move rfl) ?_
                repeat refine M2 ?_
                refine l_y rfl rfl (y_pick_f rfl rfl) ?_
                refine l_y rfl rfl (y_pick_f rfl rfl) ?_
                refine l_y rfl rfl (y_move rfl) ?_
                refine l_y rfl rfl (y_move rfl) ?_
                refine Z0 (fun h4_28 => ?_) (fun h4_28 => ?_)
                · refine l_y rfl rfl (y_move rfl) ?_
                  refine l_y rfl rfl (y_move rfl) ?_
                  refine Z0 (fun h4_31 => ?_) (fun h4_31 => ?_)
                  · refine l_y rfl rfl (y_pick_t rfl rfl) ?_
                    refine l_y rfl rfl (y_pick_f rfl rfl) ?_
                    refine l_y rfl rfl (y_move rfl) ?_
                    repeat refine M2 ?_
                    refine l_y rfl rfl (y_pick_t rfl rfl) ?_
                    refine l_y rfl rfl (y_assign rfl) ?_
                    refine K2 ?_
                    exact q_cut (_) ⟨rfl, rfl, rfl, rfl, rfl, trivial⟩ ⟨hO.only [], by unfold plainN; first | (intro _; omega) | (intro h; cases h)⟩
                  · refine l_y rfl rfl (y_pick_t rfl rfl) ?_
                    refine l_y rfl rfl (y_pick_f rfl rfl) ?_
                    refine l_y rfl rfl (y_move rfl) ?_
                    refine l_y rfl rfl (y_move rfl) ?_
                    refine Z0 (fun h4_36 => ?_) (fun h4_36 => ?_)
                    · refine l_y rfl rfl (y_move rfl) ?_
                      refine l_y rfl rfl (y_move rfl) ?_
                      refine Z0 (fun h4_39 => ?_) (fun h4_39 => ?_)
                      · refine l_y rfl rfl (y_pick_t rfl rfl) ?_
                        refine l_y rfl rfl (y_pick_f rfl rfl) ?_
                        refine l_y rfl rfl (y_assign rfl) ?_
                        refine K2 ?_
                        exact q_cut (_) ⟨rfl, rfl, rfl, rfl, rfl, trivial⟩ ⟨hO.only [], by unfold plainN; first | (intro _; omega) | (intro h; cases h)⟩
                      · refine l_y rfl rfl (y_pick_t rfl rfl) ?_
                        refine l_y rfl rfl (y_pick_f rfl rfl) ?_
                        refine l_y rfl rfl (y_assign rfl) ?_
                        refine K2 ?_
                        exact q_cut (_) ⟨rfl, rfl, rfl, rfl, rfl, trivial⟩ ⟨hO.only [], by unfold plainN; first | (intro _; omega) | (intro h; cases h)⟩
                    · refine l_y rfl rfl (y_move rfl) ?_
                      repeat refine M2 ?_
                      refine l_y rfl rfl (y_pick_f rfl rfl) ?_
                      refine l_y rfl rfl (y_pick_f rfl rfl) ?_
                      refine l_y rfl rfl (y_assign rfl) ?_
                      refine K2 ?_
                      exact q_cut (_) ⟨rfl, rfl, rfl, rfl, rfl, trivial⟩ ⟨hO.only [], by unfold plainN; first | (intro _; omega) | (intro h; cases h)⟩
                · refine l_y rfl rfl (y_move rfl) ?_
                  repeat refine M2 ?_
                  refine l_y rfl rfl (y_pick_f rfl rfl) ?_
                  refine l_y rfl rfl (y_pick_f rfl rfl) ?_
                  refine l_y rfl rfl (y_move rfl) ?_
                  refine l_y rfl rfl (y_move rfl) ?_
                  refine Z0 (fun h4_36 => ?_) (fun h4_36 => ?_)
                  · refine l_y rfl rfl (y_move rfl) ?_
                    refine l_y rfl rfl (y_move rfl) ?_
                    refine Z0 (fun h4_39 => ?_) (fun h4_39 => ?_)
                    · refine l_y rfl rfl (y_pick_t rfl rfl) ?_
                      refine l_y rfl rfl (y_pick_f rfl rfl) ?_
                      refine l_y rfl rfl (y_assign rfl) ?_
                      refine K2 ?_
                      exact q_cut (_) ⟨rfl, rfl, rfl, rfl, rfl, trivial⟩ ⟨hO.only [], by unfold plainN; first | (intro _; omega) | (intro h; cases h)⟩
                    · refine l_y rfl rfl (y_pick_t rfl rfl) ?_
                      refine l_y rfl rfl (y_pick_f rfl rfl) ?_
                      refine l_y rfl rfl (y_assign rfl) ?_
                      refine K2 ?_
                      exact q_cut (_) ⟨rfl, rfl, rfl, rfl, rfl, trivial⟩ ⟨hO.only [], by unfold plainN; first | (intro _; omega) | (intro h; cases h)⟩
                  · refine l_y rfl rfl (y_move rfl) ?_
                    repeat refine M2 ?_
                    refine l_y rfl rfl (y_pick_f rfl rfl) ?_
                    refine l_y rfl rfl (y_pick_f rfl rfl) ?_
                    refine l_y rfl rfl (y_assign rfl) ?_
                    refine K2 ?_
                    exact q_cut (_) ⟨rfl, rfl, rfl, rfl, rfl, trivial⟩ ⟨hO.only [], by unfold plainN; first | (intro _; omega) | (intro h; cases h)⟩
    · rintro pl w ⟨hO, hpl⟩
      refine K0 (K1 ?_)
      refine l_y rfl rfl (y_move rfl) ?_
      refine l_y rfl rfl (y_not rfl rfl) ?_
      refine l_y rfl rfl (y_move rfl) ?_
      refine l_split 69 rfl (fun hg69 => ?_) (fun hg69 => ?_)
      · simp only [Bool.not_eq_true', Bool.not_eq_false'] at hg69
        repeat refine M2 ?_
        refine l_y rfl rfl (y_pick_t rfl rfl) ?_
        refine l_y rfl rfl (y_move rfl) ?_
        refine l_y rfl rfl (y_move rfl) ?_
        refine Z3 (fun h5_14 => ?_) (fun h5_14 => ?_)
        · refine l_y rfl rfl (y_move rfl) ?_
          repeat refine M2 ?_
          refine l_y rfl rfl (y_pick_t rfl rfl) ?_
          refine l_y rfl rfl (y_pick_t rfl rfl) ?_
          refine l_y rfl rfl (y_move rfl) ?_
          refine CK [] hO rfl (fun k' hx hr hO' => awake_spec (hO := hO')) ?_
          rintro _ _ w ⟨rfl, rfl⟩ hO
          simp only [List.cons_append, List.nil_append] at hO
          refine l_y rfl rfl (y_pick_t rfl rfl) ?_
          refine l_y rfl rfl (y_assign rfl) ?_
          refine K2 (K3 (K6 ?_))
          first | exact fin1 rfl rfl ⟨_, ⟨rfl, rfl⟩, hO.none⟩ | exact absurd (numF_fault h5_14) h5_19 | exact absurd (numF_fault h5_4) h5_9 | exact absurd (by rw [numF_plain (hpl hg69)]) h5_4
        · refine l_y rfl rfl (y_move rfl) ?_
          refine l_y rfl rfl (y_move rfl) ?_
          refine l_y rfl rfl (D7) ?_
          refine l_y rfl rfl (y_move rfl) ?_
          refine Z0 (fun h5_19 => ?_) (fun h5_19 => ?_)
          · refine l_y rfl rfl (y_pick_f rfl rfl) ?_
            refine l_y rfl rfl (y_pick_t rfl rfl) ?_
            refine l_y rfl rfl (y_move rfl) ?_
            refine CK [] hO rfl (fun k' hx hr hO' => awake_spec (hO := hO')) ?_
            rintro _ _ w ⟨rfl, rfl⟩ hO
            simp only [List.cons_append, List.nil_append] at hO
            refine l_y rfl rfl (y_pick_t rfl rfl) ?_
            refine l_y rfl rfl (y_assign rfl) ?_
            refine K2 (K3 (K6 ?_))
            first | exact fin1 rfl rfl ⟨_, ⟨rfl, rfl⟩, hO.none⟩ | exact absurd (numF_fault h5_14) h5_19 | exact absurd (numF_fault h5_4) h5_9 | exact absurd (by rw [numF_plain (hpl hg69)]) h5_4
          · refine l_y rfl rfl (y_pick_f rfl rfl) ?_
            refine l_y rfl rfl (y_pick_t rfl rfl) ?_
            refine l_y rfl rfl (y_move rfl) ?_
            repeat refine M2 ?_
            refine l_y rfl rfl (y_pick_f rfl rfl) ?_
            refine l_y rfl rfl (y_assign rfl) ?_
            refine K2 (K3 (K6 ?_))
            first | exact fin1 rfl rfl ⟨_, ⟨rfl, rfl⟩, hO.none⟩ | exact absurd (numF_fault h5_14) h5_19 | exact absurd (numF_fault h5_4) h5_9 | exact absurd (by rw [numF_plain (hpl hg69)]) h5_4
      · simp only [Bool.not_eq_true', Bool.not_eq_false'] at hg69
        refine l_y rfl rfl (y_move rfl) ?_
        refine Z2 (fun h5_4 => ?_) (fun h5_4 => ?_)
        · refine l_y rfl rfl (y_move rfl) ?_
          refine l_y rfl rfl (y_move rfl) ?_
          refine l_y rfl rfl (D7) ?_
          refine l_y rfl rfl (y_move rfl) ?_
          refine Z0 (fun h5_9 => ?_) (fun h5_9 => ?_)
          · refine l_y rfl rfl (y_pick_t rfl rfl) ?_
            refine l_y rfl rfl (y_pick_f rfl rfl) ?_
            refine l_y rfl rfl (y_move rfl) ?_
            refine l_y rfl rfl (y_move rfl) ?_
            refine Z3 (fun h5_14 => ?_) (fun h5_14 => ?_)
            · refine l_y rfl rfl (y_move rfl) ?_
              repeat refine M2 ?_
              refine l_y rfl rfl (y_pick_t rfl rfl) ?_
              refine l_y rfl rfl (y_pick_t rfl rfl) ?_
              refine l_y rfl rfl (y_move rfl) ?_
              refine CK [] hO rfl (fun k' hx hr hO' => awake_spec (hO := hO')) ?_
              rintro _ _ w ⟨rfl, rfl⟩ hO
              simp only [List.cons_append, List.nil_append] at hO
              refine l_y rfl rfl (y_pick_t rfl rfl) ?_
              refine l_y rfl rfl (y_assign rfl) ?_
              refine K2 (K3 (K6 ?_))
              first | exact fin1 rfl rfl ⟨_, ⟨rfl, rfl⟩, hO.none⟩ | exact absurd (numF_fault h5_14) h5_19 | exact absurd (numF_fault h5_4) h5_9 | exact absurd (by rw [numF_plain (hpl hg69)]) h5_4
            · refine l_y rfl rfl (y_move rfl) ?_
              refine l_y rfl rfl (y_move rfl) ?_
              refine l_y rfl rfl (D7) ?_
              refine l_y rfl rfl (y_move rfl) ?_
              refine Z0 (fun h5_19 => ?_) (fun h5_19 => ?_)
              · refine l_y rfl rfl (y_pick_f rfl rfl) ?_
                refine l_y rfl rfl (y_pick_t rfl rfl) ?_
                refine l_y rfl rfl (y_move rfl) ?_
                refine CK [] hO rfl (fun k' hx hr hO' => awake_spec (hO := hO')) ?_
                rintro _ _ w ⟨rfl, rfl⟩ hO
                simp only [List.cons_append, List.nil_append] at hO
                refine l_y rfl rfl (y_pick_t rfl rfl) ?_
                refine l_y rfl rfl (y_assign rfl) ?_
                refine K2 (K3 (K6 ?_))
                first | exact fin1 rfl rfl ⟨_, ⟨rfl, rfl⟩, hO.none⟩ | exact absurd (numF_fault h5_14) h5_19 | exact absurd (numF_fault h5_4) h5_9 | exact absurd (by rw [numF_plain (hpl hg69)]) h5_4
              · refine l_y rfl rfl (y_pick_f rfl rfl) ?_
                refine l_y rfl rfl (y_pick_t rfl rfl) ?_
                refine l_y rfl rfl (y_move rfl) ?_
                repeat refine M2 ?_
                refine l_y rfl rfl (y_pick_f rfl rfl) ?_
                refine l_y rfl rfl (y_assign rfl) ?_
                refine K2 (K3 (K6 ?_))
                first | exact fin1 rfl rfl ⟨_, ⟨rfl, rfl⟩, hO.none⟩ | exact absurd (numF_fault h5_14) h5_19 | exact absurd (numF_fault h5_4) h5_9 | exact absurd (by rw [numF_plain (hpl hg69)]) h5_4
          · refine l_y rfl rfl (y_pick_t rfl rfl) ?_
            refine l_y rfl rfl (y_pick_f rfl rfl) ?_
            refine l_y rfl rfl (y_move rfl) ?_
            repeat refine M2 ?_
            refine l_y rfl rfl (y_pick_f rfl rfl) ?_
            refine l_y rfl rfl (y_move rfl) ?_
            repeat refine M2 ?_
            refine l_y rfl rfl (y_pick_f rfl rfl) ?_
            refine l_y rfl rfl (y_assign rfl) ?_
            refine K2 (K3 (K6 ?_))
            first | exact fin1 rfl rfl ⟨_, ⟨rfl, rfl⟩, hO.none⟩ | exact absurd (numF_fault h5_14) h5_19 | exact absurd (numF_fault h5_4) h5_9 | exact absurd (by rw [numF_plain (hpl hg69)]) h5_4
        · refine l_y rfl rfl (y_move rfl) ?_
          repeat refine M2 ?_
          refine l_y rfl rfl (y_pick_f rfl rfl) ?_
          refine l_y rfl rfl (y_pick_f rfl rfl) ?_
          refine l_y rfl rfl (y_move rfl) ?_
          repeat refine M2 ?_
          refine l_y rfl rfl (y_pick_f rfl rfl) ?_
          refine l_y rfl rfl (y_move rfl) ?_
          repeat refine M2 ?_
          refine l_y rfl rfl (y_pick_f rfl rfl) ?_
          refine l_y rfl rfl (y_assign rfl) ?_
          refine K2 (K3 (K6 ?_))
          first | exact fin1 rfl rfl ⟨_, ⟨rfl, rfl⟩, hO.none⟩ | exact absurd (numF_fault h5_14) h5_19 | exact absurd (numF_fault h5_4) h5_9 | exact absurd (by rw [numF_plain (hpl hg69)]) h5_4
end
end Go.Proofs.Ytklomlknakhedaa
