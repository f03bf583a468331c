/- What Longest tells is the longest; EntityPrefixes' walk. -/
import Derived.Test.YtklomlknakhedaaEnt6
set_option linter.unusedVariables false
set_option linter.unusedSimpArgs false
set_option maxRecDepth 100000
namespace Go.Proofs.Ytklomlknakhedaa
open Go Go.Hb Go.RowKit
theorem preB_iff {a s : ByteArray} : preB a s = true ↔ tl s <+: tl a := by
  rw [preB, Bool.and_eq_true, decide_eq_true_eq, decide_eq_true_eq, tl_eq, tl_ext, List.drop_zero, List.prefix_iff_eq_take, tl_len]
  constructor
  · rintro ⟨_, h⟩; exact h.symm
  · intro h
    refine ⟨?_, h.symm⟩
    have := congrArg List.length h
    rw [List.length_take, tl_len, tl_len] at this
    omega
theorem begP_of {s : ByteArray} {x : List UInt8} (hx : x ∈ namesL) (h : tl s <+: x ++ [59]) : begP s = true := by
  have key : ∀ t : ByteArray, x = tl t → preB (t ++ semi) s = true := fun t ht => preB_iff.2 (by rw [tl_app, ← ht]; exact h)
  rw [begP, Bool.or_eq_true, Bool.or_eq_true]
  unfold namesL at hx
  rcases List.mem_append.1 hx with hx | hx
  · obtain ⟨y, hy, rfl⟩ := List.mem_map.1 hx
    exact .inl (.inl (List.any_eq_true.2 ⟨y, hy, key _ rfl⟩))
  · rcases List.mem_append.1 hx with hx | hx
    · obtain ⟨y, hy, rfl⟩ := List.mem_map.1 hx
      exact .inl (.inr (List.any_eq_true.2 ⟨y, hy, key _ rfl⟩))
    · obtain ⟨y, hy, rfl⟩ := List.mem_map.1 hx
      exact .inr (List.any_eq_true.2 ⟨y, hy, key _ rfl⟩)
theorem best_name (s : ByteArray) : ∀ n, best s n = 0 ∨ (findP (s.extract 0 (best s n))).isSome = true
  | 0 => .inl rfl
  | n + 1 => by
    rw [best]
    split
    · rename_i h; exact .inr h.2
    · exact best_name s n
theorem best_max {s : ByteArray} {i : Nat} : ∀ {n : Nat}, i ≤ n → i ≤ s.size → (findP (s.extract 0 i)).isSome = true → i ≤ best s n
  | 0, h, _, _ => by omega
  | n + 1, h, h1, h2 => by
    rw [best]
    split
    · exact h
    · rename_i hn
      rcases Nat.lt_or_ge i (n + 1) with h3 | h3
      · exact best_max (by omega) h1 h2
      · obtain rfl : i = n + 1 := by omega
        exact absurd ⟨h1, h2⟩ hn
theorem bestT_size (s : ByteArray) : (bestT s).size = bestN s := by
  rw [bestT, ext_size]; have := best_le s 12; unfold bestN; omega
theorem bestT_self (s : ByteArray) : s.extract 0 ((((bestT s).size : Nat) : Int)).toNat = bestT s := by
  rw [Int.toNat_natCast, bestT_size]; rfl
theorem bestT_some {s : ByteArray} (h : ¬ bestT s = ⟨#[]⟩) : (findP (bestT s)).isSome = true := by
  rcases best_name s 12 with h0 | h0
  · exact absurd (by rw [bestT, bestN, h0, ext_zero]) h
  · exact h0
theorem best_beg (s : ByteArray) (n : Nat) : begP ((bestT s).extract 0 n) = true := by
  have hp : tl ((bestT s).extract 0 n) <+: tl (bestT s) := by rw [tl_ext, List.drop_zero]; exact List.take_prefix _ _
  by_cases h : bestT s = ⟨#[]⟩
  · have e : (bestT s).extract 0 n = ⟨#[]⟩ := tl_inj (by rw [tl_ext, h]; show List.take n ([] : List UInt8) = []; simp)
    rw [e]; decide
  · obtain ⟨x, hx, e⟩ := find_name (bestT_some h)
    refine begP_of hx (hp.trans ?_)
    rcases e with e | e
    · rw [e]; exact List.prefix_append _ _
    · rw [e]; exact List.prefix_refl _
section
variable {k : Ctx} {w : World} {s : ByteArray}
set_option maxHeartbeats 1000000 in
theorem EntityPrefixes_spec (hs : s.size ≤ 9223372036854775807) (hO : Own k w []) : Tri Try.prog 6 #[.string s] k w fun v m => v = .bool true ∧ m = [] := by
  refine enter (args := [.string s]) Try.func6 rfl rfl ?_
  have hbz : (bestT s).size = bestN s := bestT_size s
  have hbl : bestN s ≤ 12 ∧ bestN s ≤ s.size := best_le s 12
  refine K0 (K1 ?_)
  refine l_y rfl rfl (y_assign rfl) ?_
  refine K2 (K3 (K0 (K1 ?_)))
  refine l_y rfl rfl (y_move rfl) ?_
  refine CK [] hO rfl (fun k' hx hr hO' => Longest_spec (s := s) hs (hO := hO')) ?_
  rintro _ _ w ⟨q13, c13, T13, rfl, rfl⟩ hO
  simp only [List.cons_append, List.nil_append] at hO
  refine l_y rfl rfl (y_move rfl) ?_
  refine l_y rfl rfl (y_extract rfl rfl) ?_
  refine l_y rfl rfl (y_extract rfl rfl) ?_
  refine l_y rfl rfl (y_assign rfl) ?_
  refine l_y rfl rfl (y_assign rfl) ?_
  refine K2 (K3 (K0 (K1 ?_)))
  refine l_y rfl rfl (y_move rfl) ?_
  refine CK [] hO rfl (fun k' hx hr hO' => Find_spec (s := bestT s) (by omega) (hO := hO')) ?_
  rintro _ _ w ⟨q18, c18, T18, rfl, rfl⟩ hO
  refine l_y rfl rfl (y_move rfl) ?_
  refine l_y rfl rfl (y_extract rfl rfl) ?_
  refine l_y rfl rfl (y_extract rfl rfl) ?_
  refine l_y rfl rfl (y_assign rfl) ?_
  refine l_y rfl rfl (y_assign rfl) ?_
  refine K2 (K3 (K0 (K0 (K1 ?_))))
  refine l_y rfl rfl (y_move rfl) ?_
  refine l_y rfl rfl (y_lenS rfl) ?_
  refine l_y rfl rfl (y_move rfl) ?_
  refine l_y rfl rfl (y_lenS rfl) ?_
  refine Z0 (fun h3_4 => ?_) (fun h3_4 => ?_)
  · refine l_y rfl rfl (y_move rfl) ?_
    repeat refine M2 ?_
    refine l_y rfl rfl (y_pick_t rfl rfl) ?_
    refine l_y rfl rfl (y_move rfl) ?_
    repeat refine M2 ?_
    refine l_y rfl rfl (y_pick_t rfl rfl) ?_
    refine K2 (K3 (L8 (K0 (K1 ?_))))
    refine l_y rfl rfl (y_assign rfl) ?_
    refine K2 (K3 (K6 (K9 ?_)))
    exfalso
    first
      | omega
      | exact absurd (bestT_self s) h3_11
      | (have h := bestT_some h3_15; rw [hg40] at h; cases h; done)
      | (simp at hc47; done)
  · refine l_y rfl rfl (y_move rfl) ?_
    refine l_y rfl rfl (y_move rfl) ?_
    refine l_y rfl rfl (y_move rfl) ?_
    refine l_y rfl rfl (y_lenS rfl) ?_
    refine l_y rfl rfl (y_subTo rfl rfl (by omega) (by omega)) ?_
    refine l_y rfl rfl (y_move rfl) ?_
    refine Z3 (fun h3_11 => ?_) (fun h3_11 => ?_)
    · refine l_y rfl rfl (y_pick_f rfl rfl) ?_
      refine l_y rfl rfl (y_move rfl) ?_
      repeat refine M2 ?_
      refine l_y rfl rfl (y_pick_t rfl rfl) ?_
      refine K2 (K3 (L8 (K0 (K1 ?_))))
      refine l_y rfl rfl (y_assign rfl) ?_
      refine K2 (K3 (K6 (K9 ?_)))
      exfalso
      first
        | omega
        | exact absurd (bestT_self s) h3_11
        | (have h := bestT_some h3_15; rw [hg40] at h; cases h; done)
        | (simp at hc47; done)
    · refine l_y rfl rfl (y_pick_f rfl rfl) ?_
      refine l_y rfl rfl (y_move rfl) ?_
      refine l_y rfl rfl (y_move rfl) ?_
      refine Z3 (fun h3_15 => ?_) (fun h3_15 => ?_)
      · refine l_y rfl rfl (y_move rfl) ?_
        refine l_y rfl rfl (y_move rfl) ?_
        refine l_y rfl rfl (y_not rfl rfl) ?_
        refine l_y rfl rfl (y_move rfl) ?_
        refine l_split 40 rfl (fun hg40 => ?_) (fun hg40 => ?_)
        · simp only [Bool.not_eq_true', Bool.not_eq_false'] at hg40
          repeat refine M2 ?_
          refine l_y rfl rfl (y_pick_t rfl rfl) ?_
          refine l_y rfl rfl (y_pick_t rfl rfl) ?_
          refine l_y rfl rfl (y_pick_f rfl rfl) ?_
          refine K2 (K3 (L8 (K0 (K1 ?_))))
          refine l_y rfl rfl (y_assign rfl) ?_
          refine K2 (K3 (K6 (K9 ?_)))
          exfalso
          first
            | omega
            | exact absurd (bestT_self s) h3_11
            | (have h := bestT_some h3_15; rw [hg40] at h; cases h; done)
            | (simp at hc47; done)
        · simp only [Bool.not_eq_true', Bool.not_eq_false'] at hg40
          refine l_y rfl rfl (y_move rfl) ?_
          refine l_y rfl rfl (y_move rfl) ?_
          refine CK [] hO rfl (fun k' hx hr hO' => runes_spec (a := bestL s) (b := bestL s) (sls_roK (p := q13) hr (sls_fct hO)) (sls_roK (p := q18) hr (sls_fct hO)) (by have := findP_len (bestT s); unfold bestL; omega) (hO := hO')) ?_
          rintro _ _ w ⟨rfl, rfl⟩ hO
          refine l_y rfl rfl (y_not rfl rfl) ?_
          refine l_y rfl rfl (y_pick_f rfl rfl) ?_
          refine l_y rfl rfl (y_pick_t rfl rfl) ?_
          refine l_y rfl rfl (y_pick_f rfl rfl) ?_
          refine K2 (K3 ?_)
          refine c_split rfl (fun hc47 => ?_) (fun hc47 => ?_)
          · simp only [Bool.not_eq_true', Bool.not_eq_false'] at hc47
            refine K0 (K1 ?_)
            refine l_y rfl rfl (y_assign rfl) ?_
            refine K2 (K3 (K6 (K9 ?_)))
            exfalso
            first
              | omega
              | exact absurd (bestT_self s) h3_11
              | (have h := bestT_some h3_15; rw [hg40] at h; cases h; done)
              | (simp at hc47; done)
          · simp only [Bool.not_eq_true', Bool.not_eq_false'] at hc47
            refine K5 (K3 (K0 (K0 (K1 ?_))))
            refine l_y rfl rfl (y_move rfl) ?_
            refine l_y rfl rfl (y_lenS rfl) ?_
            refine l_y rfl rfl (D4) ?_
            refine l_y rfl rfl (y_assign rfl) ?_
            refine K2 (K3 (K4 ?_))
            refine c_rounds (X := Int) (fun i => [(0, .string s), (2, .bool false), (3, .string (bestT s)), (7, .int .i64 i)]) (fun i w => Own k w [] ∧ ((bestN s : Int) < i ∧ i ≤ (bestN s : Int) + 1000)) (fun i => (41 - i).toNat) ((((bestT s).size : Nat) : Int) + 1) ⟨rfl, rfl, rfl, rfl, trivial⟩ ⟨hO.only [], by omega⟩ ?_
            rintro i w m hm ⟨hO, hi⟩
            refine K0 (K0 (K1 ?_))
            refine l_y rfl rfl (y_move rfl) ?_
            refine l_y rfl rfl (y_move rfl) ?_
            refine l_y rfl rfl (y_lenS rfl) ?_
            refine Z0 (fun h6_3 => ?_) (fun h6_3 => ?_)
            · refine l_y rfl rfl (y_move rfl) ?_
              refine l_y rfl rfl (y_move rfl) ?_
              refine Z0 (fun h6_6 => ?_) (fun h6_6 => ?_)
              · refine l_y rfl rfl (y_pick_t rfl rfl) ?_
                refine K2 (K3 (L8 (K5 (K3 (K0 (K4 (K0 (K1 ?_))))))))
                refine l_y rfl rfl (y_move rfl) ?_
                refine l_y rfl rfl (y_move rfl) ?_
                refine l_y rfl rfl (y_subTo rfl rfl (by omega) (by omega)) ?_
                refine CK [] hO rfl (fun k' hx hr hO' => FindT_spec (n := i.toNat) rfl hs (hO := hO')) ?_
                rintro _ _ w ⟨q65, c65, T65, rfl, rfl⟩ hO
                refine l_y rfl rfl (y_move rfl) ?_
                refine l_y rfl rfl (y_extract rfl rfl) ?_
                refine l_y rfl rfl (y_extract rfl rfl) ?_
                refine l_y rfl rfl (y_assign rfl) ?_
                refine l_y rfl rfl (y_assign rfl) ?_
                refine K2 (K3 (K0 (K1 ?_)))
                refine l_y rfl rfl (y_move rfl) ?_
                refine K2 (K3 ?_)
                refine c_split rfl (fun hc68 => ?_) (fun hc68 => ?_)
                · refine K0 (K1 ?_)
                  refine l_y rfl rfl (y_assign rfl) ?_
                  refine K2 (K3 (K6 (L0 (K9 (K9 (L0 (K9 ?_)))))))
                  exfalso
                  have hf : (findP (s.extract 0 i.toNat)).isSome = true := hc68
                  have h10 := find_len hf
                  rw [ext_size] at h10
                  have := best_max (s := s) (i := i.toNat) (n := 12) (by omega) (by omega) hf
                  unfold bestN at hi
                  omega
                · refine K5 (K8 (K3 (K1 ?_)))
                  refine l_y rfl rfl (y_move rfl) ?_
                  refine l_y rfl rfl (D4) ?_
                  refine l_y rfl rfl (y_assign rfl) ?_
                  refine K2 ?_
                  exact q_next (i + 1) ⟨rfl, rfl, rfl, rfl, trivial⟩ ⟨hO.only [], by omega⟩ (by omega)
              · refine l_y rfl rfl (y_pick_t rfl rfl) ?_
                refine K2 (K3 (L9 (K7 (L1 (L1 (L2 (K3 (K0 (K0 (K1 ?_))))))))))
                refine l_y rfl rfl (y_assign rfl) ?_
                refine K2 (K3 (K4 ?_))
                refine c_rounds (X := Nat) (fun i => [(2, .bool false), (3, .string (bestT s)), (10, .int .i64 (i : Int))]) (fun i w => Own k w [] ∧ (i ≤ bestN s + 1)) (fun i => bestN s + 1 - i) (0) ⟨rfl, rfl, rfl, trivial⟩ ⟨hO.only [], by omega⟩ ?_
                rintro i w m hm ⟨hO, hi⟩
                refine K0 (K0 (K1 ?_))
                refine l_y rfl rfl (y_move rfl) ?_
                refine l_y rfl rfl (y_move rfl) ?_
                refine l_y rfl rfl (y_lenS rfl) ?_
                refine Z0 (fun h12_3 => ?_) (fun h12_3 => ?_)
                · refine K2 (K3 (L8 (K5 (K3 (K0 (K4 (K0 (K1 ?_))))))))
                  refine l_y rfl rfl (y_move rfl) ?_
                  refine l_y rfl rfl (y_move rfl) ?_
                  refine l_y rfl rfl (y_subTo rfl rfl (by omega) (by omega)) ?_
                  refine CK [] hO rfl (fun k' hx hr hO' => Begins_spec (hO := hO')) ?_
                  rintro _ _ w ⟨rfl, rfl⟩ hO
                  rw [best_beg]
                  refine l_y rfl rfl (y_not rfl rfl) ?_
                  refine K2 (K3 (L9 (K5 (K8 (K3 (K1 ?_))))))
                  refine l_y rfl rfl (y_move rfl) ?_
                  refine l_y rfl rfl (D4) ?_
                  refine l_y rfl rfl (y_assign rfl) ?_
                  refine K2 ?_
                  exact q_next (i + 1) ⟨rfl, rfl, rfl, trivial⟩ ⟨hO.only [], by omega⟩ (by omega)
                · refine K2 (K3 (L9 (K7 (L1 (L1 (L2 (K3 (K0 (K1 ?_)))))))))
                  refine CK [] hO rfl (fun k' hx hr hO' => awake_spec (hO := hO')) ?_
                  rintro _ _ w ⟨rfl, rfl⟩ hO
                  simp only [List.cons_append, List.nil_append] at hO
                  refine l_y rfl rfl (y_assign rfl) ?_
                  refine K2 (K3 (K6 ?_))
                  exact fin1 rfl rfl ⟨_, ⟨rfl, rfl⟩, hO.none⟩
            · refine l_y rfl rfl (y_move rfl) ?_
              repeat refine M2 ?_
              refine l_y rfl rfl (y_pick_f rfl rfl) ?_
              refine K2 (K3 (L9 (K7 (L1 (L1 (L2 (K3 (K0 (K0 (K1 ?_))))))))))
              refine l_y rfl rfl (y_assign rfl) ?_
              refine K2 (K3 (K4 ?_))
              refine c_rounds (X := Nat) (fun i => [(2, .bool false), (3, .string (bestT s)), (10, .int .i64 (i : Int))]) (fun i w => Own k w [] ∧ (i ≤ bestN s + 1)) (fun i => bestN s + 1 - i) (0) ⟨rfl, rfl, rfl, trivial⟩ ⟨hO.only [], by omega⟩ ?_
              rintro i w m hm ⟨hO, hi⟩
              refine K0 (K0 (K1 ?_))
              refine l_y rfl rfl (y_move rfl) ?_
              refine l_y rfl rfl (y_move rfl) ?_
              refine l_y rfl rfl (y_lenS rfl) ?_
              refine Z0 (fun h12_3 => ?_) (fun h12_3 => ?_)
              · refine K2 (K3 (L8 (K5 (K3 (K0 (K4 (K0 (K1 ?_))))))))
                refine l_y rfl rfl (y_move rfl) ?_
                refine l_y rfl rfl (y_move rfl) ?_
                refine l_y rfl rfl (y_subTo rfl rfl (by omega) (by omega)) ?_
                refine CK [] hO rfl (fun k' hx hr hO' => Begins_spec (hO := hO')) ?_
                rintro _ _ w ⟨rfl, rfl⟩ hO
                rw [best_beg]
                refine l_y rfl rfl (y_not rfl rfl) ?_
                refine K2 (K3 (L9 (K5 (K8 (K3 (K1 ?_))))))
                refine l_y rfl rfl (y_move rfl) ?_
                refine l_y rfl rfl (D4) ?_
                refine l_y rfl rfl (y_assign rfl) ?_
                refine K2 ?_
                exact q_next (i + 1) ⟨rfl, rfl, rfl, trivial⟩ ⟨hO.only [], by omega⟩ (by omega)
              · refine K2 (K3 (L9 (K7 (L1 (L1 (L2 (K3 (K0 (K1 ?_)))))))))
                refine CK [] hO rfl (fun k' hx hr hO' => awake_spec (hO := hO')) ?_
                rintro _ _ w ⟨rfl, rfl⟩ hO
                simp only [List.cons_append, List.nil_append] at hO
                refine l_y rfl rfl (y_assign rfl) ?_
                refine K2 (K3 (K6 ?_))
                exact fin1 rfl rfl ⟨_, ⟨rfl, rfl⟩, hO.none⟩
      · refine l_y rfl rfl (y_move rfl) ?_
        repeat refine M2 ?_
        refine l_y rfl rfl (y_pick_f rfl rfl) ?_
        refine l_y rfl rfl (y_pick_f rfl rfl) ?_
        refine K2 (K3 (L9 (K5 (K3 (K0 (K0 (K1 ?_)))))))
        refine l_y rfl rfl (y_move rfl) ?_
        refine l_y rfl rfl (y_lenS rfl) ?_
        refine l_y rfl rfl (D4) ?_
        refine l_y rfl rfl (y_assign rfl) ?_
        refine K2 (K3 (K4 ?_))
        refine c_rounds (X := Int) (fun i => [(0, .string s), (2, .bool false), (3, .string (bestT s)), (7, .int .i64 i)]) (fun i w => Own k w [] ∧ ((bestN s : Int) < i ∧ i ≤ (bestN s : Int) + 1000)) (fun i => (41 - i).toNat) ((((bestT s).size : Nat) : Int) + 1) ⟨rfl, rfl, rfl, rfl, trivial⟩ ⟨hO.only [], by omega⟩ ?_
        rintro i w m hm ⟨hO, hi⟩
        refine K0 (K0 (K1 ?_))
        refine l_y rfl rfl (y_move rfl) ?_
        refine l_y rfl rfl (y_move rfl) ?_
        refine l_y rfl rfl (y_lenS rfl) ?_
        refine Z0 (fun h6_3 => ?_) (fun h6_3 => ?_)
        · refine l_y rfl rfl (y_move rfl) ?_
          refine l_y rfl rfl (y_move rfl) ?_
          refine Z0 (fun h6_6 => ?_) (fun h6_6 => ?_)
          · refine l_y rfl rfl (y_pick_t rfl rfl) ?_
            refine K2 (K3 (L8 (K5 (K3 (K0 (K4 (K0 (K1 ?_))))))))
            refine l_y rfl rfl (y_move rfl) ?_
            refine l_y rfl rfl (y_move rfl) ?_
            refine l_y rfl rfl (y_subTo rfl rfl (by omega) (by omega)) ?_
            refine CK [] hO rfl (fun k' hx hr hO' => FindT_spec (n := i.toNat) rfl hs (hO := hO')) ?_
            rintro _ _ w ⟨q65, c65, T65, rfl, rfl⟩ hO
            refine l_y rfl rfl (y_move rfl) ?_
            refine l_y rfl rfl (y_extract rfl rfl) ?_
            refine l_y rfl rfl (y_extract rfl rfl) ?_
            refine l_y rfl rfl (y_assign rfl) ?_
            refine l_y rfl rfl (y_assign rfl) ?_
            refine K2 (K3 (K0 (K1 ?_)))
            refine l_y rfl rfl (y_move rfl) ?_
            refine K2 (K3 ?_)
            refine c_split rfl (fun hc68 => ?_) (fun hc68 => ?_)
            · refine K0 (K1 ?_)
              refine l_y rfl rfl (y_assign rfl) ?_
              refine K2 (K3 (K6 (L0 (K9 (K9 (L0 (K9 ?_)))))))
              exfalso
              have hf : (findP (s.extract 0 i.toNat)).isSome = true := hc68
              have h10 := find_len hf
              rw [ext_size] at h10
              have := best_max (s := s) (i := i.toNat) (n := 12) (by omega) (by omega) hf
              unfold bestN at hi
              omega
            · refine K5 (K8 (K3 (K1 ?_)))
              refine l_y rfl rfl (y_move rfl) ?_
              refine l_y rfl rfl (D4) ?_
              refine l_y rfl rfl (y_assign rfl) ?_
              refine K2 ?_
              exact q_next (i + 1) ⟨rfl, rfl, rfl, rfl, trivial⟩ ⟨hO.only [], by omega⟩ (by omega)
          · refine l_y rfl rfl (y_pick_t rfl rfl) ?_
            refine K2 (K3 (L9 (K7 (L1 (L1 (L2 (K3 (K0 (K0 (K1 ?_))))))))))
            refine l_y rfl rfl (y_assign rfl) ?_
            refine K2 (K3 (K4 ?_))
            refine c_rounds (X := Nat) (fun i => [(2, .bool false), (3, .string (bestT s)), (10, .int .i64 (i : Int))]) (fun i w => Own k w [] ∧ (i ≤ bestN s + 1)) (fun i => bestN s + 1 - i) (0) ⟨rfl, rfl, rfl, trivial⟩ ⟨hO.only [], by omega⟩ ?_
            rintro i w m hm ⟨hO, hi⟩
            refine K0 (K0 (K1 ?_))
            refine l_y rfl rfl (y_move rfl) ?_
            refine l_y rfl rfl (y_move rfl) ?_
            refine l_y rfl rfl (y_lenS rfl) ?_
            refine Z0 (fun h12_3 => ?_) (fun h12_3 => ?_)
            · refine K2 (K3 (L8 (K5 (K3 (K0 (K4 (K0 (K1 ?_))))))))
              refine l_y rfl rfl (y_move rfl) ?_
              refine l_y rfl rfl (y_move rfl) ?_
              refine l_y rfl rfl (y_subTo rfl rfl (by omega) (by omega)) ?_
              refine CK [] hO rfl (fun k' hx hr hO' => Begins_spec (hO := hO')) ?_
              rintro _ _ w ⟨rfl, rfl⟩ hO
              rw [best_beg]
              refine l_y rfl rfl (y_not rfl rfl) ?_
              refine K2 (K3 (L9 (K5 (K8 (K3 (K1 ?_))))))
              refine l_y rfl rfl (y_move rfl) ?_
              refine l_y rfl rfl (D4) ?_
              refine l_y rfl rfl (y_assign rfl) ?_
              refine K2 ?_
              exact q_next (i + 1) ⟨rfl, rfl, rfl, trivial⟩ ⟨hO.only [], by omega⟩ (by omega)
            · refine K2 (K3 (L9 (K7 (L1 (L1 (L2 (K3 (K0 (K1 ?_)))))))))
              refine CK [] hO rfl (fun k' hx hr hO' => awake_spec (hO := hO')) ?_
              rintro _ _ w ⟨rfl, rfl⟩ hO
              simp only [List.cons_append, List.nil_append] at hO
              refine l_y rfl rfl (y_assign rfl) ?_
              refine K2 (K3 (K6 ?_))
              exact fin1 rfl rfl ⟨_, ⟨rfl, rfl⟩, hO.none⟩
        · refine l_y rfl rfl (y_move rfl) ?_
          repeat refine M2 ?_
          refine l_y rfl rfl (y_pick_f rfl rfl) ?_
          refine K2 (K3 (L9 (K7 (L1 (L1 (L2 (K3 (K0 (K0 (K1 ?_))))))))))
          refine l_y rfl rfl (y_assign rfl) ?_
          refine K2 (K3 (K4 ?_))
          refine c_rounds (X := Nat) (fun i => [(2, .bool false), (3, .string (bestT s)), (10, .int .i64 (i : Int))]) (fun i w => Own k w [] ∧ (i ≤ bestN s + 1)) (fun i => bestN s + 1 - i) (0) ⟨rfl, rfl, rfl, trivial⟩ ⟨hO.only [], by omega⟩ ?_
          rintro i w m hm ⟨hO, hi⟩
          refine K0 (K0 (K1 ?_))
          refine l_y rfl rfl (y_move rfl) ?_
          refine l_y rfl rfl (y_move rfl) ?_
          refine l_y rfl rfl (y_lenS rfl) ?_
          refine Z0 (fun h12_3 => ?_) (fun h12_3 => ?_)
          · refine K2 (K3 (L8 (K5 (K3 (K0 (K4 (K0 (K1 ?_))))))))
            refine l_y rfl rfl (y_move rfl) ?_
            refine l_y rfl rfl (y_move rfl) ?_
            refine l_y rfl rfl (y_subTo rfl rfl (by omega) (by omega)) ?_
            refine CK [] hO rfl (fun k' hx hr hO' => Begins_spec (hO := hO')) ?_
            rintro _ _ w ⟨rfl, rfl⟩ hO
            rw [best_beg]
            refine l_y rfl rfl (y_not rfl rfl) ?_
            refine K2 (K3 (L9 (K5 (K8 (K3 (K1 ?_))))))
            refine l_y rfl rfl (y_move rfl) ?_
            refine l_y rfl rfl (D4) ?_
            refine l_y rfl rfl (y_assign rfl) ?_
            refine K2 ?_
            exact q_next (i + 1) ⟨rfl, rfl, rfl, trivial⟩ ⟨hO.only [], by omega⟩ (by omega)
          · refine K2 (K3 (L9 (K7 (L1 (L1 (L2 (K3 (K0 (K1 ?_)))))))))
            refine CK [] hO rfl (fun k' hx hr hO' => awake_spec (hO := hO')) ?_
            rintro _ _ w ⟨rfl, rfl⟩ hO
            simp only [List.cons_append, List.nil_append] at hO
            refine l_y rfl rfl (y_assign rfl) ?_
            refine K2 (K3 (K6 ?_))
            exact fin1 rfl rfl ⟨_, ⟨rfl, rfl⟩, hO.none⟩
end
end Go.Proofs.Ytklomlknakhedaa
