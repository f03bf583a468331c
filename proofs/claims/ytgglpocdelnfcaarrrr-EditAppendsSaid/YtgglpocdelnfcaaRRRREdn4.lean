/- The walks of IndexAny, ContainsAny and both Names; EditNames'. -/
import Derived.Test.YtgglpocdelnfcaaRRRREdn3
set_option linter.unusedVariables false
set_option linter.unusedSimpArgs false
set_option maxRecDepth 100000
namespace Go.Proofs.YtgglpocdelnfcaaRRRR
open Go Go.Hb Go.RowKit Go.Lib
section
variable {k : Ctx} {w : World} {s : ByteArray}
theorem contains_spec {b : Nat} {l : List UInt8} {c : UInt8} (hO : Own k w [setT b l]) : Tri Try.prog 39 #[.pointer (some ⟨b, 0, none⟩), .int .u8 (c.toNat : Int)] k w fun v m => v = .bool (l.contains c) ∧ m = [setT b l] := by
  refine enter (args := [.pointer (some ⟨b, 0, none⟩), .int .u8 (c.toNat : Int)]) Try.func39 rfl rfl ?_
  have hc : c.toNat < 256 := c.toNat_lt
  refine K0 (K1 ?_)
  refine l_y rfl rfl (y_assign rfl) ?_
  refine K2 (K3 (K0 (K1 ?_)))
  refine l_y rfl rfl (y_move rfl) ?_
  refine l_y rfl rfl (y_move rfl) ?_
  refine l_y rfl rfl (y_nilCheck rfl rfl) ?_
  refine l_y rfl rfl (y_indexA rfl rfl (by omega) (by omega)) ?_
  refine l_y rfl rfl (y_load1 (v := .bool (l.contains c)) rfl (hO.holds (.hd _ _ _) (.ofBlk1 (by rw [show 0 + (((c.toNat : Nat) : Int).toNat * 1 + 0) = c.toNat by simp]; exact setB_at l c)))) ?_
  refine l_y rfl rfl (y_assign rfl) ?_
  refine K2 (K3 (K6 ?_))
  exact fin1 rfl rfl ⟨_, ⟨rfl, rfl⟩, hO⟩
set_option maxHeartbeats 1000000 in
theorem IndexAny_spec (hs : s.size ≤ 100) (hO : Own k w []) : Tri Try.prog 29 #[.string s, .string nameS] k w fun v m => ∃ j : Int, (0 ≤ j ↔ badL (tl s) = true) ∧ v = .int .i64 j ∧ m = [] := by
  refine enter (args := [.string s, .string nameS]) Try.func29 rfl rfl ?_
  have hz := nameS_sz
  have hsz := tl_len s
  have hl : ((setB nameC).map Value.bool).length = 256 := by rw [List.length_map, setB_len]
  have hone : ((setB nameC).map Value.bool).all (·.oneCell') = true := by rw [List.all_map, List.all_eq_true]; intro b _; rfl
  refine K0 (K1 ?_)
  refine l_y rfl rfl (y_assign rfl) ?_
  refine K2 (K3 (K0 (K0 (K1 ?_))))
  refine l_y rfl rfl (y_move rfl) ?_
  refine l_y rfl rfl (y_eqS (c := false) rfl rfl (by decide)) ?_
  refine K2 (K3 (L9 (K5 (K3 (K0 (K0 (K1 ?_)))))))
  refine l_y rfl rfl (y_move rfl) ?_
  refine l_y rfl rfl (y_lenS rfl) ?_
  refine N3 (hp := (by omega)) ?_
  refine K2 (K3 (L9 (K5 (K3 (K0 (K0 (K1 ?_)))))))
  refine l_y rfl rfl (y_move rfl) ?_
  refine l_y rfl rfl (y_lenS rfl) ?_
  refine CK [] hO rfl (fun k' hx hr hO' => use_spec (hO := hO')) ?_
  rintro _ _ w ⟨rfl, rfl⟩ hO
  refine K2 (K3 ?_)
  refine c_split rfl (fun hc26 => ?_) (fun hc26 => ?_)
  · refine K0 (K1 ?_)
    refine l_y rfl rfl (y_move rfl) ?_
    refine CK [] hO rfl (fun k' hx hr hO' => makeSet_spec (hO := hO')) ?_
    rintro _ _ w ⟨rfl, rfl⟩ hO
    refine l_y rfl rfl (y_move rfl) ?_
    refine l_y rfl rfl (y_extract rfl rfl) ?_
    refine l_y rfl rfl (y_extract rfl rfl) ?_
    refine s_alloc (vs := (setB []).map Value.bool) hO rfl rfl (by kernel_rfl) (fun b2 w hO => ?_)
    refine s_storeA (vs := (setB nameC).map Value.bool) hO rfl rfl rfl rfl hl hone (.hd _ _ _) (.ofBlkAll (by rw [hl, List.length_map, setB_len])) (fun w hO => ?_)
    refine l_y rfl rfl (y_assign rfl) ?_
    refine K2 (K3 (K0 (K1 ?_)))
    refine l_y rfl rfl (y_move rfl) ?_
    refine K2 (K3 (L8 (K0 (K0 (K1 ?_)))))
    refine l_y rfl rfl (y_assign rfl) ?_
    refine K2 (K3 (K4 ?_))
    refine c_rounds (X := Nat) (fun i => [(0, .string s), (1, .string nameS), (4, .int .i64 0), (6, .pointer (some ⟨b2, 0, none⟩)), (8, .int .i64 (i : Int))]) (fun i w => Own k w [setT b2 nameC] ∧ (i ≤ s.size) ∧ (badL ((tl s).take i) = false)) (fun i => s.size - i) (0) ⟨rfl, rfl, rfl, rfl, rfl, trivial⟩ ⟨hO.only [.b b2], Nat.zero_le _, rfl⟩ ?_
    rintro i w m hm ⟨hO, hi, hb⟩
    refine K0 (K0 (K1 ?_))
    refine l_y rfl rfl (y_move rfl) ?_
    refine l_y rfl rfl (y_move rfl) ?_
    refine l_y rfl rfl (y_lenS rfl) ?_
    refine Z0 (fun h12_3 => ?_) (fun h12_3 => ?_)
    · refine K2 (K3 (L8 (K5 (K3 (K0 (K4 (K0 ?_)))))))
      obtain ⟨c, hc⟩ : ∃ c, (tl s)[i]? = some c := ⟨_, List.getElem?_eq_getElem (by omega)⟩
      refine K1 ?_
      refine l_y rfl rfl (y_move rfl) ?_
      refine l_y rfl rfl (y_move rfl) ?_
      refine l_y rfl rfl (y_indexS (c := c) rfl rfl (by omega) hc) ?_
      refine CK [.b b2] hO rfl (fun k' hx hr hO' => contains_spec (c := c) (hO := hO')) ?_
      rintro _ _ w ⟨rfl, rfl⟩ hO
      refine K2 (K3 ?_)
      refine c_split rfl (fun hc42 => ?_) (fun hc42 => ?_)
      · refine K0 (K1 ?_)
        refine l_y rfl rfl (y_move rfl) ?_
        refine l_y rfl rfl (y_assign rfl) ?_
        refine K2 (K3 (K6 (L0 (K9 (K9 (L0 (K9 (K9 ?_))))))))
        exact fin1 rfl rfl ⟨_, ⟨(i : Int), ⟨fun _ => badL_hit hc (by simpa using hc42), fun _ => by omega⟩, rfl, rfl⟩, hO.none⟩
      · refine K5 (K8 (K3 (K1 ?_)))
        refine l_y rfl rfl (y_move rfl) ?_
        refine l_y rfl rfl (D4) ?_
        refine l_y rfl rfl (y_assign rfl) ?_
        refine K2 ?_
        exact q_next (i + 1) ⟨rfl, rfl, rfl, rfl, rfl, trivial⟩ ⟨hO.only [.b b2], by omega, badL_snoc hb hc (by simpa using hc42)⟩ (by omega)
    · refine K2 (K3 (L9 (K7 (L1 (L1 (L2 (K3 (K0 (K1 ?_)))))))))
      refine l_y rfl rfl (y_assign rfl) ?_
      refine K2 (K3 (K6 (K9 ?_)))
      have e : badL (tl s) = false := by rwa [List.take_of_length_le (by omega)] at hb
      exact fin1 rfl rfl ⟨_, ⟨-1, ⟨fun h => absurd h (by decide), fun h => by rw [e] at h; cases h⟩, rfl, rfl⟩, hO.none⟩
  · refine K5 (K3 (K0 (K0 (K1 ?_))))
    refine l_y rfl rfl (y_move rfl) ?_
    refine s_rangeS hO rfl rfl rfl (fun bi w hO => ?_)
    refine K2 (K3 (K4 ?_))
    refine c_rounds (X := Nat) (fun p => [(1, .string nameS), (4, .int .i64 0), (45, .pointer (some ⟨bi, 0, none⟩))]) (fun p w => Own k w [obj bi (.stringIter s p)] ∧ (p ≤ s.size) ∧ (badL ((tl s).take p) = false)) (fun p => s.size - p) (0) ⟨rfl, rfl, rfl, trivial⟩ ⟨hO.only [.o bi], Nat.zero_le _, rfl⟩ ?_
    rintro p w m hm ⟨hO, hp, hb⟩
    refine K0 (K1 ?_)
    refine s_nextU hO rfl (fun w hO => ?_)
    refine l_y rfl rfl (y_next0 rfl) ?_
    refine K2 (K3 (K0 ?_))
    refine c_split rfl (fun hc47 => ?_) (fun hc47 => ?_)
    · refine K5 (K3 (K4 (K0 ?_)))
      have hlt : p < s.size := by simpa using hc47
      have hdo := dec_ok hlt
      refine K1 ?_
      refine l_y rfl rfl (y_next1 rfl hlt) ?_
      refine l_y rfl rfl (y_next2 rfl hlt) ?_
      refine l_y rfl rfl (y_assign rfl) ?_
      refine l_y rfl rfl (y_assign rfl) ?_
      refine K2 (K3 (K0 (K1 ?_)))
      refine l_y rfl rfl (y_move rfl) ?_
      refine l_y rfl rfl (y_move rfl) ?_
      refine CK [] hO rfl (fun k' hx hr hO' => IndexRune_spec (r := ((Utf8.decode s p).1 : Int)) (by omega) (by omega) (by omega) (hO := hO')) ?_
      rintro _ _ w ⟨j, hj, rfl, rfl⟩ hO
      rw [Int.toNat_natCast] at hj
      have hj1 : 0 ≤ j → (decide ((Utf8.decode s p).1 < 128) && nameC.contains (UInt8.ofNat (Utf8.decode s p).1)) = true := fun h => by rw [Bool.and_eq_true, decide_eq_true_eq]; have := hj.1 h; exact ⟨by omega, this.2⟩
      have hj2 : (decide ((Utf8.decode s p).1 < 128) && nameC.contains (UInt8.ofNat (Utf8.decode s p).1)) = true → 0 ≤ j := fun h => by rw [Bool.and_eq_true, decide_eq_true_eq] at h; exact hj.2 ⟨by omega, h.2⟩
      refine Z0 (fun h20_3 => ?_) (fun h20_3 => ?_)
      · refine K2 (K3 (L8 (K0 (K1 ?_))))
        refine l_y rfl rfl (y_move rfl) ?_
        refine l_y rfl rfl (y_assign rfl) ?_
        refine K2 (K3 (K6 (L0 (K9 (L0 (K9 ?_))))))
        exact fin1 rfl rfl ⟨_, ⟨(p : Int), ⟨fun _ => badL_found hlt (hj1 h20_3), fun _ => by omega⟩, rfl, rfl⟩, hO.none⟩
      · refine K2 (K3 (L9 (K5 (K8 ?_))))
        exact q_next (nextP s p) ⟨rfl, rfl, rfl, trivial⟩ ⟨hO.only [.o bi], by rw [nextP, if_pos hlt]; omega, by rw [nextP, if_pos hlt]; exact badL_step hlt hb (by cases hcs : (decide ((Utf8.decode s p).1 < 128) && nameC.contains (UInt8.ofNat (Utf8.decode s p).1)) with | false => rfl | true => exact absurd (hj2 hcs) h20_3)⟩ (by rw [nextP, if_pos hlt]; omega)
    · refine K7 (L1 (L1 (L2 (K3 (K0 (K1 ?_))))))
      refine l_y rfl rfl (y_assign rfl) ?_
      refine K2 (K3 (K6 ?_))
      have hnl : ¬ p < s.size := by simpa using hc47
      have e : badL (tl s) = false := by rwa [List.take_of_length_le (by omega)] at hb
      exact fin1 rfl rfl ⟨_, ⟨-1, ⟨fun h => absurd h (by decide), fun h => by rw [e] at h; cases h⟩, rfl, rfl⟩, hO.none⟩
theorem ContainsAny_spec (hs : s.size ≤ 100) (hO : Own k w []) : Tri Try.prog 14 #[.string s, .string nameS] k w fun v m => v = .bool (badL (tl s)) ∧ m = [] := by
  refine enter (args := [.string s, .string nameS]) Try.func14 rfl rfl ?_
  refine K0 (K1 ?_)
  refine l_y rfl rfl (y_assign rfl) ?_
  refine K2 (K3 (K0 (K1 ?_)))
  refine l_y rfl rfl (y_move rfl) ?_
  refine l_y rfl rfl (y_move rfl) ?_
  refine CK [] hO rfl (fun k' hx hr hO' => IndexAny_spec hs (hO := hO')) ?_
  rintro _ _ w ⟨j, hj, rfl, rfl⟩ hO
  refine Z0 (fun h1_3 => ?_) (fun h1_3 => ?_)
  · refine l_y rfl rfl (y_assign rfl) ?_
    refine K2 (K3 (K6 ?_))
    first | exact fin1 rfl rfl ⟨_, ⟨by rw [hj.1 h1_3], rfl⟩, hO.none⟩ | exact fin1 rfl rfl ⟨_, ⟨by rw [Bool.eq_false_iff.2 (fun h => h1_3 (hj.2 h))], rfl⟩, hO.none⟩
  · refine l_y rfl rfl (y_assign rfl) ?_
    refine K2 (K3 (K6 ?_))
    first | exact fin1 rfl rfl ⟨_, ⟨by rw [hj.1 h1_3], rfl⟩, hO.none⟩ | exact fin1 rfl rfl ⟨_, ⟨by rw [Bool.eq_false_iff.2 (fun h => h1_3 (hj.2 h))], rfl⟩, hO.none⟩
theorem Name_spec (hO : Own k w []) : Tri Try.prog 5 #[.string s] k w fun v m => v = .bool (nameB s) ∧ m = [] := by
  refine enter (args := [.string s]) Try.func5 rfl rfl ?_
  refine K0 (K1 ?_)
  refine l_y rfl rfl (y_assign rfl) ?_
  refine K2 (K3 (K0 (K1 ?_)))
  refine l_y rfl rfl (y_move rfl) ?_
  refine l_y rfl rfl (y_lenS rfl) ?_
  refine Z0 (fun h1_2 => ?_) (fun h1_2 => ?_)
  · refine l_y rfl rfl (y_move rfl) ?_
    refine l_y rfl rfl (y_move rfl) ?_
    refine l_y rfl rfl (y_lenS rfl) ?_
    refine Z0 (fun h1_6 => ?_) (fun h1_6 => ?_)
    · refine l_y rfl rfl (y_pick_t rfl rfl) ?_
      refine l_y rfl rfl (y_move rfl) ?_
      refine l_y rfl rfl (y_move rfl) ?_
      refine CK [] hO rfl (fun k' hx hr hO' => ContainsAny_spec (by omega) (hO := hO')) ?_
      rintro _ _ w ⟨rfl, rfl⟩ hO
      refine l_y rfl rfl (y_not rfl rfl) ?_
      refine l_y rfl rfl (y_pick_t rfl rfl) ?_
      refine l_y rfl rfl (y_assign rfl) ?_
      refine K2 (K3 (K6 ?_))
      first | exact fin1 rfl rfl ⟨_, ⟨by rw [nameB, decide_eq_true (by omega), decide_eq_true (by omega)]; rfl, rfl⟩, hO.none⟩ | exact fin1 rfl rfl ⟨_, ⟨by rw [nameB, decide_eq_true (by omega), decide_eq_false (by omega)]; rfl, rfl⟩, hO.none⟩ | exact fin1 rfl rfl ⟨_, ⟨by rw [nameB, decide_eq_false (by omega)]; rfl, rfl⟩, hO.none⟩
    · refine l_y rfl rfl (y_pick_t rfl rfl) ?_
      refine l_y rfl rfl (y_move rfl) ?_
      repeat refine M2 ?_
      refine l_y rfl rfl (y_pick_f rfl rfl) ?_
      refine l_y rfl rfl (y_assign rfl) ?_
      refine K2 (K3 (K6 ?_))
      first | exact fin1 rfl rfl ⟨_, ⟨by rw [nameB, decide_eq_true (by omega), decide_eq_true (by omega)]; rfl, rfl⟩, hO.none⟩ | exact fin1 rfl rfl ⟨_, ⟨by rw [nameB, decide_eq_true (by omega), decide_eq_false (by omega)]; rfl, rfl⟩, hO.none⟩ | exact fin1 rfl rfl ⟨_, ⟨by rw [nameB, decide_eq_false (by omega)]; rfl, rfl⟩, hO.none⟩
  · refine l_y rfl rfl (y_move rfl) ?_
    repeat refine M2 ?_
    refine l_y rfl rfl (y_pick_f rfl rfl) ?_
    refine l_y rfl rfl (y_move rfl) ?_
    repeat refine M2 ?_
    refine l_y rfl rfl (y_pick_f rfl rfl) ?_
    refine l_y rfl rfl (y_assign rfl) ?_
    refine K2 (K3 (K6 ?_))
    first | exact fin1 rfl rfl ⟨_, ⟨by rw [nameB, decide_eq_true (by omega), decide_eq_true (by omega)]; rfl, rfl⟩, hO.none⟩ | exact fin1 rfl rfl ⟨_, ⟨by rw [nameB, decide_eq_true (by omega), decide_eq_false (by omega)]; rfl, rfl⟩, hO.none⟩ | exact fin1 rfl rfl ⟨_, ⟨by rw [nameB, decide_eq_false (by omega)]; rfl, rfl⟩, hO.none⟩
theorem nameC_iff {c : UInt8} (h : c.toNat = 0 ∨ c.toNat = 9 ∨ c.toNat = 10 ∨ c.toNat = 12 ∨ c.toNat = 13 ∨ c.toNat = 32 ∨ c.toNat = 47 ∨ c.toNat = 61 ∨ c.toNat = 62 ∨ c.toNat = 60 ∨ c.toNat = 34 ∨ c.toNat = 39) : nameC.contains c = true := by
  have e : c = UInt8.ofNat c.toNat := by simp
  rcases h with h | h | h | h | h | h | h | h | h | h | h | h <;> (rw [e, h]; decide)
theorem nameC_not {c : UInt8} (h : nameC.contains c = true) : c.toNat = 0 ∨ c.toNat = 9 ∨ c.toNat = 10 ∨ c.toNat = 12 ∨ c.toNat = 13 ∨ c.toNat = 32 ∨ c.toNat = 47 ∨ c.toNat = 61 ∨ c.toNat = 62 ∨ c.toNat = 60 ∨ c.toNat = 34 ∨ c.toNat = 39 := by
  have : ∀ x ∈ nameC, x.toNat = 0 ∨ x.toNat = 9 ∨ x.toNat = 10 ∨ x.toNat = 12 ∨ x.toNat = 13 ∨ x.toNat = 32 ∨ x.toNat = 47 ∨ x.toNat = 61 ∨ x.toNat = 62 ∨ x.toNat = 60 ∨ x.toNat = 34 ∨ x.toNat = 39 := by decide
  exact this c (by simpa using h)
set_option maxHeartbeats 1000000 in
theorem NameR_spec (hs : s.size ≤ 9223372036854775807) (hO : Own k w []) : Tri Try.prog 6 #[.string s] k w fun v m => v = .bool (nameB s) ∧ m = [] := by
  refine enter (args := [.string s]) Try.func6 rfl rfl ?_
  have hsz := tl_len s
  refine K0 (K1 ?_)
  refine l_y rfl rfl (y_assign rfl) ?_
  refine K2 (K3 (K0 (K0 (K1 ?_))))
  refine l_y rfl rfl (y_assign rfl) ?_
  refine K2 (K3 (K4 ?_))
  refine c_rounds (X := Nat) (fun i => [(0, .string s), (2, .bool false), (3, .int .i64 (i : Int))]) (fun i w => Own k w [] ∧ (i ≤ s.size) ∧ (badL ((tl s).take i) = false)) (fun i => s.size - i) (0) ⟨rfl, rfl, rfl, trivial⟩ ⟨hO.only [], Nat.zero_le _, rfl⟩ ?_
  rintro i w m hm ⟨hO, hi, hb⟩
  refine K0 (K0 (K1 ?_))
  refine l_y rfl rfl (y_move rfl) ?_
  refine l_y rfl rfl (y_move rfl) ?_
  refine l_y rfl rfl (y_lenS rfl) ?_
  refine Z0 (fun h2_3 => ?_) (fun h2_3 => ?_)
  · refine K2 (K3 (L8 (K5 (K3 (K0 (K4 (K0 ?_)))))))
    obtain ⟨c, hc⟩ : ∃ c, (tl s)[i]? = some c := ⟨_, List.getElem?_eq_getElem (by omega)⟩
    refine K1 ?_
    refine l_y rfl rfl (y_move rfl) ?_
    refine l_y rfl rfl (y_move rfl) ?_
    refine l_y rfl rfl (y_indexS (c := c) rfl rfl (by omega) hc) ?_
    refine K2 (K3 (K4 (K0 (K0 (K1 ?_)))))
    refine Z0 (fun h5_0 => ?_) (fun h5_0 => ?_)
    · refine l_y rfl rfl (y_assign rfl) ?_
      refine K2 (K3 (L8 (K5 (K3 (L8 (K0 (K1 ?_)))))))
      refine l_y rfl rfl (y_assign rfl) ?_
      refine K2 (K3 (K6 (L0 (L0 (K9 (K9 (L0 (K9 ?_))))))))
      exact fin1 rfl rfl ⟨_, ⟨by rw [nameB, badL_hit hc (nameC_iff (by omega))]; simp, rfl⟩, hO.none⟩
    · refine l_y rfl rfl (y_assign rfl) ?_
      refine K2 (K3 (L9 (K0 (K1 ?_))))
      refine Z0 (fun h6_0 => ?_) (fun h6_0 => ?_)
      · refine l_y rfl rfl (y_assign rfl) ?_
        refine K2 (K3 (L8 (K5 (K3 (L8 (K0 (K1 ?_)))))))
        refine l_y rfl rfl (y_assign rfl) ?_
        refine K2 (K3 (K6 (L0 (L0 (K9 (K9 (L0 (K9 ?_))))))))
        exact fin1 rfl rfl ⟨_, ⟨by rw [nameB, badL_hit hc (nameC_iff (by omega))]; simp, rfl⟩, hO.none⟩
      · refine l_y rfl rfl (y_assign rfl) ?_
        refine K2 (K3 (L9 (K0 (K1 ?_))))
        refine Z0 (fun h7_0 => ?_) (fun h7_0 => ?_)
        · refine l_y rfl rfl (y_assign rfl) ?_
          refine K2 (K3 (L8 (K5 (K3 (L8 (K0 (K1 ?_)))))))
          refine l_y rfl rfl (y_assign rfl) ?_
          refine K2 (K3 (K6 (L0 (L0 (K9 (K9 (L0 (K9 ?_))))))))
          exact fin1 rfl rfl ⟨_, ⟨by rw [nameB, badL_hit hc (nameC_iff (by omega))]; simp, rfl⟩, hO.none⟩
        · refine l_y rfl rfl (y_assign rfl) ?_
          refine K2 (K3 (L9 (K0 (K1 ?_))))
          refine Z0 (fun h8_0 => ?_) (fun h8_0 => ?_)
          · refine l_y rfl rfl (y_assign rfl) ?_
            refine K2 (K3 (L8 (K5 (K3 (L8 (K0 (K1 ?_)))))))
            refine l_y rfl rfl (y_assign rfl) ?_
            refine K2 (K3 (K6 (L0 (L0 (K9 (K9 (L0 (K9 ?_))))))))
            exact fin1 rfl rfl ⟨_, ⟨by rw [nameB, badL_hit hc (nameC_iff (by omega))]; simp, rfl⟩, hO.none⟩
          · refine l_y rfl rfl (y_assign rfl) ?_
            refine K2 (K3 (L9 (K0 (K1 ?_))))
            refine Z0 (fun h9_0 => ?_) (fun h9_0 => ?_)
            · refine l_y rfl rfl (y_assign rfl) ?_
              refine K2 (K3 (L8 (K5 (K3 (L8 (K0 (K1 ?_)))))))
              refine l_y rfl rfl (y_assign rfl) ?_
              refine K2 (K3 (K6 (L0 (L0 (K9 (K9 (L0 (K9 ?_))))))))
              exact fin1 rfl rfl ⟨_, ⟨by rw [nameB, badL_hit hc (nameC_iff (by omega))]; simp, rfl⟩, hO.none⟩
            · refine l_y rfl rfl (y_assign rfl) ?_
              refine K2 (K3 (L9 (K0 (K1 ?_))))
              refine Z0 (fun h10_0 => ?_) (fun h10_0 => ?_)
              · refine l_y rfl rfl (y_assign rfl) ?_
                refine K2 (K3 (L8 (K5 (K3 (L8 (K0 (K1 ?_)))))))
                refine l_y rfl rfl (y_assign rfl) ?_
                refine K2 (K3 (K6 (L0 (L0 (K9 (K9 (L0 (K9 ?_))))))))
                exact fin1 rfl rfl ⟨_, ⟨by rw [nameB, badL_hit hc (nameC_iff (by omega))]; simp, rfl⟩, hO.none⟩
              · refine l_y rfl rfl (y_assign rfl) ?_
                refine K2 (K3 (L9 (K0 (K1 ?_))))
                refine Z0 (fun h11_0 => ?_) (fun h11_0 => ?_)
                · refine l_y rfl rfl (y_assign rfl) ?_
                  refine K2 (K3 (L8 (K5 (K3 (L8 (K0 (K1 ?_)))))))
                  refine l_y rfl rfl (y_assign rfl) ?_
                  refine K2 (K3 (K6 (L0 (L0 (K9 (K9 (L0 (K9 ?_))))))))
                  exact fin1 rfl rfl ⟨_, ⟨by rw [nameB, badL_hit hc (nameC_iff (by omega))]; simp, rfl⟩, hO.none⟩
                · refine l_y rfl rfl (y_assign rfl) ?_
                  refine K2 (K3 (L9 (K0 (K1 ?_))))
                  refine Z0 (fun h12_0 => ?_) (fun h12_0 => ?_)
                  · refine l_y rfl rfl (y_assign rfl) ?_
                    refine K2 (K3 (L8 (K5 (K3 (L8 (K0 (K1 ?_)))))))
                    refine l_y rfl rfl (y_assign rfl) ?_
                    refine K2 (K3 (K6 (L0 (L0 (K9 (K9 (L0 (K9 ?_))))))))
                    exact fin1 rfl rfl ⟨_, ⟨by rw [nameB, badL_hit hc (nameC_iff (by omega))]; simp, rfl⟩, hO.none⟩
                  · refine l_y rfl rfl (y_assign rfl) ?_
                    refine K2 (K3 (L9 (K0 (K1 ?_))))
                    refine Z0 (fun h13_0 => ?_) (fun h13_0 => ?_)
                    · refine l_y rfl rfl (y_assign rfl) ?_
                      refine K2 (K3 (L8 (K5 (K3 (L8 (K0 (K1 ?_)))))))
                      refine l_y rfl rfl (y_assign rfl) ?_
                      refine K2 (K3 (K6 (L0 (L0 (K9 (K9 (L0 (K9 ?_))))))))
                      exact fin1 rfl rfl ⟨_, ⟨by rw [nameB, badL_hit hc (nameC_iff (by omega))]; simp, rfl⟩, hO.none⟩
                    · refine l_y rfl rfl (y_assign rfl) ?_
                      refine K2 (K3 (L9 (K0 (K1 ?_))))
                      refine Z0 (fun h14_0 => ?_) (fun h14_0 => ?_)
                      · refine l_y rfl rfl (y_assign rfl) ?_
                        refine K2 (K3 (L8 (K5 (K3 (L8 (K0 (K1 ?_)))))))
                        refine l_y rfl rfl (y_assign rfl) ?_
                        refine K2 (K3 (K6 (L0 (L0 (K9 (K9 (L0 (K9 ?_))))))))
                        exact fin1 rfl rfl ⟨_, ⟨by rw [nameB, badL_hit hc (nameC_iff (by omega))]; simp, rfl⟩, hO.none⟩
                      · refine l_y rfl rfl (y_assign rfl) ?_
                        refine K2 (K3 (L9 (K0 (K1 ?_))))
                        refine Z0 (fun h15_0 => ?_) (fun h15_0 => ?_)
                        · refine l_y rfl rfl (y_assign rfl) ?_
                          refine K2 (K3 (L8 (K5 (K3 (L8 (K0 (K1 ?_)))))))
                          refine l_y rfl rfl (y_assign rfl) ?_
                          refine K2 (K3 (K6 (L0 (L0 (K9 (K9 (L0 (K9 ?_))))))))
                          exact fin1 rfl rfl ⟨_, ⟨by rw [nameB, badL_hit hc (nameC_iff (by omega))]; simp, rfl⟩, hO.none⟩
                        · refine l_y rfl rfl (y_assign rfl) ?_
                          refine K2 (K3 (L9 (K1 ?_)))
                          refine Z0 (fun h16_0 => ?_) (fun h16_0 => ?_)
                          · refine l_y rfl rfl (y_assign rfl) ?_
                            refine K2 (K3 (L8 (K0 (K1 ?_))))
                            refine l_y rfl rfl (y_assign rfl) ?_
                            refine K2 (K3 (K6 (L0 (L0 (K9 (K9 (L0 (K9 ?_))))))))
                            exact fin1 rfl rfl ⟨_, ⟨by rw [nameB, badL_hit hc (nameC_iff (by omega))]; simp, rfl⟩, hO.none⟩
                          · refine l_y rfl rfl (y_assign rfl) ?_
                            refine K2 (K3 (L9 (K5 (K8 (K8 (K3 (K1 ?_)))))))
                            refine l_y rfl rfl (y_move rfl) ?_
                            refine l_y rfl rfl (D4) ?_
                            refine l_y rfl rfl (y_assign rfl) ?_
                            refine K2 ?_
                            exact q_next (i + 1) ⟨rfl, rfl, rfl, trivial⟩ ⟨hO.only [], by omega, badL_snoc hb hc (by cases h : nameC.contains c with | false => rfl | true => have := nameC_not h; omega)⟩ (by omega)
  · refine K2 (K3 (L9 (K7 (L1 (L1 (L2 (K3 (K0 ?_))))))))
    have e : badL (tl s) = false := by rwa [List.take_of_length_le (by omega)] at hb
    refine K1 ?_
    refine l_y rfl rfl (y_move rfl) ?_
    refine l_y rfl rfl (y_lenS rfl) ?_
    refine Z0 (fun h18_2 => ?_) (fun h18_2 => ?_)
    · refine l_y rfl rfl (y_move rfl) ?_
      refine l_y rfl rfl (y_move rfl) ?_
      refine l_y rfl rfl (y_lenS rfl) ?_
      refine Z0 (fun h18_6 => ?_) (fun h18_6 => ?_)
      · refine l_y rfl rfl (y_pick_t rfl rfl) ?_
        refine l_y rfl rfl (y_assign rfl) ?_
        refine K2 (K3 (K6 ?_))
        first | exact fin1 rfl rfl ⟨_, ⟨by rw [nameB, e, decide_eq_true (by omega), decide_eq_true (by omega)]; rfl, rfl⟩, hO.none⟩ | exact fin1 rfl rfl ⟨_, ⟨by rw [nameB, decide_eq_true (by omega), decide_eq_false (by omega)]; rfl, rfl⟩, hO.none⟩ | exact fin1 rfl rfl ⟨_, ⟨by rw [nameB, decide_eq_false (by omega)]; rfl, rfl⟩, hO.none⟩
      · refine l_y rfl rfl (y_pick_t rfl rfl) ?_
        refine l_y rfl rfl (y_assign rfl) ?_
        refine K2 (K3 (K6 ?_))
        first | exact fin1 rfl rfl ⟨_, ⟨by rw [nameB, e, decide_eq_true (by omega), decide_eq_true (by omega)]; rfl, rfl⟩, hO.none⟩ | exact fin1 rfl rfl ⟨_, ⟨by rw [nameB, decide_eq_true (by omega), decide_eq_false (by omega)]; rfl, rfl⟩, hO.none⟩ | exact fin1 rfl rfl ⟨_, ⟨by rw [nameB, decide_eq_false (by omega)]; rfl, rfl⟩, hO.none⟩
    · refine l_y rfl rfl (y_move rfl) ?_
      repeat refine M2 ?_
      refine l_y rfl rfl (y_pick_f rfl rfl) ?_
      refine l_y rfl rfl (y_assign rfl) ?_
      refine K2 (K3 (K6 ?_))
      first | exact fin1 rfl rfl ⟨_, ⟨by rw [nameB, e, decide_eq_true (by omega), decide_eq_true (by omega)]; rfl, rfl⟩, hO.none⟩ | exact fin1 rfl rfl ⟨_, ⟨by rw [nameB, decide_eq_true (by omega), decide_eq_false (by omega)]; rfl, rfl⟩, hO.none⟩ | exact fin1 rfl rfl ⟨_, ⟨by rw [nameB, decide_eq_false (by omega)]; rfl, rfl⟩, hO.none⟩
theorem name_id : nameB ⟨#[105, 100]⟩ = true := by decide
theorem name_empty : nameB ⟨#[]⟩ = false := by decide
theorem awake_spec (hO : Own k w []) : Tri Try.prog 7 #[] k w fun v m => v = .bool true ∧ m = [] := by
  refine enter (args := []) Try.func7 rfl rfl ?_
  refine K0 (K1 ?_)
  refine l_y rfl rfl (y_assign rfl) ?_
  refine K2 (K3 (K0 (K1 ?_)))
  refine CK [] hO rfl (fun k' hx hr hO' => Name_spec (hO := hO')) ?_
  rintro _ _ w ⟨rfl, rfl⟩ hO
  rw [name_id]
  refine l_y rfl rfl (y_move rfl) ?_
  refine CK [] hO rfl (fun k' hx hr hO' => Name_spec (hO := hO')) ?_
  rintro _ _ w ⟨rfl, rfl⟩ hO
  rw [name_empty]
  refine l_y rfl rfl (y_not rfl rfl) ?_
  refine l_y rfl rfl (y_pick_t rfl rfl) ?_
  refine l_y rfl rfl (y_assign rfl) ?_
  refine K2 (K3 (K6 ?_))
  exact fin1 rfl rfl ⟨_, ⟨rfl, rfl⟩, hO.none⟩
theorem EditNames_spec (hs : s.size ≤ 9223372036854775807) (hO : Own k w []) : Tri Try.prog 3 #[.string s] k w fun v m => v = .bool true ∧ m = [] := by
  refine enter (args := [.string s]) Try.func3 rfl rfl ?_
  refine K0 (K1 ?_)
  refine l_y rfl rfl (y_assign rfl) ?_
  refine K2 (K3 (K0 (K1 ?_)))
  refine l_y rfl rfl (y_move rfl) ?_
  refine CK [] hO rfl (fun k' hx hr hO' => Name_spec (hO := hO')) ?_
  rintro _ _ w ⟨rfl, rfl⟩ hO
  simp only [List.cons_append, List.nil_append] at hO
  refine l_y rfl rfl (y_move rfl) ?_
  refine CK [] hO rfl (fun k' hx hr hO' => NameR_spec hs (hO := hO')) ?_
  rintro _ _ w ⟨rfl, rfl⟩ hO
  simp only [List.cons_append, List.nil_append] at hO
  refine l_y rfl rfl (y_eqB (c := true) rfl rfl (by simp)) ?_
  refine l_y rfl rfl (y_move rfl) ?_
  refine CK [] hO rfl (fun k' hx hr hO' => awake_spec (hO := hO')) ?_
  rintro _ _ w ⟨rfl, rfl⟩ hO
  simp only [List.cons_append, List.nil_append] at hO
  refine l_y rfl rfl (y_pick_t rfl rfl) ?_
  refine l_y rfl rfl (y_assign rfl) ?_
  refine K2 (K3 (K6 ?_))
  exact fin1 rfl rfl ⟨_, ⟨rfl, rfl⟩, hO.none⟩
end
end Go.Proofs.YtgglpocdelnfcaaRRRR
