/- The walks of IndexRune and of what it calls, in the text of the bytes that no name may hold. -/
import Derived.Test.YtgglpocdelnfcaaRRRREdn1
import Derived.Lib.Bytealg
set_option linter.unusedVariables false
set_option linter.unusedSimpArgs false
set_option maxRecDepth 100000
namespace Go.Proofs.YtgglpocdelnfcaaRRRR
open Go Go.Hb Go.RowKit Go.Lib
theorem nameS_sz : nameS.size = 12 := rfl
theorem name_dec : ∀ p : Fin 12, (Utf8.decode nameS p.1).1 < 128 ∧ (Utf8.decode nameS p.1).2 = 1 := by decide
theorem tl_nameS : tl nameS = nameC := rfl
theorem u8_wrap {r : Int} (h0 : 0 ≤ r) (h1 : r < 128) : IntKind.u8.wrap r = ((UInt8.ofNat r.toNat).toNat : Int) := by
  have : (UInt8.ofNat r.toNat).toNat = r.toNat := by simp; omega
  rw [this]
  simp [IntKind.wrap, IntKind.bits, IntKind.signed]; omega
theorem name_at : ∀ e : Fin 4, ∃ c0, (tl nameS)[e.1]? = some c0 ∧ c0.toNat < 128 := by
  intro e
  have : ∀ e : Fin 4, ((tl nameS)[e.1]?.getD 255).toNat < 128 ∧ ((tl nameS)[e.1]?).isSome = true := by decide
  obtain ⟨h1, h2⟩ := this e
  obtain ⟨c0, hc⟩ := Option.isSome_iff_exists.1 h2
  exact ⟨c0, hc, by rw [hc] at h1; exact h1⟩
theorem high_none {c : UInt8} (h : 128 ≤ c.toNat) (i j : Nat) : indexByte (tl (nameS.extract i j)) c < 0 := by
  rcases Int.lt_or_le (indexByte (tl (nameS.extract i j)) c) 0 with h1 | h1
  · exact h1
  · have h2 : (tl (nameS.extract i j)).contains c = true := by rw [contains_iff_indexByte]; exact decide_eq_true h1
    have h3 : c ∈ tl (nameS.extract i j) := by simpa using h2
    have h4 : c ∈ tl nameS := by
      rw [show tl (nameS.extract i j) = ((tl nameS).take j).drop i by simp [tl, List.drop_take]] at h3
      exact List.mem_of_mem_take (List.mem_of_mem_drop h3)
    have : ∀ x ∈ tl nameS, x.toNat < 128 := by decide
    have := this c h4
    omega
section
variable {k : Ctx} {w : World} {s : ByteArray} {r : Int}
theorem use_spec {n : Int} (hO : Own k w []) : Tri Try.prog 37 #[.int .i64 n] k w fun v m => v = .bool (decide (8 < n)) ∧ m = [] := by
  refine enter (args := [.int .i64 n]) Try.func37 rfl rfl ?_
  refine K0 (K1 ?_)
  refine l_y rfl rfl (y_assign rfl) ?_
  refine K2 (K3 (K0 (K1 ?_)))
  refine l_y rfl rfl (y_move rfl) ?_
  refine l_y rfl rfl (y_cmpI rfl rfl rfl) ?_
  refine l_y rfl rfl (y_assign rfl) ?_
  refine K2 (K3 (K6 ?_))
  exact fin1 rfl rfl ⟨_, ⟨rfl, rfl⟩, hO.none⟩
theorem IndexByte0_spec {c : UInt8} (hO : Own k w []) : Tri Try.prog 44 #[.string s, .int .u8 (c.toNat : Int)] k w fun v m => v = .int .i64 (indexByte (tl s) c) ∧ m = [] := by
  refine enter (args := [.string s, .int .u8 (c.toNat : Int)]) Try.func44 rfl rfl ?_
  refine K0 (K1 ?_)
  refine l_y rfl rfl (y_assign rfl) ?_
  refine K2 (K3 (K0 (K1 ?_)))
  refine l_y rfl rfl (y_move rfl) ?_
  refine l_y rfl rfl (y_move rfl) ?_
  refine l_y rfl rfl (y_extern (xs := [.tmp 5, .tmp 6]) (v := .int .i64 (indexByte (tl s) c)) rfl (by rw [run_callFunc_extern Try.func45 (by kernel_rfl) (by kernel_rfl) (by kernel_rfl) (e := Extern.BytealgIndexByte.indexByte) (by kernel_rfl)]; simp [run_indexByteString])) ?_
  refine l_y rfl rfl (y_assign rfl) ?_
  refine K2 (K3 (K6 ?_))
  exact fin1 rfl rfl ⟨_, ⟨rfl, rfl⟩, hO.none⟩
theorem IndexByte_spec {c : UInt8} (hO : Own k w []) : Tri Try.prog 40 #[.string s, .int .u8 (c.toNat : Int)] k w fun v m => v = .int .i64 (indexByte (tl s) c) ∧ m = [] := by
  refine enter (args := [.string s, .int .u8 (c.toNat : Int)]) Try.func40 rfl rfl ?_
  refine K0 (K1 ?_)
  refine l_y rfl rfl (y_assign rfl) ?_
  refine K2 (K3 (K0 (K1 ?_)))
  refine l_y rfl rfl (y_move rfl) ?_
  refine l_y rfl rfl (y_move rfl) ?_
  refine CK [] hO rfl (fun k' hx hr hO' => IndexByte0_spec (hO := hO')) ?_
  rintro _ _ w ⟨rfl, rfl⟩ hO
  refine l_y rfl rfl (y_assign rfl) ?_
  refine K2 (K3 (K6 ?_))
  exact fin1 rfl rfl ⟨_, ⟨rfl, rfl⟩, hO.none⟩
theorem ValidRune_spec (h0 : 0 ≤ r) (h1 : r ≤ 1114111) (h2 : r < 55296 ∨ 57343 < r) (hO : Own k w []) : Tri Try.prog 41 #[.int .i32 r] k w fun v m => v = .bool true ∧ m = [] := by
  refine enter (args := [.int .i32 r]) Try.func41 rfl rfl ?_
  refine K0 (K1 ?_)
  refine l_y rfl rfl (y_assign rfl) ?_
  refine K2 (K3 (K0 (K4 (K0 (K1 ?_)))))
  refine l_y rfl rfl (y_move rfl) ?_
  refine Z0 (fun h1_1 => ?_) (fun h1_1 => ?_)
  · refine l_y rfl rfl (y_move rfl) ?_
    refine l_y rfl rfl (y_move rfl) ?_
    refine Z0 (fun h1_4 => ?_) (fun h1_4 => ?_)
    · refine l_y rfl rfl (y_pick_t rfl rfl) ?_
      refine l_y rfl rfl (y_assign rfl) ?_
      refine K2 (K3 (L8 (K0 (K1 ?_))))
      refine l_y rfl rfl (y_assign rfl) ?_
      refine K2 (K3 (K6 (L0 (K9 ?_))))
      first | exact fin1 rfl rfl ⟨_, ⟨rfl, rfl⟩, hO.none⟩ | (exfalso; omega)
    · refine l_y rfl rfl (y_pick_t rfl rfl) ?_
      refine l_y rfl rfl (y_assign rfl) ?_
      refine K2 (K3 (L9 (K0 (K1 ?_))))
      refine l_y rfl rfl (y_move rfl) ?_
      refine Z0 (fun h3_1 => ?_) (fun h3_1 => ?_)
      · refine l_y rfl rfl (y_move rfl) ?_
        refine l_y rfl rfl (y_move rfl) ?_
        refine Z0 (fun h3_4 => ?_) (fun h3_4 => ?_)
        · refine l_y rfl rfl (y_pick_t rfl rfl) ?_
          refine l_y rfl rfl (y_assign rfl) ?_
          refine K2 (K3 (L8 (K0 (K1 ?_))))
          refine l_y rfl rfl (y_assign rfl) ?_
          refine K2 (K3 (K6 (L0 (K9 ?_))))
          first | exact fin1 rfl rfl ⟨_, ⟨rfl, rfl⟩, hO.none⟩ | (exfalso; omega)
        · refine l_y rfl rfl (y_pick_t rfl rfl) ?_
          refine l_y rfl rfl (y_assign rfl) ?_
          refine K2 (K3 (L9 (K5 (K8 (K3 (K0 (K1 ?_)))))))
          refine l_y rfl rfl (y_assign rfl) ?_
          refine K2 (K3 (K6 ?_))
          first | exact fin1 rfl rfl ⟨_, ⟨rfl, rfl⟩, hO.none⟩ | (exfalso; omega)
      · refine l_y rfl rfl (y_move rfl) ?_
        repeat refine M2 ?_
        refine l_y rfl rfl (y_pick_f rfl rfl) ?_
        refine l_y rfl rfl (y_assign rfl) ?_
        refine K2 (K3 (L9 (K5 (K8 (K3 (K0 (K1 ?_)))))))
        refine l_y rfl rfl (y_assign rfl) ?_
        refine K2 (K3 (K6 ?_))
        first | exact fin1 rfl rfl ⟨_, ⟨rfl, rfl⟩, hO.none⟩ | (exfalso; omega)
  · refine l_y rfl rfl (y_move rfl) ?_
    repeat refine M2 ?_
    refine l_y rfl rfl (y_pick_f rfl rfl) ?_
    refine l_y rfl rfl (y_assign rfl) ?_
    refine K2 (K3 (L9 (K0 (K1 ?_))))
    refine l_y rfl rfl (y_move rfl) ?_
    refine Z0 (fun h3_1 => ?_) (fun h3_1 => ?_)
    · refine l_y rfl rfl (y_move rfl) ?_
      refine l_y rfl rfl (y_move rfl) ?_
      refine Z0 (fun h3_4 => ?_) (fun h3_4 => ?_)
      · refine l_y rfl rfl (y_pick_t rfl rfl) ?_
        refine l_y rfl rfl (y_assign rfl) ?_
        refine K2 (K3 (L8 (K0 (K1 ?_))))
        refine l_y rfl rfl (y_assign rfl) ?_
        refine K2 (K3 (K6 (L0 (K9 ?_))))
        first | exact fin1 rfl rfl ⟨_, ⟨rfl, rfl⟩, hO.none⟩ | (exfalso; omega)
      · refine l_y rfl rfl (y_pick_t rfl rfl) ?_
        refine l_y rfl rfl (y_assign rfl) ?_
        refine K2 (K3 (L9 (K5 (K8 (K3 (K0 (K1 ?_)))))))
        refine l_y rfl rfl (y_assign rfl) ?_
        refine K2 (K3 (K6 ?_))
        first | exact fin1 rfl rfl ⟨_, ⟨rfl, rfl⟩, hO.none⟩ | (exfalso; omega)
    · refine l_y rfl rfl (y_move rfl) ?_
      repeat refine M2 ?_
      refine l_y rfl rfl (y_pick_f rfl rfl) ?_
      refine l_y rfl rfl (y_assign rfl) ?_
      refine K2 (K3 (L9 (K5 (K8 (K3 (K0 (K1 ?_)))))))
      refine l_y rfl rfl (y_assign rfl) ?_
      refine K2 (K3 (K6 ?_))
      first | exact fin1 rfl rfl ⟨_, ⟨rfl, rfl⟩, hO.none⟩ | (exfalso; omega)
set_option maxHeartbeats 1000000 in
theorem IndexRune_spec (h0 : 0 ≤ r) (h1 : r ≤ 1114111) (h2 : r < 55296 ∨ 57343 < r) (hO : Own k w []) : Tri Try.prog 36 #[.string nameS, .int .i32 r] k w fun v m => ∃ j : Int, (0 ≤ j ↔ r < 128 ∧ nameC.contains (UInt8.ofNat r.toNat) = true) ∧ v = .int .i64 j ∧ m = [] := by
  refine enter (args := [.string nameS, .int .i32 r]) Try.func36 rfl rfl ?_
  have hz := nameS_sz
  refine K0 (K1 ?_)
  refine l_y rfl rfl (y_assign rfl) ?_
  refine K2 (K3 (K4 (K0 (K1 ?_))))
  refine l_y rfl rfl (y_move rfl) ?_
  refine N2 (hp := (by omega)) ?_
  refine l_y rfl rfl (y_move rfl) ?_
  refine l_y rfl rfl (y_move rfl) ?_
  refine Z0 (fun h34_4 => ?_) (fun h34_4 => ?_)
  · refine l_y rfl rfl (y_pick_t rfl rfl) ?_
    refine l_y rfl rfl (y_assign rfl) ?_
    refine K2 (K3 (L8 (K0 (K1 ?_))))
    refine l_y rfl rfl (y_move rfl) ?_
    refine l_y rfl rfl (y_move rfl) ?_
    refine l_y rfl rfl (y_convI (r := ((UInt8.ofNat r.toNat).toNat : Int)) rfl (u8_wrap h0 (by omega))) ?_
    refine CK [] hO rfl (fun k' hx hr hO' => IndexByte_spec (hO := hO')) ?_
    rintro _ _ w ⟨rfl, rfl⟩ hO
    refine l_y rfl rfl (y_assign rfl) ?_
    refine K2 (K3 (K6 (L0 ?_)))
    exact fin1 rfl rfl ⟨_, ⟨_, by rw [contains_iff_indexByte, ← tl_nameS, decide_eq_true_eq]; exact ⟨fun h => ⟨by omega, h⟩, fun h => h.2⟩, rfl, rfl⟩, hO.none⟩
  · refine l_y rfl rfl (y_pick_t rfl rfl) ?_
    refine l_y rfl rfl (y_assign rfl) ?_
    refine K2 (K3 (L9 (K0 (K1 ?_))))
    refine l_y rfl rfl (y_move rfl) ?_
    refine Z0 (fun h36_1 => ?_) (fun h36_1 => ?_)
    · refine l_y rfl rfl (y_assign rfl) ?_
      refine K2 (K3 (L8 (K0 (K0 (K1 ?_)))))
      refine l_y rfl rfl (y_move rfl) ?_
      refine s_rangeS hO rfl rfl rfl (fun bi w hO => ?_)
      refine K2 (K3 (K4 ?_))
      refine c_rounds (X := Nat) (fun p => [(4, .int .i64 0), (175, .pointer (some ⟨bi, 0, none⟩))]) (fun p w => Own k w [obj bi (.stringIter nameS p)] ∧ (p ≤ 12)) (fun p => 12 - p) (0) ⟨rfl, rfl, trivial⟩ ⟨hO.only [.o bi], Nat.zero_le _⟩ ?_
      rintro p w m hm ⟨hO, hp⟩
      refine K0 (K1 ?_)
      refine s_nextU hO rfl (fun w hO => ?_)
      refine l_y rfl rfl (y_next0 rfl) ?_
      refine K2 (K3 (K0 ?_))
      refine c_split rfl (fun hc177 => ?_) (fun hc177 => ?_)
      · refine K5 (K3 (K4 (K0 ?_)))
        have hlt : p < nameS.size := by simpa using hc177
        have hdc := (name_dec ⟨p, by omega⟩).1
        refine K1 ?_
        refine l_y rfl rfl (y_next1 rfl hlt) ?_
        refine l_y rfl rfl (y_next2 rfl hlt) ?_
        refine l_y rfl rfl (y_assign rfl) ?_
        refine l_y rfl rfl (y_assign rfl) ?_
        refine K2 (K3 (K0 (K1 ?_)))
        refine l_y rfl rfl (y_move rfl) ?_
        refine N3 (hp := (by simp only at hdc; omega)) ?_
        refine K2 (K3 (L9 (K5 (K8 ?_))))
        exact q_next (nextP nameS p) ⟨rfl, rfl, trivial⟩ ⟨hO.only [.o bi], by rw [nextP, if_pos (by omega), (name_dec ⟨p, by omega⟩).2]; omega⟩ (by rw [nextP, if_pos (by omega), (name_dec ⟨p, by omega⟩).2]; omega)
      · refine K7 (L1 (L1 (L2 (K3 (K0 (K1 ?_))))))
        refine l_y rfl rfl (y_assign rfl) ?_
        refine K2 (K3 (K6 (L0 ?_)))
        exact fin1 rfl rfl ⟨_, ⟨-1, ⟨fun h => absurd h (by decide), fun h => by omega⟩, rfl, rfl⟩, hO.none⟩
    · refine l_y rfl rfl (y_assign rfl) ?_
      refine K2 (K3 (L9 (K0 (K1 ?_))))
      refine l_y rfl rfl (y_move rfl) ?_
      refine CK [] hO rfl (fun k' hx hr hO' => ValidRune_spec h0 h1 h2 (hO := hO')) ?_
      rintro _ _ w ⟨rfl, rfl⟩ hO
      obtain ⟨e, c, he1, he2, he3, he4⟩ := enc_last (r := r) (by omega) h1 h2
      refine l_y rfl rfl (y_not rfl rfl) ?_
      refine l_y rfl rfl (y_assign rfl) ?_
      refine K2 (K3 (L9 (L6 (K0 (K1 ?_)))))
      refine l_y rfl rfl (y_move rfl) ?_
      refine l_y rfl rfl (y_convert (v' := .string (Utf8.encode r)) rfl (by simp [convert, run_underlying Try.underlying21, run_underlying Try.underlying9, Conv.intToString])) ?_
      refine l_y rfl rfl (y_assign rfl) ?_
      refine K2 (K3 (K0 (K1 ?_)))
      refine l_y rfl rfl (y_move rfl) ?_
      refine l_y rfl rfl (y_lenS rfl) ?_
      refine l_y rfl rfl (D4) ?_
      refine l_y rfl rfl (y_assign rfl) ?_
      refine K2 (K3 (K0 (K1 ?_)))
      refine l_y rfl rfl (y_move rfl) ?_
      refine l_y rfl rfl (y_assign rfl) ?_
      refine K2 (K3 (K0 (K1 ?_)))
      refine l_y rfl rfl (y_assign rfl) ?_
      refine K2 (K3 (K0 (K4 ?_)))
      refine c_rounds (X := Unit) (fun _u => [(0, .string nameS), (1, .int .i32 r), (4, .int .i64 0), (7, .string (Utf8.encode r)), (8, .int .i64 (((((Utf8.encode r)).size : Nat) : Int) - 1)), (9, .int .i64 ((((Utf8.encode r).size : Nat) : Int) - 1)), (10, .int .i64 0)]) (fun _u w => Own k w [] ∧ (True)) (fun _u => 0) (()) ⟨rfl, rfl, rfl, rfl, rfl, rfl, rfl, trivial⟩ ⟨hO.only [], trivial⟩ ?_
      rintro _u w m hm ⟨hO, hT0⟩
      refine K0 (K0 (K1 ?_))
      refine l_y rfl rfl (y_move rfl) ?_
      refine l_y rfl rfl (y_move rfl) ?_
      refine l_y rfl rfl (y_lenS rfl) ?_
      refine Z0 (fun h5_3 => ?_) (fun h5_3 => ?_)
      · refine K2 (K3 (L8 (K5 (K3 (K4 (L6 (K0 (K0 ?_))))))))
        have hen : ((((Utf8.encode r).size : Nat) : Int) - 1).toNat = e := by omega
        obtain ⟨c0, hc0, hc0l⟩ := name_at ⟨e, by omega⟩
        simp only at hc0
        rw [← hen] at hc0 he3
        refine da_region (by intro c a d v w h; cases d <;> exact h) ?_
        have hO := hO.drew
        refine da_phase _ [] (SO.ks [] hO) ?_
        refine dx_u 0 (by kernel_rfl) rfl rfl rfl (fun w => y_move rfl) ?_
        refine dx_u 1 (by kernel_rfl) rfl rfl rfl (fun w => y_move rfl) ?_
        refine dx_y 2 (by kernel_rfl) rfl rfl rfl (fun w ⟨m, hw⟩ => y_indexS (c := c0) rfl rfl (by omega) hc0) ?_
        refine dx_u 3 (by kernel_rfl) rfl rfl rfl (fun w => y_move rfl) ?_
        refine dx_u 4 (by kernel_rfl) rfl rfl rfl (fun w => y_move rfl) ?_
        refine dx_y 5 (by kernel_rfl) rfl rfl rfl (fun w ⟨m, hw⟩ => y_indexS (c := c) rfl rfl (by omega) he3) ?_
        refine dx_y 6 (by kernel_rfl) rfl rfl rfl (fun w ⟨m, hw⟩ => D3 (hp := (by omega))) ?_
        refine dx_end (by kernel_rfl) ?_
        refine K3 (L8 (K0 ?_))
        refine da_region (by intro c a d v w h; cases d <;> exact h) ?_
        have hO := hO.drew
        refine da_phase _ [7] (SO.ks [] hO) ?_
        refine dx_u 0 (by kernel_rfl) rfl rfl rfl (fun w => y_move rfl) ?_
        refine dx_u 1 (by kernel_rfl) rfl rfl rfl (fun w => y_move rfl) ?_
        refine dx_u 2 (by kernel_rfl) rfl rfl rfl (fun w => D4) ?_
        refine dx_u 3 (by kernel_rfl) rfl rfl rfl (fun w => y_subFrom rfl rfl (by omega) (by omega)) ?_
        refine dx_u 4 (by kernel_rfl) rfl rfl rfl (fun w => y_move rfl) ?_
        refine dx_u 5 (by kernel_rfl) rfl rfl rfl (fun w => y_move rfl) ?_
        refine dx_y 6 (by kernel_rfl) rfl rfl rfl (fun w ⟨m, hw⟩ => y_indexS (c := c) rfl rfl (by omega) he3) ?_
        refine dx_close 7 (by kernel_rfl) rfl rfl ?_
        refine CK [] hO rfl (fun k' hx hr hO' => IndexByte_spec (c := c) (hO := hO')) ?_
        rintro _ _ w ⟨rfl, rfl⟩ hO
        refine o_done ?_
        refine da_phase _ [] (SO.ks [] hO) ?_
        refine dx_u 8 (by kernel_rfl) rfl rfl rfl (fun w => y_assign rfl) ?_
        refine dx_end (by kernel_rfl) ?_
        refine K3 (K0 (K0 (K1 ?_)))
        refine l_y rfl rfl (y_move rfl) ?_
        refine N2 (hp := (high_none he4 _ _)) ?_
        refine K2 (K3 (L8 (K0 (K1 ?_))))
        refine l_y rfl rfl (y_assign rfl) ?_
        refine K2 (K3 (K6 (K9 (K9 (L4 (L0 (K9 (L0 (K9 (L4 (L0 ?_)))))))))))
        exact fin1 rfl rfl ⟨_, ⟨-1, ⟨fun h => absurd h (by decide), fun h => by omega⟩, rfl, rfl⟩, hO.none⟩
      · refine K2 (K3 (L9 (K7 (L1 (L1 (L2 (K3 (K0 (K0 (K1 ?_))))))))))
        refine l_y rfl rfl (y_assign rfl) ?_
        refine K2 (K3 (K6 (K9 (L4 (L0 ?_)))))
        exact (h5_3 (by omega)).elim
end
end Go.Proofs.YtgglpocdelnfcaaRRRR
