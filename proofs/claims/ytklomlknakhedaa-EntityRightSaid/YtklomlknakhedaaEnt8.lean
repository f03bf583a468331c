/- What a number means: both walks, and EntityNumbers'. -/
import Derived.Test.YtklomlknakhedaaEnt3
set_option linter.unusedVariables false
set_option linter.unusedSimpArgs false
set_option maxRecDepth 100000
namespace Go.Proofs.Ytklomlknakhedaa
open Go Go.Hb Go.RowKit
def OT : List (Int × Int) := [(128, 8364), (130, 8218), (131, 402), (132, 8222), (133, 8230), (134, 8224), (135, 8225), (136, 710), (137, 8240), (138, 352), (139, 8249), (140, 338), (142, 381), (145, 8216), (146, 8217), (147, 8220), (148, 8221), (149, 8226), (150, 8211), (151, 8212), (152, 732), (153, 8482), (154, 353), (155, 8250), (156, 339), (158, 382), (159, 376)]
abbrev frL : List Int := [128, 130, 131, 132, 133, 134, 135, 136, 137, 138, 139, 140, 142, 145, 146, 147, 148, 149, 150, 151, 152, 153, 154, 155, 156, 158, 159]
abbrev toL : List Int := [8364, 8218, 402, 8222, 8230, 8224, 8225, 710, 8240, 352, 8249, 338, 381, 8216, 8217, 8220, 8221, 8226, 8211, 8212, 732, 8482, 353, 8250, 339, 382, 376]
def numF (n : Int) : Int × ByteArray :=
  if n = 0 then (65533, ⟨#[110, 117, 108, 108, 45, 99, 104, 97, 114, 97, 99, 116, 101, 114, 45, 114, 101, 102, 101, 114, 101, 110, 99, 101]⟩) else if n < 0 ∨ 1114111 < n then (65533, ⟨#[99, 104, 97, 114, 97, 99, 116, 101, 114, 45, 114, 101, 102, 101, 114, 101, 110, 99, 101, 45, 111, 117, 116, 115, 105, 100, 101, 45, 117, 110, 105, 99, 111, 100, 101, 45, 114, 97, 110, 103, 101]⟩)
  else if 55296 ≤ n ∧ n ≤ 57343 then (65533, ⟨#[115, 117, 114, 114, 111, 103, 97, 116, 101, 45, 99, 104, 97, 114, 97, 99, 116, 101, 114, 45, 114, 101, 102, 101, 114, 101, 110, 99, 101]⟩)
  else if 65534 ≤ n % 65536 ∨ (64976 ≤ n ∧ n ≤ 65007) then (n, ⟨#[110, 111, 110, 99, 104, 97, 114, 97, 99, 116, 101, 114, 45, 99, 104, 97, 114, 97, 99, 116, 101, 114, 45, 114, 101, 102, 101, 114, 101, 110, 99, 101]⟩)
  else if (n < 32 ∧ n ≠ 9 ∧ n ≠ 10 ∧ n ≠ 12) ∨ (127 ≤ n ∧ n ≤ 159) then ((look' OT n).getD n, ⟨#[99, 111, 110, 116, 114, 111, 108, 45, 99, 104, 97, 114, 97, 99, 116, 101, 114, 45, 114, 101, 102, 101, 114, 101, 110, 99, 101]⟩) else (n, ⟨#[]⟩)
theorem OT_small : ∀ p ∈ OT, 0 ≤ p.2 ∧ p.2 < 55296 := by decide
theorem look_small {n v : Int} (h : look' OT n = some v) : 0 ≤ v ∧ v < 55296 := by
  rw [look', Option.map_eq_some_iff] at h
  obtain ⟨p, hp, rfl⟩ := h
  exact OT_small p (List.mem_of_find?_eq_some hp)
theorem means_small {n : Int} (h : 0 ≤ n ∧ n < 55296) : 0 ≤ (look' OT n).getD n ∧ (look' OT n).getD n < 55296 := by
  cases hl : look' OT n with
  | none => exact h
  | some v => exact look_small hl
theorem nat_and (n : Nat) : n &&& 65534 = 2 * ((n / 2) % 32768) := by
  have h1 : (n &&& 65534) / 2 = (n / 2) % 32768 := by
    rw [Nat.and_div_two]
    exact Nat.and_two_pow_sub_one_eq_mod (n / 2) 15
  have h2 : (n &&& 65534) % 2 = 0 := by
    have := @Nat.and_mod_two_pow n 65534 1
    simpa using this
  omega
theorem int_and {n : Int} (h0 : 0 ≤ n) (h1 : n ≤ 1114111) : IntKind.i64.wrap ((BitVec.ofInt IntKind.i64.bits n &&& BitVec.ofInt IntKind.i64.bits 65534).toNat : Int) = 2 * ((n / 2) % 32768) := by
  obtain ⟨m, rfl⟩ := Int.eq_ofNat_of_zero_le h0
  have e1 : (BitVec.ofInt IntKind.i64.bits (m : Int)).toNat = m := by
    show (BitVec.ofInt 64 (m : Int)).toNat = m
    rw [BitVec.toNat_ofInt]; omega
  have e2 : (BitVec.ofInt IntKind.i64.bits 65534).toNat = 65534 := by decide
  rw [BitVec.toNat_and, e1, e2, nat_and, w64 (by omega) (by omega)]
  omega
theorem fr_at {i : Nat} (h : i < 27) : at_ frL i = (at_ OT i).1 := by
  have : ∀ i : Fin 27, at_ frL i.1 = (at_ OT i.1).1 := by decide
  exact this ⟨i, h⟩
theorem to_at {i : Nat} (h : i < 27) : at_ toL i = (at_ OT i).2 := by
  have : ∀ i : Fin 27, at_ toL i.1 = (at_ OT i.1).2 := by decide
  exact this ⟨i, h⟩
section
variable {k : Ctx} {w : World} {n : Int}
set_option maxHeartbeats 1000000 in
theorem others_spec (hO : Own k w []) : Tri Try.prog 28 #[] k w fun v m => ∃ b, v = .map (some b) ∧ m = [mpI b .i64 .i32 OT] := by
  refine enter (args := []) Try.func28 rfl rfl ?_
  refine K0 (K1 ?_)
  refine l_y rfl rfl (y_assign rfl) ?_
  refine K2 (K3 (K0 (K1 ?_)))
  refine s_makeMapI .i64 .i32 hO (fun b w hO => ?_)
  refine s_insertI (OT.take 1) hO rfl rfl rfl (by decide) (by rfl) (fun w hO => ?_)
  refine s_insertI (OT.take 2) hO rfl rfl rfl (by decide) (by rfl) (fun w hO => ?_)
  refine s_insertI (OT.take 3) hO rfl rfl rfl (by decide) (by rfl) (fun w hO => ?_)
  refine s_insertI (OT.take 4) hO rfl rfl rfl (by decide) (by rfl) (fun w hO => ?_)
  refine s_insertI (OT.take 5) hO rfl rfl rfl (by decide) (by rfl) (fun w hO => ?_)
  refine s_insertI (OT.take 6) hO rfl rfl rfl (by decide) (by rfl) (fun w hO => ?_)
  refine s_insertI (OT.take 7) hO rfl rfl rfl (by decide) (by rfl) (fun w hO => ?_)
  refine s_insertI (OT.take 8) hO rfl rfl rfl (by decide) (by rfl) (fun w hO => ?_)
  refine s_insertI (OT.take 9) hO rfl rfl rfl (by decide) (by rfl) (fun w hO => ?_)
  refine s_insertI (OT.take 10) hO rfl rfl rfl (by decide) (by rfl) (fun w hO => ?_)
  refine s_insertI (OT.take 11) hO rfl rfl rfl (by decide) (by rfl) (fun w hO => ?_)
  refine s_insertI (OT.take 12) hO rfl rfl rfl (by decide) (by rfl) (fun w hO => ?_)
  refine s_insertI (OT.take 13) hO rfl rfl rfl (by decide) (by rfl) (fun w hO => ?_)
  refine s_insertI (OT.take 14) hO rfl rfl rfl (by decide) (by rfl) (fun w hO => ?_)
  refine s_insertI (OT.take 15) hO rfl rfl rfl (by decide) (by rfl) (fun w hO => ?_)
  refine s_insertI (OT.take 16) hO rfl rfl rfl (by decide) (by rfl) (fun w hO => ?_)
  refine s_insertI (OT.take 17) hO rfl rfl rfl (by decide) (by rfl) (fun w hO => ?_)
  refine s_insertI (OT.take 18) hO rfl rfl rfl (by decide) (by rfl) (fun w hO => ?_)
  refine s_insertI (OT.take 19) hO rfl rfl rfl (by decide) (by rfl) (fun w hO => ?_)
  refine s_insertI (OT.take 20) hO rfl rfl rfl (by decide) (by rfl) (fun w hO => ?_)
  refine s_insertI (OT.take 21) hO rfl rfl rfl (by decide) (by rfl) (fun w hO => ?_)
  refine s_insertI (OT.take 22) hO rfl rfl rfl (by decide) (by rfl) (fun w hO => ?_)
  refine s_insertI (OT.take 23) hO rfl rfl rfl (by decide) (by rfl) (fun w hO => ?_)
  refine s_insertI (OT.take 24) hO rfl rfl rfl (by decide) (by rfl) (fun w hO => ?_)
  refine s_insertI (OT.take 25) hO rfl rfl rfl (by decide) (by rfl) (fun w hO => ?_)
  refine s_insertI (OT.take 26) hO rfl rfl rfl (by decide) (by rfl) (fun w hO => ?_)
  refine s_insertI (OT.take 27) hO rfl rfl rfl (by decide) (by rfl) (fun w hO => ?_)
  refine l_y rfl rfl (y_move rfl) ?_
  refine l_y rfl rfl (y_assign rfl) ?_
  refine K2 (K3 (K6 ?_))
  exact fin1 rfl rfl ⟨_, ⟨b, rfl, rfl⟩, hO⟩
set_option maxHeartbeats 1000000 in
theorem means_spec (hO : Own k w []) : Tri Try.prog 29 #[.int .i64 n] k w fun v m => v = .int .i64 ((look' OT n).getD n) ∧ m = [] := by
  refine enter (args := [.int .i64 n]) Try.func29 rfl rfl ?_
  have zF : frL.length = 27 := by kernel_rfl
  have zT : toL.length = 27 := by kernel_rfl
  have zO : OT.length = 27 := by kernel_rfl
  refine K0 (K1 ?_)
  refine l_y rfl rfl (y_assign rfl) ?_
  refine K2 (K3 (K0 (K1 ?_)))
  refine s_lit (parts := [(0, .const (.int .i64 128)), (1, .const (.int .i64 130)), (2, .const (.int .i64 131)), (3, .const (.int .i64 132)), (4, .const (.int .i64 133)), (5, .const (.int .i64 134)), (6, .const (.int .i64 135)), (7, .const (.int .i64 136)), (8, .const (.int .i64 137)), (9, .const (.int .i64 138)), (10, .const (.int .i64 139)), (11, .const (.int .i64 140)), (12, .const (.int .i64 142)), (13, .const (.int .i64 145)), (14, .const (.int .i64 146)), (15, .const (.int .i64 147)), (16, .const (.int .i64 148)), (17, .const (.int .i64 149)), (18, .const (.int .i64 150)), (19, .const (.int .i64 151)), (20, .const (.int .i64 152)), (21, .const (.int .i64 153)), (22, .const (.int .i64 154)), (23, .const (.int .i64 155)), (24, .const (.int .i64 156)), (25, .const (.int .i64 158)), (26, .const (.int .i64 159))]) (enc := (eI .i64)) [128, 130, 131, 132, 133, 134, 135, 136, 137, 138, 139, 140, 142, 145, 146, 147, 148, 149, 150, 151, 152, 153, 154, 155, 156, 158, 159] [.int .i64 128, .int .i64 130, .int .i64 131, .int .i64 132, .int .i64 133, .int .i64 134, .int .i64 135, .int .i64 136, .int .i64 137, .int .i64 138, .int .i64 139, .int .i64 140, .int .i64 142, .int .i64 145, .int .i64 146, .int .i64 147, .int .i64 148, .int .i64 149, .int .i64 150, .int .i64 151, .int .i64 152, .int .i64 153, .int .i64 154, .int .i64 155, .int .i64 156, .int .i64 158, .int .i64 159] hO rfl (fun b6 w hO => ?_)
  refine l_y rfl rfl (y_assign rfl) ?_
  refine K2 (K3 (K0 (K1 ?_)))
  refine s_lit (parts := [(0, .const (.int .i64 8364)), (1, .const (.int .i64 8218)), (2, .const (.int .i64 402)), (3, .const (.int .i64 8222)), (4, .const (.int .i64 8230)), (5, .const (.int .i64 8224)), (6, .const (.int .i64 8225)), (7, .const (.int .i64 710)), (8, .const (.int .i64 8240)), (9, .const (.int .i64 352)), (10, .const (.int .i64 8249)), (11, .const (.int .i64 338)), (12, .const (.int .i64 381)), (13, .const (.int .i64 8216)), (14, .const (.int .i64 8217)), (15, .const (.int .i64 8220)), (16, .const (.int .i64 8221)), (17, .const (.int .i64 8226)), (18, .const (.int .i64 8211)), (19, .const (.int .i64 8212)), (20, .const (.int .i64 732)), (21, .const (.int .i64 8482)), (22, .const (.int .i64 353)), (23, .const (.int .i64 8250)), (24, .const (.int .i64 339)), (25, .const (.int .i64 382)), (26, .const (.int .i64 376))]) (enc := (eI .i64)) [8364, 8218, 402, 8222, 8230, 8224, 8225, 710, 8240, 352, 8249, 338, 381, 8216, 8217, 8220, 8221, 8226, 8211, 8212, 732, 8482, 353, 8250, 339, 382, 376] [.int .i64 8364, .int .i64 8218, .int .i64 402, .int .i64 8222, .int .i64 8230, .int .i64 8224, .int .i64 8225, .int .i64 710, .int .i64 8240, .int .i64 352, .int .i64 8249, .int .i64 338, .int .i64 381, .int .i64 8216, .int .i64 8217, .int .i64 8220, .int .i64 8221, .int .i64 8226, .int .i64 8211, .int .i64 8212, .int .i64 732, .int .i64 8482, .int .i64 353, .int .i64 8250, .int .i64 339, .int .i64 382, .int .i64 376] hO rfl (fun b7 w hO => ?_)
  refine l_y rfl rfl (y_assign rfl) ?_
  refine K2 (K3 (K0 (K0 ?_)))
  refine K1 ?_
  refine l_y rfl rfl (y_assign rfl) ?_
  refine K2 (K3 (K4 ?_))
  refine c_rounds (X := Nat) (fun i => [(0, .int .i64 n), (2, .int .i64 0), (3, .slice (some ⟨b6, 0, none⟩) frL.length 27), (4, .slice (some ⟨b7, 0, none⟩) toL.length 27), (5, .int .i64 (i : Int))]) (fun i w => Own k w [sls (some ⟨b6, 0, none⟩) 27 3 1 (eI .i64) frL, sls (some ⟨b7, 0, none⟩) 27 3 1 (eI .i64) toL] ∧ (i ≤ 27) ∧ ((OT.take i).find? (fun p => p.1 == n) = none)) (fun i => 27 - i) (0) ⟨rfl, rfl, rfl, rfl, rfl, trivial⟩ ⟨hO.only [.p (some ⟨b6, 0, none⟩), .p (some ⟨b7, 0, none⟩)], Nat.zero_le _, rfl⟩ ?_
  rintro i w m hm ⟨hO, hi, hf⟩
  refine K0 (K0 (K1 ?_))
  refine l_y rfl rfl (y_move rfl) ?_
  refine l_y rfl rfl (y_move rfl) ?_
  refine l_y rfl rfl (y_lenL rfl) ?_
  refine Z0 (fun h4_3 => ?_) (fun h4_3 => ?_)
  · refine K2 (K3 (L8 (K5 (K3 (K0 (K4 (K0 ?_)))))))
    have hg1 : Gs (some ⟨b6, 0, none⟩) frL.length := Gs.some _ _ _
    have hg2 : Gs (some ⟨b7, 0, none⟩) toL.length := Gs.some _ _ _
    refine K1 ?_
    refine l_y rfl rfl (y_move rfl) ?_
    refine l_y rfl rfl (y_move rfl) ?_
    refine l_y rfl rfl (y_idx rfl rfl) ?_
    refine l_y rfl rfl (y_e1 (x0 := 0) hO rfl) ?_
    refine l_y rfl rfl (y_move rfl) ?_
    refine Z0 (fun h6_5 => ?_) (fun h6_5 => ?_)
    · refine K2 (K3 (L8 (K0 (K1 ?_))))
      refine l_y rfl rfl (y_move rfl) ?_
      refine l_y rfl rfl (y_move rfl) ?_
      refine l_y rfl rfl (y_idx rfl rfl) ?_
      refine l_y rfl rfl (y_e1 (x0 := 0) hO rfl) ?_
      refine l_y rfl rfl (y_assign rfl) ?_
      refine K2 (K3 (K6 (L0 (K9 (K9 (L0 (K9 ?_)))))))
      have e : look' OT n = some (at_ OT i).2 := by rw [look', find_take hf (by omega) (by rw [← fr_at (by omega)]; exact beq_iff_eq.2 h6_5)]; rfl
      rw [e]
      exact fin1 rfl rfl ⟨_, ⟨by rw [← to_at (by omega)]; rfl, rfl⟩, hO.none⟩
    · refine K2 (K3 (L9 (K5 (K8 (K3 (K1 ?_))))))
      refine l_y rfl rfl (y_move rfl) ?_
      refine l_y rfl rfl (D4) ?_
      refine l_y rfl rfl (y_assign rfl) ?_
      refine K2 ?_
      exact q_next (i + 1) ⟨rfl, rfl, rfl, rfl, rfl, trivial⟩ ⟨hO.only [.p (some ⟨b6, 0, none⟩), .p (some ⟨b7, 0, none⟩)], by omega, find_next hf (by omega) (fun hh => h6_5 (by rw [fr_at (by omega)]; exact eq_of_beq hh))⟩ (by omega)
  · refine K2 (K3 (L9 (K7 (L1 (L1 (L2 (K3 (K0 (K1 ?_)))))))))
    refine l_y rfl rfl (y_move rfl) ?_
    refine l_y rfl rfl (y_assign rfl) ?_
    refine K2 (K3 (K6 ?_))
    have e : look' OT n = none := by rw [look', ← List.take_of_length_le (l := OT) (i := i) (by omega), hf]; rfl
    rw [e]
    exact fin1 rfl rfl ⟨_, ⟨rfl, rfl⟩, hO.none⟩
set_option maxHeartbeats 1000000 in
theorem Number_spec (hO : Own k w []) : Tri Try.prog 17 #[.int .i64 n] k w fun v m => v = .tuple #[.int .i32 (numF n).1, .string (numF n).2] ∧ m = [] := by
  refine enter (args := [.int .i64 n]) Try.func17 rfl rfl ?_
  refine K0 (K1 ?_)
  refine l_y rfl rfl (y_assign rfl) ?_
  refine l_y rfl rfl (y_assign rfl) ?_
  refine K2 (K3 (K0 (K4 (K0 (K1 ?_)))))
  refine l_y rfl rfl (y_move rfl) ?_
  refine Z0 (fun h1_1 => ?_) (fun h1_1 => ?_)
  · refine l_y rfl rfl (y_assign rfl) ?_
    refine K2 (K3 (L8 (K0 (K1 ?_))))
    refine l_y rfl rfl (y_assign rfl) ?_
    refine l_y rfl rfl (y_assign rfl) ?_
    refine K2 (K3 (K6 (L0 (K9 ?_))))
    have e : numF n = (65533, ⟨#[110, 117, 108, 108, 45, 99, 104, 97, 114, 97, 99, 116, 101, 114, 45, 114, 101, 102, 101, 114, 101, 110, 99, 101]⟩) := by rw [numF, if_pos (by omega)]
    rw [e]; exact fin2 rfl rfl rfl ⟨_, ⟨rfl, rfl⟩, hO.none⟩
  · refine l_y rfl rfl (y_assign rfl) ?_
    refine K2 (K3 (L9 (K0 (K1 ?_))))
    refine l_y rfl rfl (y_move rfl) ?_
    refine Z0 (fun h3_1 => ?_) (fun h3_1 => ?_)
    · refine l_y rfl rfl (y_move rfl) ?_
      repeat refine M2 ?_
      refine l_y rfl rfl (y_pick_t rfl rfl) ?_
      refine l_y rfl rfl (y_assign rfl) ?_
      refine K2 (K3 (L8 (K0 (K1 ?_))))
      refine l_y rfl rfl (y_assign rfl) ?_
      refine l_y rfl rfl (y_assign rfl) ?_
      refine K2 (K3 (K6 (L0 (K9 ?_))))
      have e : numF n = (65533, ⟨#[99, 104, 97, 114, 97, 99, 116, 101, 114, 45, 114, 101, 102, 101, 114, 101, 110, 99, 101, 45, 111, 117, 116, 115, 105, 100, 101, 45, 117, 110, 105, 99, 111, 100, 101, 45, 114, 97, 110, 103, 101]⟩) := by rw [numF, if_neg (by omega), if_pos (by omega)]
      rw [e]; exact fin2 rfl rfl rfl ⟨_, ⟨rfl, rfl⟩, hO.none⟩
    · refine l_y rfl rfl (y_move rfl) ?_
      refine l_y rfl rfl (y_move rfl) ?_
      refine Z0 (fun h3_4 => ?_) (fun h3_4 => ?_)
      · refine l_y rfl rfl (y_pick_f rfl rfl) ?_
        refine l_y rfl rfl (y_assign rfl) ?_
        refine K2 (K3 (L8 (K0 (K1 ?_))))
        refine l_y rfl rfl (y_assign rfl) ?_
        refine l_y rfl rfl (y_assign rfl) ?_
        refine K2 (K3 (K6 (L0 (K9 ?_))))
        have e : numF n = (65533, ⟨#[99, 104, 97, 114, 97, 99, 116, 101, 114, 45, 114, 101, 102, 101, 114, 101, 110, 99, 101, 45, 111, 117, 116, 115, 105, 100, 101, 45, 117, 110, 105, 99, 111, 100, 101, 45, 114, 97, 110, 103, 101]⟩) := by rw [numF, if_neg (by omega), if_pos (by omega)]
        rw [e]; exact fin2 rfl rfl rfl ⟨_, ⟨rfl, rfl⟩, hO.none⟩
      · refine l_y rfl rfl (y_pick_f rfl rfl) ?_
        refine l_y rfl rfl (y_assign rfl) ?_
        refine K2 (K3 (L9 (K0 (K1 ?_))))
        refine l_y rfl rfl (y_move rfl) ?_
        refine l_y rfl rfl (y_shr (r := n / 2048) rfl rfl (by decide) (by rw [show (2 : Int) ^ (min (11 : Int).toNat IntKind.i64.bits) = 2048 by decide]; exact Int.fdiv_eq_ediv_of_nonneg _ (by decide))) ?_
        refine Z0 (fun h5_2 => ?_) (fun h5_2 => ?_)
        · refine l_y rfl rfl (y_assign rfl) ?_
          refine K2 (K3 (L8 (K0 (K1 ?_))))
          refine l_y rfl rfl (y_assign rfl) ?_
          refine l_y rfl rfl (y_assign rfl) ?_
          refine K2 (K3 (K6 (L0 (K9 ?_))))
          have e : numF n = (65533, ⟨#[115, 117, 114, 114, 111, 103, 97, 116, 101, 45, 99, 104, 97, 114, 97, 99, 116, 101, 114, 45, 114, 101, 102, 101, 114, 101, 110, 99, 101]⟩) := by rw [numF, if_neg (by omega), if_neg (by omega), if_pos (by omega)]
          rw [e]; exact fin2 rfl rfl rfl ⟨_, ⟨rfl, rfl⟩, hO.none⟩
        · refine l_y rfl rfl (y_assign rfl) ?_
          refine K2 (K3 (L9 (K0 (K0 (K1 ?_)))))
          refine l_y rfl rfl (y_move rfl) ?_
          refine l_y rfl rfl (y_and rfl rfl (int_and (by omega) (by omega))) ?_
          refine Z0 (fun h7_2 => ?_) (fun h7_2 => ?_)
          · refine l_y rfl rfl (y_assign rfl) ?_
            refine K2 (K3 (L8 (K5 (K3 (L8 (K0 (K1 ?_)))))))
            refine l_y rfl rfl (y_move rfl) ?_
            refine l_y rfl rfl (y_convI rfl (w32 (by omega) (by omega))) ?_
            refine l_y rfl rfl (y_assign rfl) ?_
            refine l_y rfl rfl (y_assign rfl) ?_
            refine K2 (K3 (K6 (L0 (K9 ?_))))
            have e : numF n = (n, ⟨#[110, 111, 110, 99, 104, 97, 114, 97, 99, 116, 101, 114, 45, 99, 104, 97, 114, 97, 99, 116, 101, 114, 45, 114, 101, 102, 101, 114, 101, 110, 99, 101]⟩) := by rw [numF, if_neg (by omega), if_neg (by omega), if_neg (by omega), if_pos (by omega)]
            rw [e]; exact fin2 rfl rfl rfl ⟨_, ⟨rfl, rfl⟩, hO.none⟩
          · refine l_y rfl rfl (y_assign rfl) ?_
            refine K2 (K3 (L9 (K1 ?_)))
            refine l_y rfl rfl (y_move rfl) ?_
            refine Z0 (fun h8_1 => ?_) (fun h8_1 => ?_)
            · refine l_y rfl rfl (y_move rfl) ?_
              refine l_y rfl rfl (y_move rfl) ?_
              refine Z0 (fun h8_4 => ?_) (fun h8_4 => ?_)
              · refine l_y rfl rfl (y_pick_t rfl rfl) ?_
                refine l_y rfl rfl (y_assign rfl) ?_
                refine K2 (K3 (L8 (K0 (K1 ?_))))
                refine l_y rfl rfl (y_move rfl) ?_
                refine l_y rfl rfl (y_convI rfl (w32 (by omega) (by omega))) ?_
                refine l_y rfl rfl (y_assign rfl) ?_
                refine l_y rfl rfl (y_assign rfl) ?_
                refine K2 (K3 (K6 (L0 (K9 ?_))))
                have e : numF n = (n, ⟨#[110, 111, 110, 99, 104, 97, 114, 97, 99, 116, 101, 114, 45, 99, 104, 97, 114, 97, 99, 116, 101, 114, 45, 114, 101, 102, 101, 114, 101, 110, 99, 101]⟩) := by rw [numF, if_neg (by omega), if_neg (by omega), if_neg (by omega), if_pos (by omega)]
                rw [e]; exact fin2 rfl rfl rfl ⟨_, ⟨rfl, rfl⟩, hO.none⟩
              · refine l_y rfl rfl (y_pick_t rfl rfl) ?_
                refine l_y rfl rfl (y_assign rfl) ?_
                refine K2 (K3 (L9 (K0 (K0 (K1 ?_)))))
                refine l_y rfl rfl (y_move rfl) ?_
                refine Z0 (fun h10_1 => ?_) (fun h10_1 => ?_)
                · refine l_y rfl rfl (y_assign rfl) ?_
                  refine K2 (K3 (L8 (K5 (K3 (L8 (K0 (K1 ?_)))))))
                  refine l_y rfl rfl (y_move rfl) ?_
                  refine l_y rfl rfl (y_convI rfl (w32 (by omega) (by omega))) ?_
                  refine l_y rfl rfl (y_assign rfl) ?_
                  refine l_y rfl rfl (y_assign rfl) ?_
                  refine K2 (K3 (K6 (L0 (K9 ?_))))
                  have e : numF n = (n, ⟨#[]⟩) := by rw [numF, if_neg (by omega), if_neg (by omega), if_neg (by omega), if_neg (by omega), if_neg (by omega)]
                  rw [e]; exact fin2 rfl rfl rfl ⟨_, ⟨rfl, rfl⟩, hO.none⟩
                · refine l_y rfl rfl (y_assign rfl) ?_
                  refine K2 (K3 (L9 (K0 (K1 ?_))))
                  refine l_y rfl rfl (y_move rfl) ?_
                  refine Z0 (fun h11_1 => ?_) (fun h11_1 => ?_)
                  · refine l_y rfl rfl (y_assign rfl) ?_
                    refine K2 (K3 (L8 (K5 (K3 (L8 (K0 (K1 ?_)))))))
                    refine l_y rfl rfl (y_move rfl) ?_
                    refine l_y rfl rfl (y_convI rfl (w32 (by omega) (by omega))) ?_
                    refine l_y rfl rfl (y_assign rfl) ?_
                    refine l_y rfl rfl (y_assign rfl) ?_
                    refine K2 (K3 (K6 (L0 (K9 ?_))))
                    have e : numF n = (n, ⟨#[]⟩) := by rw [numF, if_neg (by omega), if_neg (by omega), if_neg (by omega), if_neg (by omega), if_neg (by omega)]
                    rw [e]; exact fin2 rfl rfl rfl ⟨_, ⟨rfl, rfl⟩, hO.none⟩
                  · refine l_y rfl rfl (y_assign rfl) ?_
                    refine K2 (K3 (L9 (K0 (K1 ?_))))
                    refine l_y rfl rfl (y_move rfl) ?_
                    refine Z0 (fun h12_1 => ?_) (fun h12_1 => ?_)
                    · refine l_y rfl rfl (y_assign rfl) ?_
                      refine K2 (K3 (L8 (K5 (K3 (L8 (K0 (K1 ?_)))))))
                      refine l_y rfl rfl (y_move rfl) ?_
                      refine l_y rfl rfl (y_convI rfl (w32 (by omega) (by omega))) ?_
                      refine l_y rfl rfl (y_assign rfl) ?_
                      refine l_y rfl rfl (y_assign rfl) ?_
                      refine K2 (K3 (K6 (L0 (K9 ?_))))
                      have e : numF n = (n, ⟨#[]⟩) := by rw [numF, if_neg (by omega), if_neg (by omega), if_neg (by omega), if_neg (by omega), if_neg (by omega)]
                      rw [e]; exact fin2 rfl rfl rfl ⟨_, ⟨rfl, rfl⟩, hO.none⟩
                    · refine l_y rfl rfl (y_assign rfl) ?_
                      refine K2 (K3 (L9 (K0 (K1 ?_))))
                      refine l_y rfl rfl (y_move rfl) ?_
                      refine Z0 (fun h13_1 => ?_) (fun h13_1 => ?_)
                      · refine l_y rfl rfl (y_move rfl) ?_
                        refine l_y rfl rfl (y_move rfl) ?_
                        refine Z0 (fun h13_4 => ?_) (fun h13_4 => ?_)
                        · refine l_y rfl rfl (y_pick_t rfl rfl) ?_
                          refine l_y rfl rfl (y_assign rfl) ?_
                          refine K2 (K3 (L8 (K5 (K3 (L8 (K0 (K1 ?_)))))))
                          refine l_y rfl rfl (y_move rfl) ?_
                          refine l_y rfl rfl (y_convI rfl (w32 (by omega) (by omega))) ?_
                          refine l_y rfl rfl (y_assign rfl) ?_
                          refine l_y rfl rfl (y_assign rfl) ?_
                          refine K2 (K3 (K6 (L0 (K9 ?_))))
                          have e : numF n = (n, ⟨#[]⟩) := by rw [numF, if_neg (by omega), if_neg (by omega), if_neg (by omega), if_neg (by omega), if_neg (by omega)]
                          rw [e]; exact fin2 rfl rfl rfl ⟨_, ⟨rfl, rfl⟩, hO.none⟩
                        · refine l_y rfl rfl (y_pick_t rfl rfl) ?_
                          refine l_y rfl rfl (y_assign rfl) ?_
                          refine K2 (K3 (L9 (K1 ?_)))
                          refine l_y rfl rfl (y_move rfl) ?_
                          refine Z0 (fun h14_1 => ?_) (fun h14_1 => ?_)
                          · refine l_y rfl rfl (y_assign rfl) ?_
                            refine K2 (K3 (L8 (K0 (K1 ?_))))
                            refine l_y rfl rfl (y_move rfl) ?_
                            refine l_y rfl rfl (y_convI rfl (w32 (by omega) (by omega))) ?_
                            refine l_y rfl rfl (y_assign rfl) ?_
                            refine l_y rfl rfl (y_assign rfl) ?_
                            refine K2 (K3 (K6 (L0 (K9 ?_))))
                            have e : numF n = (n, ⟨#[]⟩) := by rw [numF, if_neg (by omega), if_neg (by omega), if_neg (by omega), if_neg (by omega), if_neg (by omega)]
                            rw [e]; exact fin2 rfl rfl rfl ⟨_, ⟨rfl, rfl⟩, hO.none⟩
                          · refine l_y rfl rfl (y_assign rfl) ?_
                            refine K2 (K3 (L9 (K5 (K8 (K3 (K0 (K0 (K1 ?_))))))))
                            refine CK [] hO rfl (fun k' hx hr hO' => others_spec (hO := hO')) ?_
                            rintro _ _ w ⟨b50, rfl, rfl⟩ hO
                            refine l_y rfl rfl (y_move rfl) ?_
                            refine l_y rfl rfl (y_lookI hO rfl rfl) ?_
                            refine l_y rfl rfl (y_move rfl) ?_
                            refine l_y rfl rfl (y_extract rfl rfl) ?_
                            refine l_y rfl rfl (y_extract rfl rfl) ?_
                            refine l_y rfl rfl (y_assign rfl) ?_
                            refine l_y rfl rfl (y_assign rfl) ?_
                            refine K2 (K3 (K0 (K1 ?_)))
                            refine l_y rfl rfl (y_move rfl) ?_
                            refine K2 (K3 ?_)
                            refine c_split rfl (fun hc55 => ?_) (fun hc55 => ?_)
                            · refine K0 (K1 ?_)
                              refine l_y rfl rfl (y_move rfl) ?_
                              refine l_y rfl rfl (y_assign rfl) ?_
                              refine l_y rfl rfl (y_assign rfl) ?_
                              refine K2 (K3 (K6 (K9 ?_)))
                              have e : numF n = ((look' OT n).getD n, ⟨#[99, 111, 110, 116, 114, 111, 108, 45, 99, 104, 97, 114, 97, 99, 116, 101, 114, 45, 114, 101, 102, 101, 114, 101, 110, 99, 101]⟩) := by rw [numF, if_neg (by omega), if_neg (by omega), if_neg (by omega), if_neg (by omega), if_pos (by omega)]
                              have e2 : (look' OT n).getD 0 = (look' OT n).getD n := by
                                obtain ⟨v, hv⟩ := Option.isSome_iff_exists.1 hc55
                                rw [hv]; rfl
                              rw [e, e2]; exact fin2 rfl rfl rfl ⟨_, ⟨rfl, rfl⟩, hO.none⟩
                            · refine K5 (K3 (K0 (K1 ?_)))
                              refine l_y rfl rfl (y_move rfl) ?_
                              refine l_y rfl rfl (y_convI rfl (w32 (by omega) (by omega))) ?_
                              refine l_y rfl rfl (y_assign rfl) ?_
                              refine l_y rfl rfl (y_assign rfl) ?_
                              refine K2 (K3 (K6 ?_))
                              have e : numF n = ((look' OT n).getD n, ⟨#[99, 111, 110, 116, 114, 111, 108, 45, 99, 104, 97, 114, 97, 99, 116, 101, 114, 45, 114, 101, 102, 101, 114, 101, 110, 99, 101]⟩) := by rw [numF, if_neg (by omega), if_neg (by omega), if_neg (by omega), if_neg (by omega), if_pos (by omega)]
                              have e2 : (look' OT n).getD n = n := by
                                rw [Option.isSome_eq_false_iff.1 hc55 |> Option.isNone_iff_eq_none.1]; rfl
                              rw [e, e2]; exact fin2 rfl rfl rfl ⟨_, ⟨rfl, rfl⟩, hO.none⟩
                      · refine l_y rfl rfl (y_move rfl) ?_
                        repeat refine M2 ?_
                        refine l_y rfl rfl (y_pick_f rfl rfl) ?_
                        refine l_y rfl rfl (y_assign rfl) ?_
                        refine K2 (K3 (L9 (K1 ?_)))
                        refine l_y rfl rfl (y_move rfl) ?_
                        refine Z0 (fun h14_1 => ?_) (fun h14_1 => ?_)
                        · refine l_y rfl rfl (y_assign rfl) ?_
                          refine K2 (K3 (L8 (K0 (K1 ?_))))
                          refine l_y rfl rfl (y_move rfl) ?_
                          refine l_y rfl rfl (y_convI rfl (w32 (by omega) (by omega))) ?_
                          refine l_y rfl rfl (y_assign rfl) ?_
                          refine l_y rfl rfl (y_assign rfl) ?_
                          refine K2 (K3 (K6 (L0 (K9 ?_))))
                          have e : numF n = (n, ⟨#[]⟩) := by rw [numF, if_neg (by omega), if_neg (by omega), if_neg (by omega), if_neg (by omega), if_neg (by omega)]
                          rw [e]; exact fin2 rfl rfl rfl ⟨_, ⟨rfl, rfl⟩, hO.none⟩
                        · refine l_y rfl rfl (y_assign rfl) ?_
                          refine K2 (K3 (L9 (K5 (K8 (K3 (K0 (K0 (K1 ?_))))))))
                          refine CK [] hO rfl (fun k' hx hr hO' => others_spec (hO := hO')) ?_
                          rintro _ _ w ⟨b50, rfl, rfl⟩ hO
                          refine l_y rfl rfl (y_move rfl) ?_
                          refine l_y rfl rfl (y_lookI hO rfl rfl) ?_
                          refine l_y rfl rfl (y_move rfl) ?_
                          refine l_y rfl rfl (y_extract rfl rfl) ?_
                          refine l_y rfl rfl (y_extract rfl rfl) ?_
                          refine l_y rfl rfl (y_assign rfl) ?_
                          refine l_y rfl rfl (y_assign rfl) ?_
                          refine K2 (K3 (K0 (K1 ?_)))
                          refine l_y rfl rfl (y_move rfl) ?_
                          refine K2 (K3 ?_)
                          refine c_split rfl (fun hc55 => ?_) (fun hc55 => ?_)
                          · refine K0 (K1 ?_)
                            refine l_y rfl rfl (y_move rfl) ?_
                            refine l_y rfl rfl (y_assign rfl) ?_
                            refine l_y rfl rfl (y_assign rfl) ?_
                            refine K2 (K3 (K6 (K9 ?_)))
                            have e : numF n = ((look' OT n).getD n, ⟨#[99, 111, 110, 116, 114, 111, 108, 45, 99, 104, 97, 114, 97, 99, 116, 101, 114, 45, 114, 101, 102, 101, 114, 101, 110, 99, 101]⟩) := by rw [numF, if_neg (by omega), if_neg (by omega), if_neg (by omega), if_neg (by omega), if_pos (by omega)]
                            have e2 : (look' OT n).getD 0 = (look' OT n).getD n := by
                              obtain ⟨v, hv⟩ := Option.isSome_iff_exists.1 hc55
                              rw [hv]; rfl
                            rw [e, e2]; exact fin2 rfl rfl rfl ⟨_, ⟨rfl, rfl⟩, hO.none⟩
                          · refine K5 (K3 (K0 (K1 ?_)))
                            refine l_y rfl rfl (y_move rfl) ?_
                            refine l_y rfl rfl (y_convI rfl (w32 (by omega) (by omega))) ?_
                            refine l_y rfl rfl (y_assign rfl) ?_
                            refine l_y rfl rfl (y_assign rfl) ?_
                            refine K2 (K3 (K6 ?_))
                            have e : numF n = ((look' OT n).getD n, ⟨#[99, 111, 110, 116, 114, 111, 108, 45, 99, 104, 97, 114, 97, 99, 116, 101, 114, 45, 114, 101, 102, 101, 114, 101, 110, 99, 101]⟩) := by rw [numF, if_neg (by omega), if_neg (by omega), if_neg (by omega), if_neg (by omega), if_pos (by omega)]
                            have e2 : (look' OT n).getD n = n := by
                              rw [Option.isSome_eq_false_iff.1 hc55 |> Option.isNone_iff_eq_none.1]; rfl
                            rw [e, e2]; exact fin2 rfl rfl rfl ⟨_, ⟨rfl, rfl⟩, hO.none⟩
            · refine l_y rfl rfl (y_move rfl) ?_
              repeat refine M2 ?_
              refine l_y rfl rfl (y_pick_f rfl rfl) ?_
              refine l_y rfl rfl (y_assign rfl) ?_
              refine K2 (K3 (L9 (K0 (K0 (K1 ?_)))))
              refine l_y rfl rfl (y_move rfl) ?_
              refine Z0 (fun h10_1 => ?_) (fun h10_1 => ?_)
              · refine l_y rfl rfl (y_assign rfl) ?_
                refine K2 (K3 (L8 (K5 (K3 (L8 (K0 (K1 ?_)))))))
                refine l_y rfl rfl (y_move rfl) ?_
                refine l_y rfl rfl (y_convI rfl (w32 (by omega) (by omega))) ?_
                refine l_y rfl rfl (y_assign rfl) ?_
                refine l_y rfl rfl (y_assign rfl) ?_
                refine K2 (K3 (K6 (L0 (K9 ?_))))
                have e : numF n = (n, ⟨#[]⟩) := by rw [numF, if_neg (by omega), if_neg (by omega), if_neg (by omega), if_neg (by omega), if_neg (by omega)]
                rw [e]; exact fin2 rfl rfl rfl ⟨_, ⟨rfl, rfl⟩, hO.none⟩
              · refine l_y rfl rfl (y_assign rfl) ?_
                refine K2 (K3 (L9 (K0 (K1 ?_))))
                refine l_y rfl rfl (y_move rfl) ?_
                refine Z0 (fun h11_1 => ?_) (fun h11_1 => ?_)
                · refine l_y rfl rfl (y_assign rfl) ?_
                  refine K2 (K3 (L8 (K5 (K3 (L8 (K0 (K1 ?_)))))))
                  refine l_y rfl rfl (y_move rfl) ?_
                  refine l_y rfl rfl (y_convI rfl (w32 (by omega) (by omega))) ?_
                  refine l_y rfl rfl (y_assign rfl) ?_
                  refine l_y rfl rfl (y_assign rfl) ?_
                  refine K2 (K3 (K6 (L0 (K9 ?_))))
                  have e : numF n = (n, ⟨#[]⟩) := by rw [numF, if_neg (by omega), if_neg (by omega), if_neg (by omega), if_neg (by omega), if_neg (by omega)]
                  rw [e]; exact fin2 rfl rfl rfl ⟨_, ⟨rfl, rfl⟩, hO.none⟩
                · refine l_y rfl rfl (y_assign rfl) ?_
                  refine K2 (K3 (L9 (K0 (K1 ?_))))
                  refine l_y rfl rfl (y_move rfl) ?_
                  refine Z0 (fun h12_1 => ?_) (fun h12_1 => ?_)
                  · refine l_y rfl rfl (y_assign rfl) ?_
                    refine K2 (K3 (L8 (K5 (K3 (L8 (K0 (K1 ?_)))))))
                    refine l_y rfl rfl (y_move rfl) ?_
                    refine l_y rfl rfl (y_convI rfl (w32 (by omega) (by omega))) ?_
                    refine l_y rfl rfl (y_assign rfl) ?_
                    refine l_y rfl rfl (y_assign rfl) ?_
                    refine K2 (K3 (K6 (L0 (K9 ?_))))
                    have e : numF n = (n, ⟨#[]⟩) := by rw [numF, if_neg (by omega), if_neg (by omega), if_neg (by omega), if_neg (by omega), if_neg (by omega)]
                    rw [e]; exact fin2 rfl rfl rfl ⟨_, ⟨rfl, rfl⟩, hO.none⟩
                  · refine l_y rfl rfl (y_assign rfl) ?_
                    refine K2 (K3 (L9 (K0 (K1 ?_))))
                    refine l_y rfl rfl (y_move rfl) ?_
                    refine Z0 (fun h13_1 => ?_) (fun h13_1 => ?_)
                    · refine l_y rfl rfl (y_move rfl) ?_
                      refine l_y rfl rfl (y_move rfl) ?_
                      refine Z0 (fun h13_4 => ?_) (fun h13_4 => ?_)
                      · refine l_y rfl rfl (y_pick_t rfl rfl) ?_
                        refine l_y rfl rfl (y_assign rfl) ?_
                        refine K2 (K3 (L8 (K5 (K3 (L8 (K0 (K1 ?_)))))))
                        refine l_y rfl rfl (y_move rfl) ?_
                        refine l_y rfl rfl (y_convI rfl (w32 (by omega) (by omega))) ?_
                        refine l_y rfl rfl (y_assign rfl) ?_
                        refine l_y rfl rfl (y_assign rfl) ?_
                        refine K2 (K3 (K6 (L0 (K9 ?_))))
                        have e : numF n = (n, ⟨#[]⟩) := by rw [numF, if_neg (by omega), if_neg (by omega), if_neg (by omega), if_neg (by omega), if_neg (by omega)]
                        rw [e]; exact fin2 rfl rfl rfl ⟨_, ⟨rfl, rfl⟩, hO.none⟩
                      · refine l_y rfl rfl (y_pick_t rfl rfl) ?_
                        refine l_y rfl rfl (y_assign rfl) ?_
                        refine K2 (K3 (L9 (K1 ?_)))
                        refine l_y rfl rfl (y_move rfl) ?_
                        refine Z0 (fun h14_1 => ?_) (fun h14_1 => ?_)
                        · refine l_y rfl rfl (y_assign rfl) ?_
                          refine K2 (K3 (L8 (K0 (K1 ?_))))
                          refine l_y rfl rfl (y_move rfl) ?_
                          refine l_y rfl rfl (y_convI rfl (w32 (by omega) (by omega))) ?_
                          refine l_y rfl rfl (y_assign rfl) ?_
                          refine l_y rfl rfl (y_assign rfl) ?_
                          refine K2 (K3 (K6 (L0 (K9 ?_))))
                          have e : numF n = (n, ⟨#[]⟩) := by rw [numF, if_neg (by omega), if_neg (by omega), if_neg (by omega), if_neg (by omega), if_neg (by omega)]
                          rw [e]; exact fin2 rfl rfl rfl ⟨_, ⟨rfl, rfl⟩, hO.none⟩
                        · refine l_y rfl rfl (y_assign rfl) ?_
                          refine K2 (K3 (L9 (K5 (K8 (K3 (K0 (K0 (K1 ?_))))))))
                          refine CK [] hO rfl (fun k' hx hr hO' => others_spec (hO := hO')) ?_
                          rintro _ _ w ⟨b50, rfl, rfl⟩ hO
                          refine l_y rfl rfl (y_move rfl) ?_
                          refine l_y rfl rfl (y_lookI hO rfl rfl) ?_
                          refine l_y rfl rfl (y_move rfl) ?_
                          refine l_y rfl rfl (y_extract rfl rfl) ?_
                          refine l_y rfl rfl (y_extract rfl rfl) ?_
                          refine l_y rfl rfl (y_assign rfl) ?_
                          refine l_y rfl rfl (y_assign rfl) ?_
                          refine K2 (K3 (K0 (K1 ?_)))
                          refine l_y rfl rfl (y_move rfl) ?_
                          refine K2 (K3 ?_)
                          refine c_split rfl (fun hc55 => ?_) (fun hc55 => ?_)
                          · refine K0 (K1 ?_)
                            refine l_y rfl rfl (y_move rfl) ?_
                            refine l_y rfl rfl (y_assign rfl) ?_
                            refine l_y rfl rfl (y_assign rfl) ?_
                            refine K2 (K3 (K6 (K9 ?_)))
                            have e : numF n = ((look' OT n).getD n, ⟨#[99, 111, 110, 116, 114, 111, 108, 45, 99, 104, 97, 114, 97, 99, 116, 101, 114, 45, 114, 101, 102, 101, 114, 101, 110, 99, 101]⟩) := by rw [numF, if_neg (by omega), if_neg (by omega), if_neg (by omega), if_neg (by omega), if_pos (by omega)]
                            have e2 : (look' OT n).getD 0 = (look' OT n).getD n := by
                              obtain ⟨v, hv⟩ := Option.isSome_iff_exists.1 hc55
                              rw [hv]; rfl
                            rw [e, e2]; exact fin2 rfl rfl rfl ⟨_, ⟨rfl, rfl⟩, hO.none⟩
                          · refine K5 (K3 (K0 (K1 ?_)))
                            refine l_y rfl rfl (y_move rfl) ?_
                            refine l_y rfl rfl (y_convI rfl (w32 (by omega) (by omega))) ?_
                            refine l_y rfl rfl (y_assign rfl) ?_
                            refine l_y rfl rfl (y_assign rfl) ?_
                            refine K2 (K3 (K6 ?_))
                            have e : numF n = ((look' OT n).getD n, ⟨#[99, 111, 110, 116, 114, 111, 108, 45, 99, 104, 97, 114, 97, 99, 116, 101, 114, 45, 114, 101, 102, 101, 114, 101, 110, 99, 101]⟩) := by rw [numF, if_neg (by omega), if_neg (by omega), if_neg (by omega), if_neg (by omega), if_pos (by omega)]
                            have e2 : (look' OT n).getD n = n := by
                              rw [Option.isSome_eq_false_iff.1 hc55 |> Option.isNone_iff_eq_none.1]; rfl
                            rw [e, e2]; exact fin2 rfl rfl rfl ⟨_, ⟨rfl, rfl⟩, hO.none⟩
                    · refine l_y rfl rfl (y_move rfl) ?_
                      repeat refine M2 ?_
                      refine l_y rfl rfl (y_pick_f rfl rfl) ?_
                      refine l_y rfl rfl (y_assign rfl) ?_
                      refine K2 (K3 (L9 (K1 ?_)))
                      refine l_y rfl rfl (y_move rfl) ?_
                      refine Z0 (fun h14_1 => ?_) (fun h14_1 => ?_)
                      · refine l_y rfl rfl (y_assign rfl) ?_
                        refine K2 (K3 (L8 (K0 (K1 ?_))))
                        refine l_y rfl rfl (y_move rfl) ?_
                        refine l_y rfl rfl (y_convI rfl (w32 (by omega) (by omega))) ?_
                        refine l_y rfl rfl (y_assign rfl) ?_
                        refine l_y rfl rfl (y_assign rfl) ?_
                        refine K2 (K3 (K6 (L0 (K9 ?_))))
                        have e : numF n = (n, ⟨#[]⟩) := by rw [numF, if_neg (by omega), if_neg (by omega), if_neg (by omega), if_neg (by omega), if_neg (by omega)]
                        rw [e]; exact fin2 rfl rfl rfl ⟨_, ⟨rfl, rfl⟩, hO.none⟩
                      · refine l_y rfl rfl (y_assign rfl) ?_
                        refine K2 (K3 (L9 (K5 (K8 (K3 (K0 (K0 (K1 ?_))))))))
                        refine CK [] hO rfl (fun k' hx hr hO' => others_spec (hO := hO')) ?_
                        rintro _ _ w ⟨b50, rfl, rfl⟩ hO
                        refine l_y rfl rfl (y_move rfl) ?_
                        refine l_y rfl rfl (y_lookI hO rfl rfl) ?_
                        refine l_y rfl rfl (y_move rfl) ?_
                        refine l_y rfl rfl (y_extract rfl rfl) ?_
                        refine l_y rfl rfl (y_extract rfl rfl) ?_
                        refine l_y rfl rfl (y_assign rfl) ?_
                        refine l_y rfl rfl (y_assign rfl) ?_
                        refine K2 (K3 (K0 (K1 ?_)))
                        refine l_y rfl rfl (y_move rfl) ?_
                        refine K2 (K3 ?_)
                        refine c_split rfl (fun hc55 => ?_) (fun hc55 => ?_)
                        · refine K0 (K1 ?_)
                          refine l_y rfl rfl (y_move rfl) ?_
                          refine l_y rfl rfl (y_assign rfl) ?_
                          refine l_y rfl rfl (y_assign rfl) ?_
                          refine K2 (K3 (K6 (K9 ?_)))
                          have e : numF n = ((look' OT n).getD n, ⟨#[99, 111, 110, 116, 114, 111, 108, 45, 99, 104, 97, 114, 97, 99, 116, 101, 114, 45, 114, 101, 102, 101, 114, 101, 110, 99, 101]⟩) := by rw [numF, if_neg (by omega), if_neg (by omega), if_neg (by omega), if_neg (by omega), if_pos (by omega)]
                          have e2 : (look' OT n).getD 0 = (look' OT n).getD n := by
                            obtain ⟨v, hv⟩ := Option.isSome_iff_exists.1 hc55
                            rw [hv]; rfl
                          rw [e, e2]; exact fin2 rfl rfl rfl ⟨_, ⟨rfl, rfl⟩, hO.none⟩
                        · refine K5 (K3 (K0 (K1 ?_)))
                          refine l_y rfl rfl (y_move rfl) ?_
                          refine l_y rfl rfl (y_convI rfl (w32 (by omega) (by omega))) ?_
                          refine l_y rfl rfl (y_assign rfl) ?_
                          refine l_y rfl rfl (y_assign rfl) ?_
                          refine K2 (K3 (K6 ?_))
                          have e : numF n = ((look' OT n).getD n, ⟨#[99, 111, 110, 116, 114, 111, 108, 45, 99, 104, 97, 114, 97, 99, 116, 101, 114, 45, 114, 101, 102, 101, 114, 101, 110, 99, 101]⟩) := by rw [numF, if_neg (by omega), if_neg (by omega), if_neg (by omega), if_neg (by omega), if_pos (by omega)]
                          have e2 : (look' OT n).getD n = n := by
                            rw [Option.isSome_eq_false_iff.1 hc55 |> Option.isNone_iff_eq_none.1]; rfl
                          rw [e, e2]; exact fin2 rfl rfl rfl ⟨_, ⟨rfl, rfl⟩, hO.none⟩
set_option maxHeartbeats 1000000 in
theorem NumberR_spec (hO : Own k w []) : Tri Try.prog 18 #[.int .i64 n] k w fun v m => v = .tuple #[.int .i32 (numF n).1, .string (numF n).2] ∧ m = [] := by
  refine enter (args := [.int .i64 n]) Try.func18 rfl rfl ?_
  refine K0 (K1 ?_)
  refine l_y rfl rfl (y_assign rfl) ?_
  refine l_y rfl rfl (y_assign rfl) ?_
  refine K2 (K3 (K0 (K4 (K0 (K1 ?_)))))
  refine l_y rfl rfl (y_move rfl) ?_
  refine Z0 (fun h1_1 => ?_) (fun h1_1 => ?_)
  · refine l_y rfl rfl (y_assign rfl) ?_
    refine K2 (K3 (L8 (K0 (K1 ?_))))
    refine l_y rfl rfl (y_assign rfl) ?_
    refine l_y rfl rfl (y_assign rfl) ?_
    refine K2 (K3 (K6 (L0 (K9 ?_))))
    have e : numF n = (65533, ⟨#[110, 117, 108, 108, 45, 99, 104, 97, 114, 97, 99, 116, 101, 114, 45, 114, 101, 102, 101, 114, 101, 110, 99, 101]⟩) := by rw [numF, if_pos (by omega)]
    rw [e]; exact fin2 rfl rfl rfl ⟨_, ⟨rfl, rfl⟩, hO.none⟩
  · refine l_y rfl rfl (y_assign rfl) ?_
    refine K2 (K3 (L9 (K0 (K1 ?_))))
    refine l_y rfl rfl (y_move rfl) ?_
    refine Z0 (fun h3_1 => ?_) (fun h3_1 => ?_)
    · refine l_y rfl rfl (y_move rfl) ?_
      repeat refine M2 ?_
      refine l_y rfl rfl (y_pick_t rfl rfl) ?_
      refine l_y rfl rfl (y_assign rfl) ?_
      refine K2 (K3 (L8 (K0 (K1 ?_))))
      refine l_y rfl rfl (y_assign rfl) ?_
      refine l_y rfl rfl (y_assign rfl) ?_
      refine K2 (K3 (K6 (L0 (K9 ?_))))
      have e : numF n = (65533, ⟨#[99, 104, 97, 114, 97, 99, 116, 101, 114, 45, 114, 101, 102, 101, 114, 101, 110, 99, 101, 45, 111, 117, 116, 115, 105, 100, 101, 45, 117, 110, 105, 99, 111, 100, 101, 45, 114, 97, 110, 103, 101]⟩) := by rw [numF, if_neg (by omega), if_pos (by omega)]
      rw [e]; exact fin2 rfl rfl rfl ⟨_, ⟨rfl, rfl⟩, hO.none⟩
    · refine l_y rfl rfl (y_move rfl) ?_
      refine l_y rfl rfl (y_move rfl) ?_
      refine Z0 (fun h3_4 => ?_) (fun h3_4 => ?_)
      · refine l_y rfl rfl (y_pick_f rfl rfl) ?_
        refine l_y rfl rfl (y_assign rfl) ?_
        refine K2 (K3 (L8 (K0 (K1 ?_))))
        refine l_y rfl rfl (y_assign rfl) ?_
        refine l_y rfl rfl (y_assign rfl) ?_
        refine K2 (K3 (K6 (L0 (K9 ?_))))
        have e : numF n = (65533, ⟨#[99, 104, 97, 114, 97, 99, 116, 101, 114, 45, 114, 101, 102, 101, 114, 101, 110, 99, 101, 45, 111, 117, 116, 115, 105, 100, 101, 45, 117, 110, 105, 99, 111, 100, 101, 45, 114, 97, 110, 103, 101]⟩) := by rw [numF, if_neg (by omega), if_pos (by omega)]
        rw [e]; exact fin2 rfl rfl rfl ⟨_, ⟨rfl, rfl⟩, hO.none⟩
      · refine l_y rfl rfl (y_pick_f rfl rfl) ?_
        refine l_y rfl rfl (y_assign rfl) ?_
        refine K2 (K3 (L9 (K0 (K1 ?_))))
        refine l_y rfl rfl (y_move rfl) ?_
        refine Z0 (fun h5_1 => ?_) (fun h5_1 => ?_)
        · refine l_y rfl rfl (y_move rfl) ?_
          refine l_y rfl rfl (y_move rfl) ?_
          refine Z0 (fun h5_4 => ?_) (fun h5_4 => ?_)
          · refine l_y rfl rfl (y_pick_t rfl rfl) ?_
            refine l_y rfl rfl (y_assign rfl) ?_
            refine K2 (K3 (L8 (K0 (K1 ?_))))
            refine l_y rfl rfl (y_assign rfl) ?_
            refine l_y rfl rfl (y_assign rfl) ?_
            refine K2 (K3 (K6 (L0 (K9 ?_))))
            have e : numF n = (65533, ⟨#[115, 117, 114, 114, 111, 103, 97, 116, 101, 45, 99, 104, 97, 114, 97, 99, 116, 101, 114, 45, 114, 101, 102, 101, 114, 101, 110, 99, 101]⟩) := by rw [numF, if_neg (by omega), if_neg (by omega), if_pos (by omega)]
            rw [e]; exact fin2 rfl rfl rfl ⟨_, ⟨rfl, rfl⟩, hO.none⟩
          · refine l_y rfl rfl (y_pick_t rfl rfl) ?_
            refine l_y rfl rfl (y_assign rfl) ?_
            refine K2 (K3 (L9 (K0 (K1 ?_))))
            refine l_y rfl rfl (y_move rfl) ?_
            refine l_y rfl rfl (y_remN rfl rfl (by omega) (by decide)) ?_
            refine Z0 (fun h7_2 => ?_) (fun h7_2 => ?_)
            · refine l_y rfl rfl (y_move rfl) ?_
              repeat refine M2 ?_
              refine l_y rfl rfl (y_pick_t rfl rfl) ?_
              refine l_y rfl rfl (y_assign rfl) ?_
              refine K2 (K3 (L8 (K0 (K1 ?_))))
              refine l_y rfl rfl (y_move rfl) ?_
              refine l_y rfl rfl (y_convI rfl (w32 (by omega) (by omega))) ?_
              refine l_y rfl rfl (y_assign rfl) ?_
              refine l_y rfl rfl (y_assign rfl) ?_
              refine K2 (K3 (K6 (L0 (K9 ?_))))
              have e : numF n = (n, ⟨#[110, 111, 110, 99, 104, 97, 114, 97, 99, 116, 101, 114, 45, 99, 104, 97, 114, 97, 99, 116, 101, 114, 45, 114, 101, 102, 101, 114, 101, 110, 99, 101]⟩) := by rw [numF, if_neg (by omega), if_neg (by omega), if_neg (by omega), if_pos (by omega)]
              rw [e]; exact fin2 rfl rfl rfl ⟨_, ⟨rfl, rfl⟩, hO.none⟩
            · refine l_y rfl rfl (y_move rfl) ?_
              refine l_y rfl rfl (y_move rfl) ?_
              refine Z0 (fun h7_5 => ?_) (fun h7_5 => ?_)
              · refine l_y rfl rfl (y_move rfl) ?_
                refine l_y rfl rfl (y_move rfl) ?_
                refine Z0 (fun h7_8 => ?_) (fun h7_8 => ?_)
                · refine l_y rfl rfl (y_pick_t rfl rfl) ?_
                  refine l_y rfl rfl (y_pick_f rfl rfl) ?_
                  refine l_y rfl rfl (y_assign rfl) ?_
                  refine K2 (K3 (L8 (K0 (K1 ?_))))
                  refine l_y rfl rfl (y_move rfl) ?_
                  refine l_y rfl rfl (y_convI rfl (w32 (by omega) (by omega))) ?_
                  refine l_y rfl rfl (y_assign rfl) ?_
                  refine l_y rfl rfl (y_assign rfl) ?_
                  refine K2 (K3 (K6 (L0 (K9 ?_))))
                  have e : numF n = (n, ⟨#[110, 111, 110, 99, 104, 97, 114, 97, 99, 116, 101, 114, 45, 99, 104, 97, 114, 97, 99, 116, 101, 114, 45, 114, 101, 102, 101, 114, 101, 110, 99, 101]⟩) := by rw [numF, if_neg (by omega), if_neg (by omega), if_neg (by omega), if_pos (by omega)]
                  rw [e]; exact fin2 rfl rfl rfl ⟨_, ⟨rfl, rfl⟩, hO.none⟩
                · refine l_y rfl rfl (y_pick_t rfl rfl) ?_
                  refine l_y rfl rfl (y_pick_f rfl rfl) ?_
                  refine l_y rfl rfl (y_assign rfl) ?_
                  refine K2 (K3 (L9 (K0 (K1 ?_))))
                  refine l_y rfl rfl (y_move rfl) ?_
                  refine Z0 (fun h9_1 => ?_) (fun h9_1 => ?_)
                  · refine l_y rfl rfl (y_move rfl) ?_
                    refine l_y rfl rfl (y_move rfl) ?_
                    refine Z1 (fun h9_4 => ?_) (fun h9_4 => ?_)
                    · refine l_y rfl rfl (y_pick_t rfl rfl) ?_
                      refine l_y rfl rfl (y_move rfl) ?_
                      refine l_y rfl rfl (y_move rfl) ?_
                      refine Z1 (fun h9_8 => ?_) (fun h9_8 => ?_)
                      · refine l_y rfl rfl (y_pick_t rfl rfl) ?_
                        refine l_y rfl rfl (y_move rfl) ?_
                        refine l_y rfl rfl (y_move rfl) ?_
                        refine Z1 (fun h9_12 => ?_) (fun h9_12 => ?_)
                        · refine l_y rfl rfl (y_pick_t rfl rfl) ?_
                          refine l_y rfl rfl (y_move rfl) ?_
                          repeat refine M2 ?_
                          refine l_y rfl rfl (y_pick_t rfl rfl) ?_
                          refine l_y rfl rfl (y_assign rfl) ?_
                          refine K2 (K3 (L8 (K0 ?_)))
                          have hms := means_small (n := n) (by omega)
                          refine K1 ?_
                          refine l_y rfl rfl (y_move rfl) ?_
                          refine CK [] hO rfl (fun k' hx hr hO' => means_spec (hO := hO')) ?_
                          rintro _ _ w ⟨rfl, rfl⟩ hO
                          simp only [List.cons_append, List.nil_append] at hO
                          refine l_y rfl rfl (y_convI rfl (w32 (by omega) (by omega))) ?_
                          refine l_y rfl rfl (y_assign rfl) ?_
                          refine l_y rfl rfl (y_assign rfl) ?_
                          refine K2 (K3 (K6 (L0 (K9 ?_))))
                          have e : numF n = ((look' OT n).getD n, ⟨#[99, 111, 110, 116, 114, 111, 108, 45, 99, 104, 97, 114, 97, 99, 116, 101, 114, 45, 114, 101, 102, 101, 114, 101, 110, 99, 101]⟩) := by rw [numF, if_neg (by omega), if_neg (by omega), if_neg (by omega), if_neg (by omega), if_pos (by omega)]
                          rw [e]; exact fin2 rfl rfl rfl ⟨_, ⟨rfl, rfl⟩, hO.none⟩
                        · refine l_y rfl rfl (y_pick_t rfl rfl) ?_
                          refine l_y rfl rfl (y_move rfl) ?_
                          refine l_y rfl rfl (y_move rfl) ?_
                          refine Z0 (fun h9_16 => ?_) (fun h9_16 => ?_)
                          · refine l_y rfl rfl (y_move rfl) ?_
                            refine l_y rfl rfl (y_move rfl) ?_
                            refine Z0 (fun h9_19 => ?_) (fun h9_19 => ?_)
                            · refine l_y rfl rfl (y_pick_t rfl rfl) ?_
                              refine l_y rfl rfl (y_pick_f rfl rfl) ?_
                              refine l_y rfl rfl (y_assign rfl) ?_
                              refine K2 (K3 (L8 (K0 ?_)))
                              have hms := means_small (n := n) (by omega)
                              refine K1 ?_
                              refine l_y rfl rfl (y_move rfl) ?_
                              refine CK [] hO rfl (fun k' hx hr hO' => means_spec (hO := hO')) ?_
                              rintro _ _ w ⟨rfl, rfl⟩ hO
                              simp only [List.cons_append, List.nil_append] at hO
                              refine l_y rfl rfl (y_convI rfl (w32 (by omega) (by omega))) ?_
                              refine l_y rfl rfl (y_assign rfl) ?_
                              refine l_y rfl rfl (y_assign rfl) ?_
                              refine K2 (K3 (K6 (L0 (K9 ?_))))
                              have e : numF n = ((look' OT n).getD n, ⟨#[99, 111, 110, 116, 114, 111, 108, 45, 99, 104, 97, 114, 97, 99, 116, 101, 114, 45, 114, 101, 102, 101, 114, 101, 110, 99, 101]⟩) := by rw [numF, if_neg (by omega), if_neg (by omega), if_neg (by omega), if_neg (by omega), if_pos (by omega)]
                              rw [e]; exact fin2 rfl rfl rfl ⟨_, ⟨rfl, rfl⟩, hO.none⟩
                            · refine l_y rfl rfl (y_pick_t rfl rfl) ?_
                              refine l_y rfl rfl (y_pick_f rfl rfl) ?_
                              refine l_y rfl rfl (y_assign rfl) ?_
                              refine K2 (K3 (L9 (K5 (K8 (K3 (K0 (K1 ?_)))))))
                              refine l_y rfl rfl (y_move rfl) ?_
                              refine l_y rfl rfl (y_convI rfl (w32 (by omega) (by omega))) ?_
                              refine l_y rfl rfl (y_assign rfl) ?_
                              refine l_y rfl rfl (y_assign rfl) ?_
                              refine K2 (K3 (K6 ?_))
                              have e : numF n = (n, ⟨#[]⟩) := by rw [numF, if_neg (by omega), if_neg (by omega), if_neg (by omega), if_neg (by omega), if_neg (by omega)]
                              rw [e]; exact fin2 rfl rfl rfl ⟨_, ⟨rfl, rfl⟩, hO.none⟩
                          · refine l_y rfl rfl (y_move rfl) ?_
                            repeat refine M2 ?_
                            refine l_y rfl rfl (y_pick_f rfl rfl) ?_
                            refine l_y rfl rfl (y_pick_f rfl rfl) ?_
                            refine l_y rfl rfl (y_assign rfl) ?_
                            refine K2 (K3 (L9 (K5 (K8 (K3 (K0 (K1 ?_)))))))
                            refine l_y rfl rfl (y_move rfl) ?_
                            refine l_y rfl rfl (y_convI rfl (w32 (by omega) (by omega))) ?_
                            refine l_y rfl rfl (y_assign rfl) ?_
                            refine l_y rfl rfl (y_assign rfl) ?_
                            refine K2 (K3 (K6 ?_))
                            have e : numF n = (n, ⟨#[]⟩) := by rw [numF, if_neg (by omega), if_neg (by omega), if_neg (by omega), if_neg (by omega), if_neg (by omega)]
                            rw [e]; exact fin2 rfl rfl rfl ⟨_, ⟨rfl, rfl⟩, hO.none⟩
                      · refine l_y rfl rfl (y_pick_t rfl rfl) ?_
                        refine l_y rfl rfl (y_move rfl) ?_
                        repeat refine M2 ?_
                        refine l_y rfl rfl (y_pick_f rfl rfl) ?_
                        refine l_y rfl rfl (y_move rfl) ?_
                        refine l_y rfl rfl (y_move rfl) ?_
                        refine Z0 (fun h9_16 => ?_) (fun h9_16 => ?_)
                        · refine l_y rfl rfl (y_move rfl) ?_
                          refine l_y rfl rfl (y_move rfl) ?_
                          refine Z0 (fun h9_19 => ?_) (fun h9_19 => ?_)
                          · refine l_y rfl rfl (y_pick_t rfl rfl) ?_
                            refine l_y rfl rfl (y_pick_f rfl rfl) ?_
                            refine l_y rfl rfl (y_assign rfl) ?_
                            refine K2 (K3 (L8 (K0 ?_)))
                            have hms := means_small (n := n) (by omega)
                            refine K1 ?_
                            refine l_y rfl rfl (y_move rfl) ?_
                            refine CK [] hO rfl (fun k' hx hr hO' => means_spec (hO := hO')) ?_
                            rintro _ _ w ⟨rfl, rfl⟩ hO
                            simp only [List.cons_append, List.nil_append] at hO
                            refine l_y rfl rfl (y_convI rfl (w32 (by omega) (by omega))) ?_
                            refine l_y rfl rfl (y_assign rfl) ?_
                            refine l_y rfl rfl (y_assign rfl) ?_
                            refine K2 (K3 (K6 (L0 (K9 ?_))))
                            have e : numF n = ((look' OT n).getD n, ⟨#[99, 111, 110, 116, 114, 111, 108, 45, 99, 104, 97, 114, 97, 99, 116, 101, 114, 45, 114, 101, 102, 101, 114, 101, 110, 99, 101]⟩) := by rw [numF, if_neg (by omega), if_neg (by omega), if_neg (by omega), if_neg (by omega), if_pos (by omega)]
                            rw [e]; exact fin2 rfl rfl rfl ⟨_, ⟨rfl, rfl⟩, hO.none⟩
                          · refine l_y rfl rfl (y_pick_t rfl rfl) ?_
                            refine l_y rfl rfl (y_pick_f rfl rfl) ?_
                            refine l_y rfl rfl (y_assign rfl) ?_
                            refine K2 (K3 (L9 (K5 (K8 (K3 (K0 (K1 ?_)))))))
                            refine l_y rfl rfl (y_move rfl) ?_
                            refine l_y rfl rfl (y_convI rfl (w32 (by omega) (by omega))) ?_
                            refine l_y rfl rfl (y_assign rfl) ?_
                            refine l_y rfl rfl (y_assign rfl) ?_
                            refine K2 (K3 (K6 ?_))
                            have e : numF n = (n, ⟨#[]⟩) := by rw [numF, if_neg (by omega), if_neg (by omega), if_neg (by omega), if_neg (by omega), if_neg (by omega)]
                            rw [e]; exact fin2 rfl rfl rfl ⟨_, ⟨rfl, rfl⟩, hO.none⟩
                        · refine l_y rfl rfl (y_move rfl) ?_
                          repeat refine M2 ?_
                          refine l_y rfl rfl (y_pick_f rfl rfl) ?_
                          refine l_y rfl rfl (y_pick_f rfl rfl) ?_
                          refine l_y rfl rfl (y_assign rfl) ?_
                          refine K2 (K3 (L9 (K5 (K8 (K3 (K0 (K1 ?_)))))))
                          refine l_y rfl rfl (y_move rfl) ?_
                          refine l_y rfl rfl (y_convI rfl (w32 (by omega) (by omega))) ?_
                          refine l_y rfl rfl (y_assign rfl) ?_
                          refine l_y rfl rfl (y_assign rfl) ?_
                          refine K2 (K3 (K6 ?_))
                          have e : numF n = (n, ⟨#[]⟩) := by rw [numF, if_neg (by omega), if_neg (by omega), if_neg (by omega), if_neg (by omega), if_neg (by omega)]
                          rw [e]; exact fin2 rfl rfl rfl ⟨_, ⟨rfl, rfl⟩, hO.none⟩
                    · refine l_y rfl rfl (y_pick_t rfl rfl) ?_
                      refine l_y rfl rfl (y_move rfl) ?_
                      repeat refine M2 ?_
                      refine l_y rfl rfl (y_pick_f rfl rfl) ?_
                      refine l_y rfl rfl (y_move rfl) ?_
                      repeat refine M2 ?_
                      refine l_y rfl rfl (y_pick_f rfl rfl) ?_
                      refine l_y rfl rfl (y_move rfl) ?_
                      refine l_y rfl rfl (y_move rfl) ?_
                      refine Z0 (fun h9_16 => ?_) (fun h9_16 => ?_)
                      · refine l_y rfl rfl (y_move rfl) ?_
                        refine l_y rfl rfl (y_move rfl) ?_
                        refine Z0 (fun h9_19 => ?_) (fun h9_19 => ?_)
                        · refine l_y rfl rfl (y_pick_t rfl rfl) ?_
                          refine l_y rfl rfl (y_pick_f rfl rfl) ?_
                          refine l_y rfl rfl (y_assign rfl) ?_
                          refine K2 (K3 (L8 (K0 ?_)))
                          have hms := means_small (n := n) (by omega)
                          refine K1 ?_
                          refine l_y rfl rfl (y_move rfl) ?_
                          refine CK [] hO rfl (fun k' hx hr hO' => means_spec (hO := hO')) ?_
                          rintro _ _ w ⟨rfl, rfl⟩ hO
                          simp only [List.cons_append, List.nil_append] at hO
                          refine l_y rfl rfl (y_convI rfl (w32 (by omega) (by omega))) ?_
                          refine l_y rfl rfl (y_assign rfl) ?_
                          refine l_y rfl rfl (y_assign rfl) ?_
                          refine K2 (K3 (K6 (L0 (K9 ?_))))
                          have e : numF n = ((look' OT n).getD n, ⟨#[99, 111, 110, 116, 114, 111, 108, 45, 99, 104, 97, 114, 97, 99, 116, 101, 114, 45, 114, 101, 102, 101, 114, 101, 110, 99, 101]⟩) := by rw [numF, if_neg (by omega), if_neg (by omega), if_neg (by omega), if_neg (by omega), if_pos (by omega)]
                          rw [e]; exact fin2 rfl rfl rfl ⟨_, ⟨rfl, rfl⟩, hO.none⟩
                        · refine l_y rfl rfl (y_pick_t rfl rfl) ?_
                          refine l_y rfl rfl (y_pick_f rfl rfl) ?_
                          refine l_y rfl rfl (y_assign rfl) ?_
                          refine K2 (K3 (L9 (K5 (K8 (K3 (K0 (K1 ?_)))))))
                          refine l_y rfl rfl (y_move rfl) ?_
                          refine l_y rfl rfl (y_convI rfl (w32 (by omega) (by omega))) ?_
                          refine l_y rfl rfl (y_assign rfl) ?_
                          refine l_y rfl rfl (y_assign rfl) ?_
                          refine K2 (K3 (K6 ?_))
                          have e : numF n = (n, ⟨#[]⟩) := by rw [numF, if_neg (by omega), if_neg (by omega), if_neg (by omega), if_neg (by omega), if_neg (by omega)]
                          rw [e]; exact fin2 rfl rfl rfl ⟨_, ⟨rfl, rfl⟩, hO.none⟩
                      · refine l_y rfl rfl (y_move rfl) ?_
                        repeat refine M2 ?_
                        refine l_y rfl rfl (y_pick_f rfl rfl) ?_
                        refine l_y rfl rfl (y_pick_f rfl rfl) ?_
                        refine l_y rfl rfl (y_assign rfl) ?_
                        refine K2 (K3 (L9 (K5 (K8 (K3 (K0 (K1 ?_)))))))
                        refine l_y rfl rfl (y_move rfl) ?_
                        refine l_y rfl rfl (y_convI rfl (w32 (by omega) (by omega))) ?_
                        refine l_y rfl rfl (y_assign rfl) ?_
                        refine l_y rfl rfl (y_assign rfl) ?_
                        refine K2 (K3 (K6 ?_))
                        have e : numF n = (n, ⟨#[]⟩) := by rw [numF, if_neg (by omega), if_neg (by omega), if_neg (by omega), if_neg (by omega), if_neg (by omega)]
                        rw [e]; exact fin2 rfl rfl rfl ⟨_, ⟨rfl, rfl⟩, hO.none⟩
                  · refine l_y rfl rfl (y_move rfl) ?_
                    repeat refine M2 ?_
                    refine l_y rfl rfl (y_pick_f rfl rfl) ?_
                    refine l_y rfl rfl (y_move rfl) ?_
                    repeat refine M2 ?_
                    refine l_y rfl rfl (y_pick_f rfl rfl) ?_
                    refine l_y rfl rfl (y_move rfl) ?_
                    repeat refine M2 ?_
                    refine l_y rfl rfl (y_pick_f rfl rfl) ?_
                    refine l_y rfl rfl (y_move rfl) ?_
                    refine l_y rfl rfl (y_move rfl) ?_
                    refine Z0 (fun h9_16 => ?_) (fun h9_16 => ?_)
                    · refine l_y rfl rfl (y_move rfl) ?_
                      refine l_y rfl rfl (y_move rfl) ?_
                      refine Z0 (fun h9_19 => ?_) (fun h9_19 => ?_)
                      · refine l_y rfl rfl (y_pick_t rfl rfl) ?_
                        refine l_y rfl rfl (y_pick_f rfl rfl) ?_
                        refine l_y rfl rfl (y_assign rfl) ?_
                        refine K2 (K3 (L8 (K0 ?_)))
                        have hms := means_small (n := n) (by omega)
                        refine K1 ?_
                        refine l_y rfl rfl (y_move rfl) ?_
                        refine CK [] hO rfl (fun k' hx hr hO' => means_spec (hO := hO')) ?_
                        rintro _ _ w ⟨rfl, rfl⟩ hO
                        simp only [List.cons_append, List.nil_append] at hO
                        refine l_y rfl rfl (y_convI rfl (w32 (by omega) (by omega))) ?_
                        refine l_y rfl rfl (y_assign rfl) ?_
                        refine l_y rfl rfl (y_assign rfl) ?_
                        refine K2 (K3 (K6 (L0 (K9 ?_))))
                        have e : numF n = ((look' OT n).getD n, ⟨#[99, 111, 110, 116, 114, 111, 108, 45, 99, 104, 97, 114, 97, 99, 116, 101, 114, 45, 114, 101, 102, 101, 114, 101, 110, 99, 101]⟩) := by rw [numF, if_neg (by omega), if_neg (by omega), if_neg (by omega), if_neg (by omega), if_pos (by omega)]
                        rw [e]; exact fin2 rfl rfl rfl ⟨_, ⟨rfl, rfl⟩, hO.none⟩
                      · refine l_y rfl rfl (y_pick_t rfl rfl) ?_
                        refine l_y rfl rfl (y_pick_f rfl rfl) ?_
                        refine l_y rfl rfl (y_assign rfl) ?_
                        refine K2 (K3 (L9 (K5 (K8 (K3 (K0 (K1 ?_)))))))
                        refine l_y rfl rfl (y_move rfl) ?_
                        refine l_y rfl rfl (y_convI rfl (w32 (by omega) (by omega))) ?_
                        refine l_y rfl rfl (y_assign rfl) ?_
                        refine l_y rfl rfl (y_assign rfl) ?_
                        refine K2 (K3 (K6 ?_))
                        have e : numF n = (n, ⟨#[]⟩) := by rw [numF, if_neg (by omega), if_neg (by omega), if_neg (by omega), if_neg (by omega), if_neg (by omega)]
                        rw [e]; exact fin2 rfl rfl rfl ⟨_, ⟨rfl, rfl⟩, hO.none⟩
                    · refine l_y rfl rfl (y_move rfl) ?_
                      repeat refine M2 ?_
                      refine l_y rfl rfl (y_pick_f rfl rfl) ?_
                      refine l_y rfl rfl (y_pick_f rfl rfl) ?_
                      refine l_y rfl rfl (y_assign rfl) ?_
                      refine K2 (K3 (L9 (K5 (K8 (K3 (K0 (K1 ?_)))))))
                      refine l_y rfl rfl (y_move rfl) ?_
                      refine l_y rfl rfl (y_convI rfl (w32 (by omega) (by omega))) ?_
                      refine l_y rfl rfl (y_assign rfl) ?_
                      refine l_y rfl rfl (y_assign rfl) ?_
                      refine K2 (K3 (K6 ?_))
                      have e : numF n = (n, ⟨#[]⟩) := by rw [numF, if_neg (by omega), if_neg (by omega), if_neg (by omega), if_neg (by omega), if_neg (by omega)]
                      rw [e]; exact fin2 rfl rfl rfl ⟨_, ⟨rfl, rfl⟩, hO.none⟩
              · refine l_y rfl rfl (y_move rfl) ?_
                repeat refine M2 ?_
                refine l_y rfl rfl (y_pick_f rfl rfl) ?_
                refine l_y rfl rfl (y_pick_f rfl rfl) ?_
                refine l_y rfl rfl (y_assign rfl) ?_
                refine K2 (K3 (L9 (K0 (K1 ?_))))
                refine l_y rfl rfl (y_move rfl) ?_
                refine Z0 (fun h9_1 => ?_) (fun h9_1 => ?_)
                · refine l_y rfl rfl (y_move rfl) ?_
                  refine l_y rfl rfl (y_move rfl) ?_
                  refine Z1 (fun h9_4 => ?_) (fun h9_4 => ?_)
                  · refine l_y rfl rfl (y_pick_t rfl rfl) ?_
                    refine l_y rfl rfl (y_move rfl) ?_
                    refine l_y rfl rfl (y_move rfl) ?_
                    refine Z1 (fun h9_8 => ?_) (fun h9_8 => ?_)
                    · refine l_y rfl rfl (y_pick_t rfl rfl) ?_
                      refine l_y rfl rfl (y_move rfl) ?_
                      refine l_y rfl rfl (y_move rfl) ?_
                      refine Z1 (fun h9_12 => ?_) (fun h9_12 => ?_)
                      · refine l_y rfl rfl (y_pick_t rfl rfl) ?_
                        refine l_y rfl rfl (y_move rfl) ?_
                        repeat refine M2 ?_
                        refine l_y rfl rfl (y_pick_t rfl rfl) ?_
                        refine l_y rfl rfl (y_assign rfl) ?_
                        refine K2 (K3 (L8 (K0 ?_)))
                        have hms := means_small (n := n) (by omega)
                        refine K1 ?_
                        refine l_y rfl rfl (y_move rfl) ?_
                        refine CK [] hO rfl (fun k' hx hr hO' => means_spec (hO := hO')) ?_
                        rintro _ _ w ⟨rfl, rfl⟩ hO
                        simp only [List.cons_append, List.nil_append] at hO
                        refine l_y rfl rfl (y_convI rfl (w32 (by omega) (by omega))) ?_
                        refine l_y rfl rfl (y_assign rfl) ?_
                        refine l_y rfl rfl (y_assign rfl) ?_
                        refine K2 (K3 (K6 (L0 (K9 ?_))))
                        have e : numF n = ((look' OT n).getD n, ⟨#[99, 111, 110, 116, 114, 111, 108, 45, 99, 104, 97, 114, 97, 99, 116, 101, 114, 45, 114, 101, 102, 101, 114, 101, 110, 99, 101]⟩) := by rw [numF, if_neg (by omega), if_neg (by omega), if_neg (by omega), if_neg (by omega), if_pos (by omega)]
                        rw [e]; exact fin2 rfl rfl rfl ⟨_, ⟨rfl, rfl⟩, hO.none⟩
                      · refine l_y rfl rfl (y_pick_t rfl rfl) ?_
                        refine l_y rfl rfl (y_move rfl) ?_
                        refine l_y rfl rfl (y_move rfl) ?_
                        refine Z0 (fun h9_16 => ?_) (fun h9_16 => ?_)
                        · refine l_y rfl rfl (y_move rfl) ?_
                          refine l_y rfl rfl (y_move rfl) ?_
                          refine Z0 (fun h9_19 => ?_) (fun h9_19 => ?_)
                          · refine l_y rfl rfl (y_pick_t rfl rfl) ?_
                            refine l_y rfl rfl (y_pick_f rfl rfl) ?_
                            refine l_y rfl rfl (y_assign rfl) ?_
                            refine K2 (K3 (L8 (K0 ?_)))
                            have hms := means_small (n := n) (by omega)
                            refine K1 ?_
                            refine l_y rfl rfl (y_move rfl) ?_
                            refine CK [] hO rfl (fun k' hx hr hO' => means_spec (hO := hO')) ?_
                            rintro _ _ w ⟨rfl, rfl⟩ hO
                            simp only [List.cons_append, List.nil_append] at hO
                            refine l_y rfl rfl (y_convI rfl (w32 (by omega) (by omega))) ?_
                            refine l_y rfl rfl (y_assign rfl) ?_
                            refine l_y rfl rfl (y_assign rfl) ?_
                            refine K2 (K3 (K6 (L0 (K9 ?_))))
                            have e : numF n = ((look' OT n).getD n, ⟨#[99, 111, 110, 116, 114, 111, 108, 45, 99, 104, 97, 114, 97, 99, 116, 101, 114, 45, 114, 101, 102, 101, 114, 101, 110, 99, 101]⟩) := by rw [numF, if_neg (by omega), if_neg (by omega), if_neg (by omega), if_neg (by omega), if_pos (by omega)]
                            rw [e]; exact fin2 rfl rfl rfl ⟨_, ⟨rfl, rfl⟩, hO.none⟩
                          · refine l_y rfl rfl (y_pick_t rfl rfl) ?_
                            refine l_y rfl rfl (y_pick_f rfl rfl) ?_
                            refine l_y rfl rfl (y_assign rfl) ?_
                            refine K2 (K3 (L9 (K5 (K8 (K3 (K0 (K1 ?_)))))))
                            refine l_y rfl rfl (y_move rfl) ?_
                            refine l_y rfl rfl (y_convI rfl (w32 (by omega) (by omega))) ?_
                            refine l_y rfl rfl (y_assign rfl) ?_
                            refine l_y rfl rfl (y_assign rfl) ?_
                            refine K2 (K3 (K6 ?_))
                            have e : numF n = (n, ⟨#[]⟩) := by rw [numF, if_neg (by omega), if_neg (by omega), if_neg (by omega), if_neg (by omega), if_neg (by omega)]
                            rw [e]; exact fin2 rfl rfl rfl ⟨_, ⟨rfl, rfl⟩, hO.none⟩
                        · refine l_y rfl rfl (y_move rfl) ?_
                          repeat refine M2 ?_
                          refine l_y rfl rfl (y_pick_f rfl rfl) ?_
                          refine l_y rfl rfl (y_pick_f rfl rfl) ?_
                          refine l_y rfl rfl (y_assign rfl) ?_
                          refine K2 (K3 (L9 (K5 (K8 (K3 (K0 (K1 ?_)))))))
                          refine l_y rfl rfl (y_move rfl) ?_
                          refine l_y rfl rfl (y_convI rfl (w32 (by omega) (by omega))) ?_
                          refine l_y rfl rfl (y_assign rfl) ?_
                          refine l_y rfl rfl (y_assign rfl) ?_
                          refine K2 (K3 (K6 ?_))
                          have e : numF n = (n, ⟨#[]⟩) := by rw [numF, if_neg (by omega), if_neg (by omega), if_neg (by omega), if_neg (by omega), if_neg (by omega)]
                          rw [e]; exact fin2 rfl rfl rfl ⟨_, ⟨rfl, rfl⟩, hO.none⟩
                    · refine l_y rfl rfl (y_pick_t rfl rfl) ?_
                      refine l_y rfl rfl (y_move rfl) ?_
                      repeat refine M2 ?_
                      refine l_y rfl rfl (y_pick_f rfl rfl) ?_
                      refine l_y rfl rfl (y_move rfl) ?_
                      refine l_y rfl rfl (y_move rfl) ?_
                      refine Z0 (fun h9_16 => ?_) (fun h9_16 => ?_)
                      · refine l_y rfl rfl (y_move rfl) ?_
                        refine l_y rfl rfl (y_move rfl) ?_
                        refine Z0 (fun h9_19 => ?_) (fun h9_19 => ?_)
                        · refine l_y rfl rfl (y_pick_t rfl rfl) ?_
                          refine l_y rfl rfl (y_pick_f rfl rfl) ?_
                          refine l_y rfl rfl (y_assign rfl) ?_
                          refine K2 (K3 (L8 (K0 ?_)))
                          have hms := means_small (n := n) (by omega)
                          refine K1 ?_
                          refine l_y rfl rfl (y_move rfl) ?_
                          refine CK [] hO rfl (fun k' hx hr hO' => means_spec (hO := hO')) ?_
                          rintro _ _ w ⟨rfl, rfl⟩ hO
                          simp only [List.cons_append, List.nil_append] at hO
                          refine l_y rfl rfl (y_convI rfl (w32 (by omega) (by omega))) ?_
                          refine l_y rfl rfl (y_assign rfl) ?_
                          refine l_y rfl rfl (y_assign rfl) ?_
                          refine K2 (K3 (K6 (L0 (K9 ?_))))
                          have e : numF n = ((look' OT n).getD n, ⟨#[99, 111, 110, 116, 114, 111, 108, 45, 99, 104, 97, 114, 97, 99, 116, 101, 114, 45, 114, 101, 102, 101, 114, 101, 110, 99, 101]⟩) := by rw [numF, if_neg (by omega), if_neg (by omega), if_neg (by omega), if_neg (by omega), if_pos (by omega)]
                          rw [e]; exact fin2 rfl rfl rfl ⟨_, ⟨rfl, rfl⟩, hO.none⟩
                        · refine l_y rfl rfl (y_pick_t rfl rfl) ?_
                          refine l_y rfl rfl (y_pick_f rfl rfl) ?_
                          refine l_y rfl rfl (y_assign rfl) ?_
                          refine K2 (K3 (L9 (K5 (K8 (K3 (K0 (K1 ?_)))))))
                          refine l_y rfl rfl (y_move rfl) ?_
                          refine l_y rfl rfl (y_convI rfl (w32 (by omega) (by omega))) ?_
                          refine l_y rfl rfl (y_assign rfl) ?_
                          refine l_y rfl rfl (y_assign rfl) ?_
                          refine K2 (K3 (K6 ?_))
                          have e : numF n = (n, ⟨#[]⟩) := by rw [numF, if_neg (by omega), if_neg (by omega), if_neg (by omega), if_neg (by omega), if_neg (by omega)]
                          rw [e]; exact fin2 rfl rfl rfl ⟨_, ⟨rfl, rfl⟩, hO.none⟩
                      · refine l_y rfl rfl (y_move rfl) ?_
                        repeat refine M2 ?_
                        refine l_y rfl rfl (y_pick_f rfl rfl) ?_
                        refine l_y rfl rfl (y_pick_f rfl rfl) ?_
                        refine l_y rfl rfl (y_assign rfl) ?_
                        refine K2 (K3 (L9 (K5 (K8 (K3 (K0 (K1 ?_)))))))
                        refine l_y rfl rfl (y_move rfl) ?_
                        refine l_y rfl rfl (y_convI rfl (w32 (by omega) (by omega))) ?_
                        refine l_y rfl rfl (y_assign rfl) ?_
                        refine l_y rfl rfl (y_assign rfl) ?_
                        refine K2 (K3 (K6 ?_))
                        have e : numF n = (n, ⟨#[]⟩) := by rw [numF, if_neg (by omega), if_neg (by omega), if_neg (by omega), if_neg (by omega), if_neg (by omega)]
                        rw [e]; exact fin2 rfl rfl rfl ⟨_, ⟨rfl, rfl⟩, hO.none⟩
                  · refine l_y rfl rfl (y_pick_t rfl rfl) ?_
                    refine l_y rfl rfl (y_move rfl) ?_
                    repeat refine M2 ?_
                    refine l_y rfl rfl (y_pick_f rfl rfl) ?_
                    refine l_y rfl rfl (y_move rfl) ?_
                    repeat refine M2 ?_
                    refine l_y rfl rfl (y_pick_f rfl rfl) ?_
                    refine l_y rfl rfl (y_move rfl) ?_
                    refine l_y rfl rfl (y_move rfl) ?_
                    refine Z0 (fun h9_16 => ?_) (fun h9_16 => ?_)
                    · refine l_y rfl rfl (y_move rfl) ?_
                      refine l_y rfl rfl (y_move rfl) ?_
                      refine Z0 (fun h9_19 => ?_) (fun h9_19 => ?_)
                      · refine l_y rfl rfl (y_pick_t rfl rfl) ?_
                        refine l_y rfl rfl (y_pick_f rfl rfl) ?_
                        refine l_y rfl rfl (y_assign rfl) ?_
                        refine K2 (K3 (L8 (K0 ?_)))
                        have hms := means_small (n := n) (by omega)
                        refine K1 ?_
                        refine l_y rfl rfl (y_move rfl) ?_
                        refine CK [] hO rfl (fun k' hx hr hO' => means_spec (hO := hO')) ?_
                        rintro _ _ w ⟨rfl, rfl⟩ hO
                        simp only [List.cons_append, List.nil_append] at hO
                        refine l_y rfl rfl (y_convI rfl (w32 (by omega) (by omega))) ?_
                        refine l_y rfl rfl (y_assign rfl) ?_
                        refine l_y rfl rfl (y_assign rfl) ?_
                        refine K2 (K3 (K6 (L0 (K9 ?_))))
                        have e : numF n = ((look' OT n).getD n, ⟨#[99, 111, 110, 116, 114, 111, 108, 45, 99, 104, 97, 114, 97, 99, 116, 101, 114, 45, 114, 101, 102, 101, 114, 101, 110, 99, 101]⟩) := by rw [numF, if_neg (by omega), if_neg (by omega), if_neg (by omega), if_neg (by omega), if_pos (by omega)]
                        rw [e]; exact fin2 rfl rfl rfl ⟨_, ⟨rfl, rfl⟩, hO.none⟩
                      · refine l_y rfl rfl (y_pick_t rfl rfl) ?_
                        refine l_y rfl rfl (y_pick_f rfl rfl) ?_
                        refine l_y rfl rfl (y_assign rfl) ?_
                        refine K2 (K3 (L9 (K5 (K8 (K3 (K0 (K1 ?_)))))))
                        refine l_y rfl rfl (y_move rfl) ?_
                        refine l_y rfl rfl (y_convI rfl (w32 (by omega) (by omega))) ?_
                        refine l_y rfl rfl (y_assign rfl) ?_
                        refine l_y rfl rfl (y_assign rfl) ?_
                        refine K2 (K3 (K6 ?_))
                        have e : numF n = (n, ⟨#[]⟩) := by rw [numF, if_neg (by omega), if_neg (by omega), if_neg (by omega), if_neg (by omega), if_neg (by omega)]
                        rw [e]; exact fin2 rfl rfl rfl ⟨_, ⟨rfl, rfl⟩, hO.none⟩
                    · refine l_y rfl rfl (y_move rfl) ?_
                      repeat refine M2 ?_
                      refine l_y rfl rfl (y_pick_f rfl rfl) ?_
                      refine l_y rfl rfl (y_pick_f rfl rfl) ?_
                      refine l_y rfl rfl (y_assign rfl) ?_
                      refine K2 (K3 (L9 (K5 (K8 (K3 (K0 (K1 ?_)))))))
                      refine l_y rfl rfl (y_move rfl) ?_
                      refine l_y rfl rfl (y_convI rfl (w32 (by omega) (by omega))) ?_
                      refine l_y rfl rfl (y_assign rfl) ?_
                      refine l_y rfl rfl (y_assign rfl) ?_
                      refine K2 (K3 (K6 ?_))
                      have e : numF n = (n, ⟨#[]⟩) := by rw [numF, if_neg (by omega), if_neg (by omega), if_neg (by omega), if_neg (by omega), if_neg (by omega)]
                      rw [e]; exact fin2 rfl rfl rfl ⟨_, ⟨rfl, rfl⟩, hO.none⟩
                · refine l_y rfl rfl (y_move rfl) ?_
                  repeat refine M2 ?_
                  refine l_y rfl rfl (y_pick_f rfl rfl) ?_
                  refine l_y rfl rfl (y_move rfl) ?_
                  repeat refine M2 ?_
                  refine l_y rfl rfl (y_pick_f rfl rfl) ?_
                  refine l_y rfl rfl (y_move rfl) ?_
                  repeat refine M2 ?_
                  refine l_y rfl rfl (y_pick_f rfl rfl) ?_
                  refine l_y rfl rfl (y_move rfl) ?_
                  refine l_y rfl rfl (y_move rfl) ?_
                  refine Z0 (fun h9_16 => ?_) (fun h9_16 => ?_)
                  · refine l_y rfl rfl (y_move rfl) ?_
                    refine l_y rfl rfl (y_move rfl) ?_
                    refine Z0 (fun h9_19 => ?_) (fun h9_19 => ?_)
                    · refine l_y rfl rfl (y_pick_t rfl rfl) ?_
                      refine l_y rfl rfl (y_pick_f rfl rfl) ?_
                      refine l_y rfl rfl (y_assign rfl) ?_
                      refine K2 (K3 (L8 (K0 ?_)))
                      have hms := means_small (n := n) (by omega)
                      refine K1 ?_
                      refine l_y rfl rfl (y_move rfl) ?_
                      refine CK [] hO rfl (fun k' hx hr hO' => means_spec (hO := hO')) ?_
                      rintro _ _ w ⟨rfl, rfl⟩ hO
                      simp only [List.cons_append, List.nil_append] at hO
                      refine l_y rfl rfl (y_convI rfl (w32 (by omega) (by omega))) ?_
                      refine l_y rfl rfl (y_assign rfl) ?_
                      refine l_y rfl rfl (y_assign rfl) ?_
                      refine K2 (K3 (K6 (L0 (K9 ?_))))
                      have e : numF n = ((look' OT n).getD n, ⟨#[99, 111, 110, 116, 114, 111, 108, 45, 99, 104, 97, 114, 97, 99, 116, 101, 114, 45, 114, 101, 102, 101, 114, 101, 110, 99, 101]⟩) := by rw [numF, if_neg (by omega), if_neg (by omega), if_neg (by omega), if_neg (by omega), if_pos (by omega)]
                      rw [e]; exact fin2 rfl rfl rfl ⟨_, ⟨rfl, rfl⟩, hO.none⟩
                    · refine l_y rfl rfl (y_pick_t rfl rfl) ?_
                      refine l_y rfl rfl (y_pick_f rfl rfl) ?_
                      refine l_y rfl rfl (y_assign rfl) ?_
                      refine K2 (K3 (L9 (K5 (K8 (K3 (K0 (K1 ?_)))))))
                      refine l_y rfl rfl (y_move rfl) ?_
                      refine l_y rfl rfl (y_convI rfl (w32 (by omega) (by omega))) ?_
                      refine l_y rfl rfl (y_assign rfl) ?_
                      refine l_y rfl rfl (y_assign rfl) ?_
                      refine K2 (K3 (K6 ?_))
                      have e : numF n = (n, ⟨#[]⟩) := by rw [numF, if_neg (by omega), if_neg (by omega), if_neg (by omega), if_neg (by omega), if_neg (by omega)]
                      rw [e]; exact fin2 rfl rfl rfl ⟨_, ⟨rfl, rfl⟩, hO.none⟩
                  · refine l_y rfl rfl (y_move rfl) ?_
                    repeat refine M2 ?_
                    refine l_y rfl rfl (y_pick_f rfl rfl) ?_
                    refine l_y rfl rfl (y_pick_f rfl rfl) ?_
                    refine l_y rfl rfl (y_assign rfl) ?_
                    refine K2 (K3 (L9 (K5 (K8 (K3 (K0 (K1 ?_)))))))
                    refine l_y rfl rfl (y_move rfl) ?_
                    refine l_y rfl rfl (y_convI rfl (w32 (by omega) (by omega))) ?_
                    refine l_y rfl rfl (y_assign rfl) ?_
                    refine l_y rfl rfl (y_assign rfl) ?_
                    refine K2 (K3 (K6 ?_))
                    have e : numF n = (n, ⟨#[]⟩) := by rw [numF, if_neg (by omega), if_neg (by omega), if_neg (by omega), if_neg (by omega), if_neg (by omega)]
                    rw [e]; exact fin2 rfl rfl rfl ⟨_, ⟨rfl, rfl⟩, hO.none⟩
        · refine l_y rfl rfl (y_move rfl) ?_
          repeat refine M2 ?_
          refine l_y rfl rfl (y_pick_f rfl rfl) ?_
          refine l_y rfl rfl (y_assign rfl) ?_
          refine K2 (K3 (L9 (K0 (K1 ?_))))
          refine l_y rfl rfl (y_move rfl) ?_
          refine l_y rfl rfl (y_remN rfl rfl (by omega) (by decide)) ?_
          refine Z0 (fun h7_2 => ?_) (fun h7_2 => ?_)
          · refine l_y rfl rfl (y_move rfl) ?_
            repeat refine M2 ?_
            refine l_y rfl rfl (y_pick_t rfl rfl) ?_
            refine l_y rfl rfl (y_assign rfl) ?_
            refine K2 (K3 (L8 (K0 (K1 ?_))))
            refine l_y rfl rfl (y_move rfl) ?_
            refine l_y rfl rfl (y_convI rfl (w32 (by omega) (by omega))) ?_
            refine l_y rfl rfl (y_assign rfl) ?_
            refine l_y rfl rfl (y_assign rfl) ?_
            refine K2 (K3 (K6 (L0 (K9 ?_))))
            have e : numF n = (n, ⟨#[110, 111, 110, 99, 104, 97, 114, 97, 99, 116, 101, 114, 45, 99, 104, 97, 114, 97, 99, 116, 101, 114, 45, 114, 101, 102, 101, 114, 101, 110, 99, 101]⟩) := by rw [numF, if_neg (by omega), if_neg (by omega), if_neg (by omega), if_pos (by omega)]
            rw [e]; exact fin2 rfl rfl rfl ⟨_, ⟨rfl, rfl⟩, hO.none⟩
          · refine l_y rfl rfl (y_move rfl) ?_
            refine l_y rfl rfl (y_move rfl) ?_
            refine Z0 (fun h7_5 => ?_) (fun h7_5 => ?_)
            · refine l_y rfl rfl (y_move rfl) ?_
              refine l_y rfl rfl (y_move rfl) ?_
              refine Z0 (fun h7_8 => ?_) (fun h7_8 => ?_)
              · refine l_y rfl rfl (y_pick_t rfl rfl) ?_
                refine l_y rfl rfl (y_pick_f rfl rfl) ?_
                refine l_y rfl rfl (y_assign rfl) ?_
                refine K2 (K3 (L8 (K0 (K1 ?_))))
                refine l_y rfl rfl (y_move rfl) ?_
                refine l_y rfl rfl (y_convI rfl (w32 (by omega) (by omega))) ?_
                refine l_y rfl rfl (y_assign rfl) ?_
                refine l_y rfl rfl (y_assign rfl) ?_
                refine K2 (K3 (K6 (L0 (K9 ?_))))
                have e : numF n = (n, ⟨#[110, 111, 110, 99, 104, 97, 114, 97, 99, 116, 101, 114, 45, 99, 104, 97, 114, 97, 99, 116, 101, 114, 45, 114, 101, 102, 101, 114, 101, 110, 99, 101]⟩) := by rw [numF, if_neg (by omega), if_neg (by omega), if_neg (by omega), if_pos (by omega)]
                rw [e]; exact fin2 rfl rfl rfl ⟨_, ⟨rfl, rfl⟩, hO.none⟩
              · refine l_y rfl rfl (y_pick_t rfl rfl) ?_
                refine l_y rfl rfl (y_pick_f rfl rfl) ?_
                refine l_y rfl rfl (y_assign rfl) ?_
                refine K2 (K3 (L9 (K0 (K1 ?_))))
                refine l_y rfl rfl (y_move rfl) ?_
                refine Z0 (fun h9_1 => ?_) (fun h9_1 => ?_)
                · refine l_y rfl rfl (y_move rfl) ?_
                  refine l_y rfl rfl (y_move rfl) ?_
                  refine Z1 (fun h9_4 => ?_) (fun h9_4 => ?_)
                  · refine l_y rfl rfl (y_pick_t rfl rfl) ?_
                    refine l_y rfl rfl (y_move rfl) ?_
                    refine l_y rfl rfl (y_move rfl) ?_
                    refine Z1 (fun h9_8 => ?_) (fun h9_8 => ?_)
                    · refine l_y rfl rfl (y_pick_t rfl rfl) ?_
                      refine l_y rfl rfl (y_move rfl) ?_
                      refine l_y rfl rfl (y_move rfl) ?_
                      refine Z1 (fun h9_12 => ?_) (fun h9_12 => ?_)
                      · refine l_y rfl rfl (y_pick_t rfl rfl) ?_
                        refine l_y rfl rfl (y_move rfl) ?_
                        repeat refine M2 ?_
                        refine l_y rfl rfl (y_pick_t rfl rfl) ?_
                        refine l_y rfl rfl (y_assign rfl) ?_
                        refine K2 (K3 (L8 (K0 ?_)))
                        have hms := means_small (n := n) (by omega)
                        refine K1 ?_
                        refine l_y rfl rfl (y_move rfl) ?_
                        refine CK [] hO rfl (fun k' hx hr hO' => means_spec (hO := hO')) ?_
                        rintro _ _ w ⟨rfl, rfl⟩ hO
                        simp only [List.cons_append, List.nil_append] at hO
                        refine l_y rfl rfl (y_convI rfl (w32 (by omega) (by omega))) ?_
                        refine l_y rfl rfl (y_assign rfl) ?_
                        refine l_y rfl rfl (y_assign rfl) ?_
                        refine K2 (K3 (K6 (L0 (K9 ?_))))
                        have e : numF n = ((look' OT n).getD n, ⟨#[99, 111, 110, 116, 114, 111, 108, 45, 99, 104, 97, 114, 97, 99, 116, 101, 114, 45, 114, 101, 102, 101, 114, 101, 110, 99, 101]⟩) := by rw [numF, if_neg (by omega), if_neg (by omega), if_neg (by omega), if_neg (by omega), if_pos (by omega)]
                        rw [e]; exact fin2 rfl rfl rfl ⟨_, ⟨rfl, rfl⟩, hO.none⟩
                      · refine l_y rfl rfl (y_pick_t rfl rfl) ?_
                        refine l_y rfl rfl (y_move rfl) ?_
                        refine l_y rfl rfl (y_move rfl) ?_
                        refine Z0 (fun h9_16 => ?_) (fun h9_16 => ?_)
                        · refine l_y rfl rfl (y_move rfl) ?_
                          refine l_y rfl rfl (y_move rfl) ?_
                          refine Z0 (fun h9_19 => ?_) (fun h9_19 => ?_)
                          · refine l_y rfl rfl (y_pick_t rfl rfl) ?_
                            refine l_y rfl rfl (y_pick_f rfl rfl) ?_
                            refine l_y rfl rfl (y_assign rfl) ?_
                            refine K2 (K3 (L8 (K0 ?_)))
                            have hms := means_small (n := n) (by omega)
                            refine K1 ?_
                            refine l_y rfl rfl (y_move rfl) ?_
                            refine CK [] hO rfl (fun k' hx hr hO' => means_spec (hO := hO')) ?_
                            rintro _ _ w ⟨rfl, rfl⟩ hO
                            simp only [List.cons_append, List.nil_append] at hO
                            refine l_y rfl rfl (y_convI rfl (w32 (by omega) (by omega))) ?_
                            refine l_y rfl rfl (y_assign rfl) ?_
                            refine l_y rfl rfl (y_assign rfl) ?_
                            refine K2 (K3 (K6 (L0 (K9 ?_))))
                            have e : numF n = ((look' OT n).getD n, ⟨#[99, 111, 110, 116, 114, 111, 108, 45, 99, 104, 97, 114, 97, 99, 116, 101, 114, 45, 114, 101, 102, 101, 114, 101, 110, 99, 101]⟩) := by rw [numF, if_neg (by omega), if_neg (by omega), if_neg (by omega), if_neg (by omega), if_pos (by omega)]
                            rw [e]; exact fin2 rfl rfl rfl ⟨_, ⟨rfl, rfl⟩, hO.none⟩
                          · refine l_y rfl rfl (y_pick_t rfl rfl) ?_
                            refine l_y rfl rfl (y_pick_f rfl rfl) ?_
                            refine l_y rfl rfl (y_assign rfl) ?_
                            refine K2 (K3 (L9 (K5 (K8 (K3 (K0 (K1 ?_)))))))
                            refine l_y rfl rfl (y_move rfl) ?_
                            refine l_y rfl rfl (y_convI rfl (w32 (by omega) (by omega))) ?_
                            refine l_y rfl rfl (y_assign rfl) ?_
                            refine l_y rfl rfl (y_assign rfl) ?_
                            refine K2 (K3 (K6 ?_))
                            have e : numF n = (n, ⟨#[]⟩) := by rw [numF, if_neg (by omega), if_neg (by omega), if_neg (by omega), if_neg (by omega), if_neg (by omega)]
                            rw [e]; exact fin2 rfl rfl rfl ⟨_, ⟨rfl, rfl⟩, hO.none⟩
                        · refine l_y rfl rfl (y_move rfl) ?_
                          repeat refine M2 ?_
                          refine l_y rfl rfl (y_pick_f rfl rfl) ?_
                          refine l_y rfl rfl (y_pick_f rfl rfl) ?_
                          refine l_y rfl rfl (y_assign rfl) ?_
                          refine K2 (K3 (L9 (K5 (K8 (K3 (K0 (K1 ?_)))))))
                          refine l_y rfl rfl (y_move rfl) ?_
                          refine l_y rfl rfl (y_convI rfl (w32 (by omega) (by omega))) ?_
                          refine l_y rfl rfl (y_assign rfl) ?_
                          refine l_y rfl rfl (y_assign rfl) ?_
                          refine K2 (K3 (K6 ?_))
                          have e : numF n = (n, ⟨#[]⟩) := by rw [numF, if_neg (by omega), if_neg (by omega), if_neg (by omega), if_neg (by omega), if_neg (by omega)]
                          rw [e]; exact fin2 rfl rfl rfl ⟨_, ⟨rfl, rfl⟩, hO.none⟩
                    · refine l_y rfl rfl (y_pick_t rfl rfl) ?_
                      refine l_y rfl rfl (y_move rfl) ?_
                      repeat refine M2 ?_
                      refine l_y rfl rfl (y_pick_f rfl rfl) ?_
                      refine l_y rfl rfl (y_move rfl) ?_
                      refine l_y rfl rfl (y_move rfl) ?_
                      refine Z0 (fun h9_16 => ?_) (fun h9_16 => ?_)
                      · refine l_y rfl rfl (y_move rfl) ?_
                        refine l_y rfl rfl (y_move rfl) ?_
                        refine Z0 (fun h9_19 => ?_) (fun h9_19 => ?_)
                        · refine l_y rfl rfl (y_pick_t rfl rfl) ?_
                          refine l_y rfl rfl (y_pick_f rfl rfl) ?_
                          refine l_y rfl rfl (y_assign rfl) ?_
                          refine K2 (K3 (L8 (K0 ?_)))
                          have hms := means_small (n := n) (by omega)
                          refine K1 ?_
                          refine l_y rfl rfl (y_move rfl) ?_
                          refine CK [] hO rfl (fun k' hx hr hO' => means_spec (hO := hO')) ?_
                          rintro _ _ w ⟨rfl, rfl⟩ hO
                          simp only [List.cons_append, List.nil_append] at hO
                          refine l_y rfl rfl (y_convI rfl (w32 (by omega) (by omega))) ?_
                          refine l_y rfl rfl (y_assign rfl) ?_
                          refine l_y rfl rfl (y_assign rfl) ?_
                          refine K2 (K3 (K6 (L0 (K9 ?_))))
                          have e : numF n = ((look' OT n).getD n, ⟨#[99, 111, 110, 116, 114, 111, 108, 45, 99, 104, 97, 114, 97, 99, 116, 101, 114, 45, 114, 101, 102, 101, 114, 101, 110, 99, 101]⟩) := by rw [numF, if_neg (by omega), if_neg (by omega), if_neg (by omega), if_neg (by omega), if_pos (by omega)]
                          rw [e]; exact fin2 rfl rfl rfl ⟨_, ⟨rfl, rfl⟩, hO.none⟩
                        · refine l_y rfl rfl (y_pick_t rfl rfl) ?_
                          refine l_y rfl rfl (y_pick_f rfl rfl) ?_
                          refine l_y rfl rfl (y_assign rfl) ?_
                          refine K2 (K3 (L9 (K5 (K8 (K3 (K0 (K1 ?_)))))))
                          refine l_y rfl rfl (y_move rfl) ?_
                          refine l_y rfl rfl (y_convI rfl (w32 (by omega) (by omega))) ?_
                          refine l_y rfl rfl (y_assign rfl) ?_
                          refine l_y rfl rfl (y_assign rfl) ?_
                          refine K2 (K3 (K6 ?_))
                          have e : numF n = (n, ⟨#[]⟩) := by rw [numF, if_neg (by omega), if_neg (by omega), if_neg (by omega), if_neg (by omega), if_neg (by omega)]
                          rw [e]; exact fin2 rfl rfl rfl ⟨_, ⟨rfl, rfl⟩, hO.none⟩
                      · refine l_y rfl rfl (y_move rfl) ?_
                        repeat refine M2 ?_
                        refine l_y rfl rfl (y_pick_f rfl rfl) ?_
                        refine l_y rfl rfl (y_pick_f rfl rfl) ?_
                        refine l_y rfl rfl (y_assign rfl) ?_
                        refine K2 (K3 (L9 (K5 (K8 (K3 (K0 (K1 ?_)))))))
                        refine l_y rfl rfl (y_move rfl) ?_
                        refine l_y rfl rfl (y_convI rfl (w32 (by omega) (by omega))) ?_
                        refine l_y rfl rfl (y_assign rfl) ?_
                        refine l_y rfl rfl (y_assign rfl) ?_
                        refine K2 (K3 (K6 ?_))
                        have e : numF n = (n, ⟨#[]⟩) := by rw [numF, if_neg (by omega), if_neg (by omega), if_neg (by omega), if_neg (by omega), if_neg (by omega)]
                        rw [e]; exact fin2 rfl rfl rfl ⟨_, ⟨rfl, rfl⟩, hO.none⟩
                  · refine l_y rfl rfl (y_pick_t rfl rfl) ?_
                    refine l_y rfl rfl (y_move rfl) ?_
                    repeat refine M2 ?_
                    refine l_y rfl rfl (y_pick_f rfl rfl) ?_
                    refine l_y rfl rfl (y_move rfl) ?_
                    repeat refine M2 ?_
                    refine l_y rfl rfl (y_pick_f rfl rfl) ?_
                    refine l_y rfl rfl (y_move rfl) ?_
                    refine l_y rfl rfl (y_move rfl) ?_
                    refine Z0 (fun h9_16 => ?_) (fun h9_16 => ?_)
                    · refine l_y rfl rfl (y_move rfl) ?_
                      refine l_y rfl rfl (y_move rfl) ?_
                      refine Z0 (fun h9_19 => ?_) (fun h9_19 => ?_)
                      · refine l_y rfl rfl (y_pick_t rfl rfl) ?_
                        refine l_y rfl rfl (y_pick_f rfl rfl) ?_
                        refine l_y rfl rfl (y_assign rfl) ?_
                        refine K2 (K3 (L8 (K0 ?_)))
                        have hms := means_small (n := n) (by omega)
                        refine K1 ?_
                        refine l_y rfl rfl (y_move rfl) ?_
                        refine CK [] hO rfl (fun k' hx hr hO' => means_spec (hO := hO')) ?_
                        rintro _ _ w ⟨rfl, rfl⟩ hO
                        simp only [List.cons_append, List.nil_append] at hO
                        refine l_y rfl rfl (y_convI rfl (w32 (by omega) (by omega))) ?_
                        refine l_y rfl rfl (y_assign rfl) ?_
                        refine l_y rfl rfl (y_assign rfl) ?_
                        refine K2 (K3 (K6 (L0 (K9 ?_))))
                        have e : numF n = ((look' OT n).getD n, ⟨#[99, 111, 110, 116, 114, 111, 108, 45, 99, 104, 97, 114, 97, 99, 116, 101, 114, 45, 114, 101, 102, 101, 114, 101, 110, 99, 101]⟩) := by rw [numF, if_neg (by omega), if_neg (by omega), if_neg (by omega), if_neg (by omega), if_pos (by omega)]
                        rw [e]; exact fin2 rfl rfl rfl ⟨_, ⟨rfl, rfl⟩, hO.none⟩
                      · refine l_y rfl rfl (y_pick_t rfl rfl) ?_
                        refine l_y rfl rfl (y_pick_f rfl rfl) ?_
                        refine l_y rfl rfl (y_assign rfl) ?_
                        refine K2 (K3 (L9 (K5 (K8 (K3 (K0 (K1 ?_)))))))
                        refine l_y rfl rfl (y_move rfl) ?_
                        refine l_y rfl rfl (y_convI rfl (w32 (by omega) (by omega))) ?_
                        refine l_y rfl rfl (y_assign rfl) ?_
                        refine l_y rfl rfl (y_assign rfl) ?_
                        refine K2 (K3 (K6 ?_))
                        have e : numF n = (n, ⟨#[]⟩) := by rw [numF, if_neg (by omega), if_neg (by omega), if_neg (by omega), if_neg (by omega), if_neg (by omega)]
                        rw [e]; exact fin2 rfl rfl rfl ⟨_, ⟨rfl, rfl⟩, hO.none⟩
                    · refine l_y rfl rfl (y_move rfl) ?_
                      repeat refine M2 ?_
                      refine l_y rfl rfl (y_pick_f rfl rfl) ?_
                      refine l_y rfl rfl (y_pick_f rfl rfl) ?_
                      refine l_y rfl rfl (y_assign rfl) ?_
                      refine K2 (K3 (L9 (K5 (K8 (K3 (K0 (K1 ?_)))))))
                      refine l_y rfl rfl (y_move rfl) ?_
                      refine l_y rfl rfl (y_convI rfl (w32 (by omega) (by omega))) ?_
                      refine l_y rfl rfl (y_assign rfl) ?_
                      refine l_y rfl rfl (y_assign rfl) ?_
                      refine K2 (K3 (K6 ?_))
                      have e : numF n = (n, ⟨#[]⟩) := by rw [numF, if_neg (by omega), if_neg (by omega), if_neg (by omega), if_neg (by omega), if_neg (by omega)]
                      rw [e]; exact fin2 rfl rfl rfl ⟨_, ⟨rfl, rfl⟩, hO.none⟩
                · refine l_y rfl rfl (y_move rfl) ?_
                  repeat refine M2 ?_
                  refine l_y rfl rfl (y_pick_f rfl rfl) ?_
                  refine l_y rfl rfl (y_move rfl) ?_
                  repeat refine M2 ?_
                  refine l_y rfl rfl (y_pick_f rfl rfl) ?_
                  refine l_y rfl rfl (y_move rfl) ?_
                  repeat refine M2 ?_
                  refine l_y rfl rfl (y_pick_f rfl rfl) ?_
                  refine l_y rfl rfl (y_move rfl) ?_
                  refine l_y rfl rfl (y_move rfl) ?_
                  refine Z0 (fun h9_16 => ?_) (fun h9_16 => ?_)
                  · refine l_y rfl rfl (y_move rfl) ?_
                    refine l_y rfl rfl (y_move rfl) ?_
                    refine Z0 (fun h9_19 => ?_) (fun h9_19 => ?_)
                    · refine l_y rfl rfl (y_pick_t rfl rfl) ?_
                      refine l_y rfl rfl (y_pick_f rfl rfl) ?_
                      refine l_y rfl rfl (y_assign rfl) ?_
                      refine K2 (K3 (L8 (K0 ?_)))
                      have hms := means_small (n := n) (by omega)
                      refine K1 ?_
                      refine l_y rfl rfl (y_move rfl) ?_
                      refine CK [] hO rfl (fun k' hx hr hO' => means_spec (hO := hO')) ?_
                      rintro _ _ w ⟨rfl, rfl⟩ hO
                      simp only [List.cons_append, List.nil_append] at hO
                      refine l_y rfl rfl (y_convI rfl (w32 (by omega) (by omega))) ?_
                      refine l_y rfl rfl (y_assign rfl) ?_
                      refine l_y rfl rfl (y_assign rfl) ?_
                      refine K2 (K3 (K6 (L0 (K9 ?_))))
                      have e : numF n = ((look' OT n).getD n, ⟨#[99, 111, 110, 116, 114, 111, 108, 45, 99, 104, 97, 114, 97, 99, 116, 101, 114, 45, 114, 101, 102, 101, 114, 101, 110, 99, 101]⟩) := by rw [numF, if_neg (by omega), if_neg (by omega), if_neg (by omega), if_neg (by omega), if_pos (by omega)]
                      rw [e]; exact fin2 rfl rfl rfl ⟨_, ⟨rfl, rfl⟩, hO.none⟩
                    · refine l_y rfl rfl (y_pick_t rfl rfl) ?_
                      refine l_y rfl rfl (y_pick_f rfl rfl) ?_
                      refine l_y rfl rfl (y_assign rfl) ?_
                      refine K2 (K3 (L9 (K5 (K8 (K3 (K0 (K1 ?_)))))))
                      refine l_y rfl rfl (y_move rfl) ?_
                      refine l_y rfl rfl (y_convI rfl (w32 (by omega) (by omega))) ?_
                      refine l_y rfl rfl (y_assign rfl) ?_
                      refine l_y rfl rfl (y_assign rfl) ?_
                      refine K2 (K3 (K6 ?_))
                      have e : numF n = (n, ⟨#[]⟩) := by rw [numF, if_neg (by omega), if_neg (by omega), if_neg (by omega), if_neg (by omega), if_neg (by omega)]
                      rw [e]; exact fin2 rfl rfl rfl ⟨_, ⟨rfl, rfl⟩, hO.none⟩
                  · refine l_y rfl rfl (y_move rfl) ?_
                    repeat refine M2 ?_
                    refine l_y rfl rfl (y_pick_f rfl rfl) ?_
                    refine l_y rfl rfl (y_pick_f rfl rfl) ?_
                    refine l_y rfl rfl (y_assign rfl) ?_
                    refine K2 (K3 (L9 (K5 (K8 (K3 (K0 (K1 ?_)))))))
                    refine l_y rfl rfl (y_move rfl) ?_
                    refine l_y rfl rfl (y_convI rfl (w32 (by omega) (by omega))) ?_
                    refine l_y rfl rfl (y_assign rfl) ?_
                    refine l_y rfl rfl (y_assign rfl) ?_
                    refine K2 (K3 (K6 ?_))
                    have e : numF n = (n, ⟨#[]⟩) := by rw [numF, if_neg (by omega), if_neg (by omega), if_neg (by omega), if_neg (by omega), if_neg (by omega)]
                    rw [e]; exact fin2 rfl rfl rfl ⟨_, ⟨rfl, rfl⟩, hO.none⟩
            · refine l_y rfl rfl (y_move rfl) ?_
              repeat refine M2 ?_
              refine l_y rfl rfl (y_pick_f rfl rfl) ?_
              refine l_y rfl rfl (y_pick_f rfl rfl) ?_
              refine l_y rfl rfl (y_assign rfl) ?_
              refine K2 (K3 (L9 (K0 (K1 ?_))))
              refine l_y rfl rfl (y_move rfl) ?_
              refine Z0 (fun h9_1 => ?_) (fun h9_1 => ?_)
              · refine l_y rfl rfl (y_move rfl) ?_
                refine l_y rfl rfl (y_move rfl) ?_
                refine Z1 (fun h9_4 => ?_) (fun h9_4 => ?_)
                · refine l_y rfl rfl (y_pick_t rfl rfl) ?_
                  refine l_y rfl rfl (y_move rfl) ?_
                  refine l_y rfl rfl (y_move rfl) ?_
                  refine Z1 (fun h9_8 => ?_) (fun h9_8 => ?_)
                  · refine l_y rfl rfl (y_pick_t rfl rfl) ?_
                    refine l_y rfl rfl (y_move rfl) ?_
                    refine l_y rfl rfl (y_move rfl) ?_
                    refine Z1 (fun h9_12 => ?_) (fun h9_12 => ?_)
                    · refine l_y rfl rfl (y_pick_t rfl rfl) ?_
                      refine l_y rfl rfl (y_move rfl) ?_
                      repeat refine M2 ?_
                      refine l_y rfl rfl (y_pick_t rfl rfl) ?_
                      refine l_y rfl rfl (y_assign rfl) ?_
                      refine K2 (K3 (L8 (K0 ?_)))
                      have hms := means_small (n := n) (by omega)
                      refine K1 ?_
                      refine l_y rfl rfl (y_move rfl) ?_
                      refine CK [] hO rfl (fun k' hx hr hO' => means_spec (hO := hO')) ?_
                      rintro _ _ w ⟨rfl, rfl⟩ hO
                      simp only [List.cons_append, List.nil_append] at hO
                      refine l_y rfl rfl (y_convI rfl (w32 (by omega) (by omega))) ?_
                      refine l_y rfl rfl (y_assign rfl) ?_
                      refine l_y rfl rfl (y_assign rfl) ?_
                      refine K2 (K3 (K6 (L0 (K9 ?_))))
                      have e : numF n = ((look' OT n).getD n, ⟨#[99, 111, 110, 116, 114, 111, 108, 45, 99, 104, 97, 114, 97, 99, 116, 101, 114, 45, 114, 101, 102, 101, 114, 101, 110, 99, 101]⟩) := by rw [numF, if_neg (by omega), if_neg (by omega), if_neg (by omega), if_neg (by omega), if_pos (by omega)]
                      rw [e]; exact fin2 rfl rfl rfl ⟨_, ⟨rfl, rfl⟩, hO.none⟩
                    · refine l_y rfl rfl (y_pick_t rfl rfl) ?_
                      refine l_y rfl rfl (y_move rfl) ?_
                      refine l_y rfl rfl (y_move rfl) ?_
                      refine Z0 (fun h9_16 => ?_) (fun h9_16 => ?_)
                      · refine l_y rfl rfl (y_move rfl) ?_
                        refine l_y rfl rfl (y_move rfl) ?_
                        refine Z0 (fun h9_19 => ?_) (fun h9_19 => ?_)
                        · refine l_y rfl rfl (y_pick_t rfl rfl) ?_
                          refine l_y rfl rfl (y_pick_f rfl rfl) ?_
                          refine l_y rfl rfl (y_assign rfl) ?_
                          refine K2 (K3 (L8 (K0 ?_)))
                          have hms := means_small (n := n) (by omega)
                          refine K1 ?_
                          refine l_y rfl rfl (y_move rfl) ?_
                          refine CK [] hO rfl (fun k' hx hr hO' => means_spec (hO := hO')) ?_
                          rintro _ _ w ⟨rfl, rfl⟩ hO
                          simp only [List.cons_append, List.nil_append] at hO
                          refine l_y rfl rfl (y_convI rfl (w32 (by omega) (by omega))) ?_
                          refine l_y rfl rfl (y_assign rfl) ?_
                          refine l_y rfl rfl (y_assign rfl) ?_
                          refine K2 (K3 (K6 (L0 (K9 ?_))))
                          have e : numF n = ((look' OT n).getD n, ⟨#[99, 111, 110, 116, 114, 111, 108, 45, 99, 104, 97, 114, 97, 99, 116, 101, 114, 45, 114, 101, 102, 101, 114, 101, 110, 99, 101]⟩) := by rw [numF, if_neg (by omega), if_neg (by omega), if_neg (by omega), if_neg (by omega), if_pos (by omega)]
                          rw [e]; exact fin2 rfl rfl rfl ⟨_, ⟨rfl, rfl⟩, hO.none⟩
                        · refine l_y rfl rfl (y_pick_t rfl rfl) ?_
                          refine l_y rfl rfl (y_pick_f rfl rfl) ?_
                          refine l_y rfl rfl (y_assign rfl) ?_
                          refine K2 (K3 (L9 (K5 (K8 (K3 (K0 (K1 ?_)))))))
                          refine l_y rfl rfl (y_move rfl) ?_
                          refine l_y rfl rfl (y_convI rfl (w32 (by omega) (by omega))) ?_
                          refine l_y rfl rfl (y_assign rfl) ?_
                          refine l_y rfl rfl (y_assign rfl) ?_
                          refine K2 (K3 (K6 ?_))
                          have e : numF n = (n, ⟨#[]⟩) := by rw [numF, if_neg (by omega), if_neg (by omega), if_neg (by omega), if_neg (by omega), if_neg (by omega)]
                          rw [e]; exact fin2 rfl rfl rfl ⟨_, ⟨rfl, rfl⟩, hO.none⟩
                      · refine l_y rfl rfl (y_move rfl) ?_
                        repeat refine M2 ?_
                        refine l_y rfl rfl (y_pick_f rfl rfl) ?_
                        refine l_y rfl rfl (y_pick_f rfl rfl) ?_
                        refine l_y rfl rfl (y_assign rfl) ?_
                        refine K2 (K3 (L9 (K5 (K8 (K3 (K0 (K1 ?_)))))))
                        refine l_y rfl rfl (y_move rfl) ?_
                        refine l_y rfl rfl (y_convI rfl (w32 (by omega) (by omega))) ?_
                        refine l_y rfl rfl (y_assign rfl) ?_
                        refine l_y rfl rfl (y_assign rfl) ?_
                        refine K2 (K3 (K6 ?_))
                        have e : numF n = (n, ⟨#[]⟩) := by rw [numF, if_neg (by omega), if_neg (by omega), if_neg (by omega), if_neg (by omega), if_neg (by omega)]
                        rw [e]; exact fin2 rfl rfl rfl ⟨_, ⟨rfl, rfl⟩, hO.none⟩
                  · refine l_y rfl rfl (y_pick_t rfl rfl) ?_
                    refine l_y rfl rfl (y_move rfl) ?_
                    repeat refine M2 ?_
                    refine l_y rfl rfl (y_pick_f rfl rfl) ?_
                    refine l_y rfl rfl (y_move rfl) ?_
                    refine l_y rfl rfl (y_move rfl) ?_
                    refine Z0 (fun h9_16 => ?_) (fun h9_16 => ?_)
                    · refine l_y rfl rfl (y_move rfl) ?_
                      refine l_y rfl rfl (y_move rfl) ?_
                      refine Z0 (fun h9_19 => ?_) (fun h9_19 => ?_)
                      · refine l_y rfl rfl (y_pick_t rfl rfl) ?_
                        refine l_y rfl rfl (y_pick_f rfl rfl) ?_
                        refine l_y rfl rfl (y_assign rfl) ?_
                        refine K2 (K3 (L8 (K0 ?_)))
                        have hms := means_small (n := n) (by omega)
                        refine K1 ?_
                        refine l_y rfl rfl (y_move rfl) ?_
                        refine CK [] hO rfl (fun k' hx hr hO' => means_spec (hO := hO')) ?_
                        rintro _ _ w ⟨rfl, rfl⟩ hO
                        simp only [List.cons_append, List.nil_append] at hO
                        refine l_y rfl rfl (y_convI rfl (w32 (by omega) (by omega))) ?_
                        refine l_y rfl rfl (y_assign rfl) ?_
                        refine l_y rfl rfl (y_assign rfl) ?_
                        refine K2 (K3 (K6 (L0 (K9 ?_))))
                        have e : numF n = ((look' OT n).getD n, ⟨#[99, 111, 110, 116, 114, 111, 108, 45, 99, 104, 97, 114, 97, 99, 116, 101, 114, 45, 114, 101, 102, 101, 114, 101, 110, 99, 101]⟩) := by rw [numF, if_neg (by omega), if_neg (by omega), if_neg (by omega), if_neg (by omega), if_pos (by omega)]
                        rw [e]; exact fin2 rfl rfl rfl ⟨_, ⟨rfl, rfl⟩, hO.none⟩
                      · refine l_y rfl rfl (y_pick_t rfl rfl) ?_
                        refine l_y rfl rfl (y_pick_f rfl rfl) ?_
                        refine l_y rfl rfl (y_assign rfl) ?_
                        refine K2 (K3 (L9 (K5 (K8 (K3 (K0 (K1 ?_)))))))
                        refine l_y rfl rfl (y_move rfl) ?_
                        refine l_y rfl rfl (y_convI rfl (w32 (by omega) (by omega))) ?_
                        refine l_y rfl rfl (y_assign rfl) ?_
                        refine l_y rfl rfl (y_assign rfl) ?_
                        refine K2 (K3 (K6 ?_))
                        have e : numF n = (n, ⟨#[]⟩) := by rw [numF, if_neg (by omega), if_neg (by omega), if_neg (by omega), if_neg (by omega), if_neg (by omega)]
                        rw [e]; exact fin2 rfl rfl rfl ⟨_, ⟨rfl, rfl⟩, hO.none⟩
                    · refine l_y rfl rfl (y_move rfl) ?_
                      repeat refine M2 ?_
                      refine l_y rfl rfl (y_pick_f rfl rfl) ?_
                      refine l_y rfl rfl (y_pick_f rfl rfl) ?_
                      refine l_y rfl rfl (y_assign rfl) ?_
                      refine K2 (K3 (L9 (K5 (K8 (K3 (K0 (K1 ?_)))))))
                      refine l_y rfl rfl (y_move rfl) ?_
                      refine l_y rfl rfl (y_convI rfl (w32 (by omega) (by omega))) ?_
                      refine l_y rfl rfl (y_assign rfl) ?_
                      refine l_y rfl rfl (y_assign rfl) ?_
                      refine K2 (K3 (K6 ?_))
                      have e : numF n = (n, ⟨#[]⟩) := by rw [numF, if_neg (by omega), if_neg (by omega), if_neg (by omega), if_neg (by omega), if_neg (by omega)]
                      rw [e]; exact fin2 rfl rfl rfl ⟨_, ⟨rfl, rfl⟩, hO.none⟩
                · refine l_y rfl rfl (y_pick_t rfl rfl) ?_
                  refine l_y rfl rfl (y_move rfl) ?_
                  repeat refine M2 ?_
                  refine l_y rfl rfl (y_pick_f rfl rfl) ?_
                  refine l_y rfl rfl (y_move rfl) ?_
                  repeat refine M2 ?_
                  refine l_y rfl rfl (y_pick_f rfl rfl) ?_
                  refine l_y rfl rfl (y_move rfl) ?_
                  refine l_y rfl rfl (y_move rfl) ?_
                  refine Z0 (fun h9_16 => ?_) (fun h9_16 => ?_)
                  · refine l_y rfl rfl (y_move rfl) ?_
                    refine l_y rfl rfl (y_move rfl) ?_
                    refine Z0 (fun h9_19 => ?_) (fun h9_19 => ?_)
                    · refine l_y rfl rfl (y_pick_t rfl rfl) ?_
                      refine l_y rfl rfl (y_pick_f rfl rfl) ?_
                      refine l_y rfl rfl (y_assign rfl) ?_
                      refine K2 (K3 (L8 (K0 ?_)))
                      have hms := means_small (n := n) (by omega)
                      refine K1 ?_
                      refine l_y rfl rfl (y_move rfl) ?_
                      refine CK [] hO rfl (fun k' hx hr hO' => means_spec (hO := hO')) ?_
                      rintro _ _ w ⟨rfl, rfl⟩ hO
                      simp only [List.cons_append, List.nil_append] at hO
                      refine l_y rfl rfl (y_convI rfl (w32 (by omega) (by omega))) ?_
                      refine l_y rfl rfl (y_assign rfl) ?_
                      refine l_y rfl rfl (y_assign rfl) ?_
                      refine K2 (K3 (K6 (L0 (K9 ?_))))
                      have e : numF n = ((look' OT n).getD n, ⟨#[99, 111, 110, 116, 114, 111, 108, 45, 99, 104, 97, 114, 97, 99, 116, 101, 114, 45, 114, 101, 102, 101, 114, 101, 110, 99, 101]⟩) := by rw [numF, if_neg (by omega), if_neg (by omega), if_neg (by omega), if_neg (by omega), if_pos (by omega)]
                      rw [e]; exact fin2 rfl rfl rfl ⟨_, ⟨rfl, rfl⟩, hO.none⟩
                    · refine l_y rfl rfl (y_pick_t rfl rfl) ?_
                      refine l_y rfl rfl (y_pick_f rfl rfl) ?_
                      refine l_y rfl rfl (y_assign rfl) ?_
                      refine K2 (K3 (L9 (K5 (K8 (K3 (K0 (K1 ?_)))))))
                      refine l_y rfl rfl (y_move rfl) ?_
                      refine l_y rfl rfl (y_convI rfl (w32 (by omega) (by omega))) ?_
                      refine l_y rfl rfl (y_assign rfl) ?_
                      refine l_y rfl rfl (y_assign rfl) ?_
                      refine K2 (K3 (K6 ?_))
                      have e : numF n = (n, ⟨#[]⟩) := by rw [numF, if_neg (by omega), if_neg (by omega), if_neg (by omega), if_neg (by omega), if_neg (by omega)]
                      rw [e]; exact fin2 rfl rfl rfl ⟨_, ⟨rfl, rfl⟩, hO.none⟩
                  · refine l_y rfl rfl (y_move rfl) ?_
                    repeat refine M2 ?_
                    refine l_y rfl rfl (y_pick_f rfl rfl) ?_
                    refine l_y rfl rfl (y_pick_f rfl rfl) ?_
                    refine l_y rfl rfl (y_assign rfl) ?_
                    refine K2 (K3 (L9 (K5 (K8 (K3 (K0 (K1 ?_)))))))
                    refine l_y rfl rfl (y_move rfl) ?_
                    refine l_y rfl rfl (y_convI rfl (w32 (by omega) (by omega))) ?_
                    refine l_y rfl rfl (y_assign rfl) ?_
                    refine l_y rfl rfl (y_assign rfl) ?_
                    refine K2 (K3 (K6 ?_))
                    have e : numF n = (n, ⟨#[]⟩) := by rw [numF, if_neg (by omega), if_neg (by omega), if_neg (by omega), if_neg (by omega), if_neg (by omega)]
                    rw [e]; exact fin2 rfl rfl rfl ⟨_, ⟨rfl, rfl⟩, hO.none⟩
              · refine l_y rfl rfl (y_move rfl) ?_
                repeat refine M2 ?_
                refine l_y rfl rfl (y_pick_f rfl rfl) ?_
                refine l_y rfl rfl (y_move rfl) ?_
                repeat refine M2 ?_
                refine l_y rfl rfl (y_pick_f rfl rfl) ?_
                refine l_y rfl rfl (y_move rfl) ?_
                repeat refine M2 ?_
                refine l_y rfl rfl (y_pick_f rfl rfl) ?_
                refine l_y rfl rfl (y_move rfl) ?_
                refine l_y rfl rfl (y_move rfl) ?_
                refine Z0 (fun h9_16 => ?_) (fun h9_16 => ?_)
                · refine l_y rfl rfl (y_move rfl) ?_
                  refine l_y rfl rfl (y_move rfl) ?_
                  refine Z0 (fun h9_19 => ?_) (fun h9_19 => ?_)
                  · refine l_y rfl rfl (y_pick_t rfl rfl) ?_
                    refine l_y rfl rfl (y_pick_f rfl rfl) ?_
                    refine l_y rfl rfl (y_assign rfl) ?_
                    refine K2 (K3 (L8 (K0 ?_)))
                    have hms := means_small (n := n) (by omega)
                    refine K1 ?_
                    refine l_y rfl rfl (y_move rfl) ?_
                    refine CK [] hO rfl (fun k' hx hr hO' => means_spec (hO := hO')) ?_
                    rintro _ _ w ⟨rfl, rfl⟩ hO
                    simp only [List.cons_append, List.nil_append] at hO
                    refine l_y rfl rfl (y_convI rfl (w32 (by omega) (by omega))) ?_
                    refine l_y rfl rfl (y_assign rfl) ?_
                    refine l_y rfl rfl (y_assign rfl) ?_
                    refine K2 (K3 (K6 (L0 (K9 ?_))))
                    have e : numF n = ((look' OT n).getD n, ⟨#[99, 111, 110, 116, 114, 111, 108, 45, 99, 104, 97, 114, 97, 99, 116, 101, 114, 45, 114, 101, 102, 101, 114, 101, 110, 99, 101]⟩) := by rw [numF, if_neg (by omega), if_neg (by omega), if_neg (by omega), if_neg (by omega), if_pos (by omega)]
                    rw [e]; exact fin2 rfl rfl rfl ⟨_, ⟨rfl, rfl⟩, hO.none⟩
                  · refine l_y rfl rfl (y_pick_t rfl rfl) ?_
                    refine l_y rfl rfl (y_pick_f rfl rfl) ?_
                    refine l_y rfl rfl (y_assign rfl) ?_
                    refine K2 (K3 (L9 (K5 (K8 (K3 (K0 (K1 ?_)))))))
                    refine l_y rfl rfl (y_move rfl) ?_
                    refine l_y rfl rfl (y_convI rfl (w32 (by omega) (by omega))) ?_
                    refine l_y rfl rfl (y_assign rfl) ?_
                    refine l_y rfl rfl (y_assign rfl) ?_
                    refine K2 (K3 (K6 ?_))
                    have e : numF n = (n, ⟨#[]⟩) := by rw [numF, if_neg (by omega), if_neg (by omega), if_neg (by omega), if_neg (by omega), if_neg (by omega)]
                    rw [e]; exact fin2 rfl rfl rfl ⟨_, ⟨rfl, rfl⟩, hO.none⟩
                · refine l_y rfl rfl (y_move rfl) ?_
                  repeat refine M2 ?_
                  refine l_y rfl rfl (y_pick_f rfl rfl) ?_
                  refine l_y rfl rfl (y_pick_f rfl rfl) ?_
                  refine l_y rfl rfl (y_assign rfl) ?_
                  refine K2 (K3 (L9 (K5 (K8 (K3 (K0 (K1 ?_)))))))
                  refine l_y rfl rfl (y_move rfl) ?_
                  refine l_y rfl rfl (y_convI rfl (w32 (by omega) (by omega))) ?_
                  refine l_y rfl rfl (y_assign rfl) ?_
                  refine l_y rfl rfl (y_assign rfl) ?_
                  refine K2 (K3 (K6 ?_))
                  have e : numF n = (n, ⟨#[]⟩) := by rw [numF, if_neg (by omega), if_neg (by omega), if_neg (by omega), if_neg (by omega), if_neg (by omega)]
                  rw [e]; exact fin2 rfl rfl rfl ⟨_, ⟨rfl, rfl⟩, hO.none⟩
theorem EntityNumbers_spec (hn : -9223372036854775808 ≤ n ∧ n ≤ 9223372036854775807) (hO : Own k w []) : Tri Try.prog 7 #[.int .i64 n] k w fun v m => v = .bool true ∧ m = [] := by
  refine enter (args := [.int .i64 n]) Try.func7 rfl rfl ?_
  refine K0 (K1 ?_)
  refine l_y rfl rfl (y_assign rfl) ?_
  refine K2 (K3 (K0 (K1 ?_)))
  refine l_y rfl rfl (y_move rfl) ?_
  refine CK [] hO rfl (fun k' hx hr hO' => Number_spec (n := n) (hO := hO')) ?_
  rintro _ _ w ⟨rfl, rfl⟩ hO
  simp only [List.cons_append, List.nil_append] at hO
  refine l_y rfl rfl (y_move rfl) ?_
  refine l_y rfl rfl (y_extract rfl rfl) ?_
  refine l_y rfl rfl (y_extract rfl rfl) ?_
  refine l_y rfl rfl (y_assign rfl) ?_
  refine l_y rfl rfl (y_assign rfl) ?_
  refine K2 (K3 (K0 (K1 ?_)))
  refine l_y rfl rfl (y_move rfl) ?_
  refine CK [] hO rfl (fun k' hx hr hO' => NumberR_spec (n := n) (hO := hO')) ?_
  rintro _ _ w ⟨rfl, rfl⟩ hO
  simp only [List.cons_append, List.nil_append] at hO
  refine l_y rfl rfl (y_move rfl) ?_
  refine l_y rfl rfl (y_extract rfl rfl) ?_
  refine l_y rfl rfl (y_extract rfl rfl) ?_
  refine l_y rfl rfl (y_assign rfl) ?_
  refine l_y rfl rfl (y_assign rfl) ?_
  refine K2 (K3 (K0 (K1 ?_)))
  refine l_y rfl rfl (y_move rfl) ?_
  refine l_y rfl rfl (y_move rfl) ?_
  refine l_y rfl rfl (y_cmpI (c := true) rfl rfl (by simp [cmpI])) ?_
  refine l_y rfl rfl (y_move rfl) ?_
  refine l_y rfl rfl (y_move rfl) ?_
  refine l_y rfl rfl (y_move rfl) ?_
  refine l_y rfl rfl (y_eqS (c := true) rfl rfl (by simp)) ?_
  refine l_y rfl rfl (y_pick_t rfl rfl) ?_
  refine l_y rfl rfl (y_move rfl) ?_
  refine CK [] hO rfl (fun k' hx hr hO' => awake_spec (hO := hO')) ?_
  rintro _ _ w ⟨rfl, rfl⟩ hO
  simp only [List.cons_append, List.nil_append] at hO
  refine l_y rfl rfl (y_pick_t rfl rfl) ?_
  refine l_y rfl rfl (y_assign rfl) ?_
  refine K2 (K3 (K6 ?_))
  exact fin1 rfl rfl ⟨_, ⟨rfl, rfl⟩, hO.none⟩
end
end Go.Proofs.Ytklomlknakhedaa
