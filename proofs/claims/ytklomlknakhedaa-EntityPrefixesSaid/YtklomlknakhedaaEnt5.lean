/- The longest name that a text begins with: both walks, and EntityLongest's. -/
import Derived.Test.YtklomlknakhedaaEnt4
set_option linter.unusedVariables false
set_option linter.unusedSimpArgs false
set_option maxRecDepth 100000
namespace Go.Proofs.Ytklomlknakhedaa
open Go Go.Hb Go.RowKit
def namesL : List (List UInt8) := oldL.map (fun x => tl x.text) ++ (youngL.map (fun x => tl x.text) ++ pairL.map fun x => tl x.text)
theorem names_ok : ∀ x ∈ namesL, x.length ≤ 9 ∧ ∀ c ∈ x, c ≠ 59 ∧ c < 128 := by decide
theorem find_name {t : ByteArray} (h : (findP t).isSome = true) : ∃ x ∈ namesL, tl t = x ∨ tl t = x ++ [59] := by
  have key : tl (cutT t semi) ∈ namesL := by
    unfold findP at h
    unfold namesL
    cases h1 : oldL.find? (isT (cutT t semi)) with
    | some x =>
      have e := List.find?_some h1
      rw [isT, decide_eq_true_eq] at e
      exact List.mem_append_left _ (List.mem_map.2 ⟨x, List.mem_of_find?_eq_some h1, by rw [e]⟩)
    | none =>
      rw [h1] at h
      simp only at h
      split at h
      · cases h
      · cases h2 : youngL.find? (isT (cutT t semi)) with
        | some x =>
          have e := List.find?_some h2
          rw [isT, decide_eq_true_eq] at e
          exact List.mem_append_right _ (List.mem_append_left _ (List.mem_map.2 ⟨x, List.mem_of_find?_eq_some h2, by rw [e]⟩))
        | none =>
          rw [h2] at h
          simp only [Option.isSome_map] at h
          obtain ⟨x, h3⟩ := Option.isSome_iff_exists.1 h
          have e := List.find?_some h3
          rw [isQ, decide_eq_true_eq] at e
          exact List.mem_append_right _ (List.mem_append_right _ (List.mem_map.2 ⟨x, List.mem_of_find?_eq_some h3, by rw [e]⟩))
  cases hs : sufB t semi with
  | true => exact ⟨_, key, .inr (cut_closed hs)⟩
  | false => exact ⟨_, key, .inl (by rw [(cut_open hs).1])⟩
theorem find_len {t : ByteArray} (h : (findP t).isSome = true) : t.size ≤ 10 := by
  obtain ⟨x, hx, e⟩ := find_name h
  have := (names_ok x hx).1
  rw [← tl_len]
  rcases e with e | e <;> rw [e] <;> simp <;> omega
/-- what ends a name -/
theorem find_stop {s : ByteArray} {i n : Nat} {c : UInt8} (hc : (tl s)[i]? = some c) (hn : i < n) (h : (findP (s.extract 0 n)).isSome = true) : c < 128 ∧ (c = 59 → n = i + 1 ∨ s.size ≤ i + 1) := by
  obtain ⟨x, hx, e⟩ := find_name h
  have hok := (names_ok x hx).2
  rw [tl_ext, List.drop_zero] at e
  have hci : ((tl s).take n)[i]? = some c := by rw [List.getElem?_take_of_lt hn]; exact hc
  have hil : i < (tl s).length := (List.getElem?_eq_some_iff.1 hc).1
  rw [tl_len] at hil
  rcases e with e | e
  · rw [e] at hci
    have := hok c (List.mem_of_getElem? hci)
    exact ⟨this.2, fun h => absurd h this.1⟩
  · have hlen : min n s.size = x.length + 1 := by rw [← tl_len, ← List.length_take, e]; simp
    rw [e] at hci
    rcases Nat.lt_or_ge i x.length with hi | hi
    · rw [List.getElem?_append_left hi] at hci
      have := hok c (List.mem_of_getElem? hci)
      exact ⟨this.2, fun h => absurd h this.1⟩
    · rw [List.getElem?_append_right hi] at hci
      have h0 : i - x.length = 0 := by
        rcases Nat.eq_zero_or_pos (i - x.length) with h | h
        · exact h
        · rw [List.getElem?_eq_none (by simp; omega)] at hci; cases hci
      rw [h0] at hci
      simp at hci
      exact ⟨by rw [← hci]; decide, fun _ => by omega⟩
/-- how many bytes the longest name has that s begins with, of B bytes at most -/
def best (s : ByteArray) : Nat → Nat
  | 0 => 0
  | n + 1 => if n + 1 ≤ s.size ∧ (findP (s.extract 0 (n + 1))).isSome = true then n + 1 else best s n
theorem best_le (s : ByteArray) : ∀ n, best s n ≤ n ∧ best s n ≤ s.size
  | 0 => ⟨Nat.le_refl _, Nat.zero_le _⟩
  | n + 1 => by
    have := best_le s n
    rw [best]; split
    · omega
    · omega
theorem best_stop {s : ByteArray} {i : Nat} : ∀ {n : Nat}, i ≤ n → (∀ m, i < m → m ≤ n → m ≤ s.size → (findP (s.extract 0 m)).isSome = false) → best s n = best s i
  | n, h, hno => by
    induction n with
    | zero => rw [show i = 0 by omega]
    | succ n ih =>
      rcases Nat.lt_or_ge i (n + 1) with h1 | h1
      · rw [best, if_neg (fun hh => by rw [hno (n + 1) h1 (Nat.le_refl _) hh.1] at hh; exact absurd hh.2 (by simp)), ih (by omega) fun m h2 h3 => hno m h2 (by omega)]
      · rw [show i = n + 1 by omega]
theorem best_far (s : ByteArray) {n : Nat} (h : 12 ≤ n) : best s n = best s 12 := best_stop h fun m h1 _ h2 => by
  cases hf : (findP (s.extract 0 m)).isSome with
  | false => rfl
  | true =>
    have := find_len hf
    rw [← tl_len, tl_ext, List.drop_zero, List.length_take, tl_len] at this
    omega
theorem best_size {s : ByteArray} {n : Nat} (h : s.size ≤ n) : best s n = best s s.size := best_stop h fun m h1 _ h2 => by omega
def bestN (s : ByteArray) : Nat := best s 12
def bestT (s : ByteArray) : ByteArray := s.extract 0 (bestN s)
def bestL (s : ByteArray) : List Int := (findP (bestT s)).getD []
def LongV (s : ByteArray) (v : Value) (m : List HP) : Prop := ∃ q c T, v = .tuple #[.string (bestT s), .slice q (bestL s).length c] ∧ m = [runesL q c T (bestL s)]
theorem ext_size (s : ByteArray) (n : Nat) : (s.extract 0 n).size = min n s.size := by rw [← tl_len, tl_ext, List.drop_zero, List.length_take, tl_len]
theorem ext_zero (s : ByteArray) : s.extract 0 0 = ⟨#[]⟩ := tl_inj (by rw [tl_ext]; simp)
theorem find_nil : findP ⟨#[]⟩ = none := by decide
theorem LongV_mk {s : ByteArray} {n : Nat} {j : Int} {l : List Int} {q : Option Addr} {c T : Nat} (hn : best s 16 = n) (hj : j.toNat = n) (hl : l = (findP (s.extract 0 n)).getD []) : LongV s (.tuple #[.string (s.extract 0 j.toNat), .slice q l.length c]) [runesL q c T l] := by
  have e : bestN s = n := by rw [bestN, ← best_far s (n := 16) (by omega), hn]
  have e2 : bestT s = s.extract 0 n := by rw [bestT, e]
  have e3 : bestL s = l := by rw [bestL, e2, hl]
  exact ⟨q, c, T, by rw [e2, e3, hj], by rw [e3]⟩
section
variable {k : Ctx} {w : World} {s : ByteArray}
theorem FindT_spec {j : Int} {n : Nat} (hj : j.toNat = n) (hs : s.size ≤ 9223372036854775807) (hO : Own k w []) : Tri Try.prog 9 #[.string (s.extract 0 j.toNat)] k w fun v m => FindV (findP (s.extract 0 n)) v m := by
  subst hj
  exact Find_spec (by rw [ext_size]; omega) hO
theorem FindRT_spec {j : Int} {n : Nat} (hj : j.toNat = n) (hO : Own k w []) : Tri Try.prog 10 #[.string (s.extract 0 j.toNat)] k w fun v m => FindV (findP (s.extract 0 n)) v m := by
  subst hj
  have h := FindR_spec (s := s.extract 0 j.toNat) hO
  rw [find_eq] at h
  exact h
set_option maxHeartbeats 1000000 in
theorem Longest_spec (hs : s.size ≤ 9223372036854775807) (hO : Own k w []) : Tri Try.prog 13 #[.string s] k w fun v m => LongV s v m := by
  refine enter (args := [.string s]) Try.func13 rfl rfl ?_
  refine K0 (K1 ?_)
  refine l_y rfl rfl (y_assign rfl) ?_
  refine l_y rfl rfl (y_assign rfl) ?_
  refine K2 (K3 (L6 (K0 (K1 ?_))))
  refine l_y rfl rfl (y_assign rfl) ?_
  refine K2 (K3 (K0 (K1 ?_)))
  refine l_y rfl rfl (y_assign rfl) ?_
  refine K2 (K3 (K0 (L5 (K3 (K0 (K0 ?_))))))
  have hO : Own k w [runesL none 0 21 []] := (sl_nil 21 1 hO).one
  have k59 : (59 : UInt8).toNat = 59 := rfl
  refine K1 ?_
  refine l_y rfl rfl (y_move rfl) ?_
  refine l_y rfl rfl (y_lenS rfl) ?_
  refine l_y rfl rfl (y_min rfl rfl) ?_
  refine l_y rfl rfl (y_move rfl) ?_
  refine K2 (K3 (K4 ?_))
  refine c_rounds (X := Nat × Int × List Int × Option Addr × Nat × Nat) (fun ⟨i, n, l, q, c, T⟩ => [(0, .string s), (2, .string ⟨#[]⟩), (3, .slice none 0 0), (4, .slice q l.length c), (5, .int .i64 n), (14, .int .i64 (min ((((s).size : Nat) : Int)) (16))), (15, .int .i64 (i : Int))]) (fun ⟨i, n, l, q, c, T⟩ w => Own k w [runesL q c T l] ∧ ((i : Int) ≤ min (s.size : Int) 16) ∧ (n = (best s i : Int)) ∧ (l = (findP (s.extract 0 (best s i))).getD [])) (fun ⟨i, n, l, q, c, T⟩ => 16 - i) (⟨0, 0, [], none, 0, 21⟩) ⟨rfl, rfl, rfl, rfl, rfl, rfl, rfl, trivial⟩ ⟨hO.only [.p none], by omega, rfl, by rw [show best s 0 = 0 from rfl, ext_zero, find_nil]; rfl⟩ ?_
  rintro ⟨i, n, l, q, c, T⟩ w m hm ⟨hO, hi, hn, hl⟩
  have hbl := best_le s i
  have hm2 : 16 - i = m := hm
  refine K0 (K1 ?_)
  refine Z0 (fun h4_0 => ?_) (fun h4_0 => ?_)
  · refine K2 (K3 (K0 (L8 (K5 (K3 (K0 (K4 (K0 (K1 ?_)))))))))
    refine l_y rfl rfl (y_move rfl) ?_
    refine l_y rfl rfl (y_assign rfl) ?_
    refine K2 (K3 (K0 (K0 ?_)))
    obtain ⟨b, hb⟩ : ∃ b, (tl s)[i]? = some b := ⟨_, List.getElem?_eq_getElem (by rw [tl_len]; omega)⟩
    refine K1 ?_
    refine l_y rfl rfl (y_move rfl) ?_
    refine l_y rfl rfl (y_move rfl) ?_
    refine l_y rfl rfl (y_indexS (c := b) rfl rfl (by omega) hb) ?_
    refine l_y rfl rfl (y_assign rfl) ?_
    refine K2 (K3 (K4 (K0 (K1 ?_))))
    refine l_y rfl rfl (y_move rfl) ?_
    refine Z0 (fun h7_1 => ?_) (fun h7_1 => ?_)
    · refine l_y rfl rfl (y_assign rfl) ?_
      refine K2 (K3 (L8 (K0 (K0 (K1 ?_)))))
      refine l_y rfl rfl (y_move rfl) ?_
      refine l_y rfl rfl (y_move rfl) ?_
      refine l_y rfl rfl (D4) ?_
      refine l_y rfl rfl (y_subTo rfl rfl (by omega) (by omega)) ?_
      refine CK [] hO rfl (fun k' hx hr hO' => FindT_spec (n := i + 1) (by omega) hs (hO := hO')) ?_
      rintro _ _ w ⟨q8, c8, T8, rfl, rfl⟩ hO
      refine l_y rfl rfl (y_move rfl) ?_
      refine l_y rfl rfl (y_extract rfl rfl) ?_
      refine l_y rfl rfl (y_extract rfl rfl) ?_
      refine l_y rfl rfl (y_assign rfl) ?_
      refine l_y rfl rfl (y_assign rfl) ?_
      refine K2 (K3 (K0 (K1 ?_)))
      refine l_y rfl rfl (y_move rfl) ?_
      refine K2 (K3 ?_)
      refine c_split rfl (fun hc32 => ?_) (fun hc32 => ?_)
      · refine K0 (K1 ?_)
        refine l_y rfl rfl (y_move rfl) ?_
        refine l_y rfl rfl (y_move rfl) ?_
        refine l_y rfl rfl (D4) ?_
        refine l_y rfl rfl (y_subTo rfl rfl (by omega) (by omega)) ?_
        refine l_y rfl rfl (y_move rfl) ?_
        refine l_y rfl rfl (y_assign rfl) ?_
        refine l_y rfl rfl (y_assign rfl) ?_
        refine K2 (K3 (K6 (K9 (L0 (K9 (L0 (K9 (K9 (L0 (K9 (L4 ?_)))))))))))
        have e : best s 16 = i + 1 := by
          rw [best_stop (i := i + 1) (by omega) (fun m h1 _ h2 => ?_), best, if_pos ⟨by omega, hc32⟩]
          cases hf : (findP (s.extract 0 m)).isSome with
          | false => rfl
          | true => have := (find_stop hb (by omega) hf).2 (UInt8.toNat_inj.1 (by omega)); omega
        exact fin2 rfl rfl rfl ⟨_, LongV_mk e (by omega) rfl, hO.only [.p q8]⟩
      · refine K5 (K3 (K7 (L7 (L1 (L7 (L1 (L1 (L2 (K3 (K0 (K1 ?_)))))))))))
        refine l_y rfl rfl (y_move rfl) ?_
        refine l_y rfl rfl (y_move rfl) ?_
        refine l_y rfl rfl (y_subTo rfl rfl (by omega) (by omega)) ?_
        refine l_y rfl rfl (y_move rfl) ?_
        refine l_y rfl rfl (y_assign rfl) ?_
        refine l_y rfl rfl (y_assign rfl) ?_
        refine K2 (K3 (K6 (L4 ?_)))
        have e : best s 16 = best s i := best_stop (by omega) (fun m h1 h2 h3 => by
          cases hf : (findP (s.extract 0 m)).isSome with
          | false => rfl
          | true => first
            | omega
            | (have := (find_stop hb h1 hf).1; have := UInt8.lt_iff_toNat_lt.1 this; simp at this; omega)
            | (have h4 := (find_stop hb h1 hf).2 (UInt8.toNat_inj.1 (by omega)); obtain rfl : m = i + 1 := by omega
               rw [hf] at hc32; cases hc32))
        exact fin2 rfl rfl rfl ⟨_, LongV_mk e (by omega) hl, hO.only [.p q]⟩
    · refine l_y rfl rfl (y_assign rfl) ?_
      refine K2 (K3 (L9 (K0 (K1 ?_))))
      refine l_y rfl rfl (y_move rfl) ?_
      refine Z0 (fun h11_1 => ?_) (fun h11_1 => ?_)
      · refine l_y rfl rfl (y_assign rfl) ?_
        refine K2 (K3 (L8 (K7 (L7 (L1 (L7 (L1 (L1 (L2 (K3 (K0 ?_)))))))))))
        refine K1 ?_
        refine l_y rfl rfl (y_move rfl) ?_
        refine l_y rfl rfl (y_move rfl) ?_
        refine l_y rfl rfl (y_subTo rfl rfl (by omega) (by omega)) ?_
        refine l_y rfl rfl (y_move rfl) ?_
        refine l_y rfl rfl (y_assign rfl) ?_
        refine l_y rfl rfl (y_assign rfl) ?_
        refine K2 (K3 (K6 (L4 ?_)))
        have e : best s 16 = best s i := best_stop (by omega) (fun m h1 h2 h3 => by
          cases hf : (findP (s.extract 0 m)).isSome with
          | false => rfl
          | true => first
            | omega
            | (have := (find_stop hb h1 hf).1; have := UInt8.lt_iff_toNat_lt.1 this; simp at this; omega)
            | (have h4 := (find_stop hb h1 hf).2 (UInt8.toNat_inj.1 (by omega)); obtain rfl : m = i + 1 := by omega
               rw [hf] at hc32; cases hc32))
        exact fin2 rfl rfl rfl ⟨_, LongV_mk e (by omega) hl, hO.only [.p q]⟩
      · refine l_y rfl rfl (y_assign rfl) ?_
        refine K2 (K3 (L9 (K5 (K8 (K3 (K0 (K1 ?_)))))))
        refine l_y rfl rfl (y_move rfl) ?_
        refine l_y rfl rfl (y_move rfl) ?_
        refine l_y rfl rfl (D4) ?_
        refine l_y rfl rfl (y_subTo rfl rfl (by omega) (by omega)) ?_
        refine CK [] hO rfl (fun k' hx hr hO' => FindT_spec (n := i + 1) (by omega) hs (hO := hO')) ?_
        rintro _ _ w ⟨q8, c8, T8, rfl, rfl⟩ hO
        refine l_y rfl rfl (y_move rfl) ?_
        refine l_y rfl rfl (y_extract rfl rfl) ?_
        refine l_y rfl rfl (y_extract rfl rfl) ?_
        refine l_y rfl rfl (y_assign rfl) ?_
        refine l_y rfl rfl (y_assign rfl) ?_
        refine K2 (K3 (K0 (K1 ?_)))
        refine l_y rfl rfl (y_move rfl) ?_
        refine K2 (K3 ?_)
        refine c_split rfl (fun hc49 => ?_) (fun hc49 => ?_)
        · refine K1 ?_
          refine l_y rfl rfl (y_move rfl) ?_
          refine l_y rfl rfl (D4) ?_
          refine l_y rfl rfl (y_move rfl) ?_
          refine l_y rfl rfl (y_assign rfl) ?_
          refine l_y rfl rfl (y_assign rfl) ?_
          refine K2 (K8 (K3 (K1 ?_)))
          refine l_y rfl rfl (D4) ?_
          refine l_y rfl rfl (y_move rfl) ?_
          refine K2 ?_
          first
          | exact q_next (⟨i + 1, (i : Int) + 1, (findP (s.extract 0 (i + 1))).getD [], q8, c8, T8⟩) ⟨rfl, rfl, rfl, rfl, rfl, rfl, rfl, trivial⟩ ⟨hO.only [.p q8], by omega, by rw [best, if_pos ⟨by omega, hc49⟩]; omega, by rw [best, if_pos ⟨by omega, hc49⟩]⟩ (by show 16 - (i + 1) < m; omega)
          | exact q_next (⟨i + 1, n, l, q, c, T⟩) ⟨rfl, rfl, rfl, rfl, rfl, rfl, rfl, trivial⟩ ⟨hO.only [.p q], by omega, by rw [best, if_neg (fun hh => by have h := hh.2.symm.trans hc49; cases h)]; omega, by rw [best, if_neg (fun hh => by have h := hh.2.symm.trans hc49; cases h)]; exact hl⟩ (by show 16 - (i + 1) < m; omega)
        · refine K5 (K8 (K3 (K1 ?_)))
          refine l_y rfl rfl (D4) ?_
          refine l_y rfl rfl (y_move rfl) ?_
          refine K2 ?_
          first
          | exact q_next (⟨i + 1, (i : Int) + 1, (findP (s.extract 0 (i + 1))).getD [], q8, c8, T8⟩) ⟨rfl, rfl, rfl, rfl, rfl, rfl, rfl, trivial⟩ ⟨hO.only [.p q8], by omega, by rw [best, if_pos ⟨by omega, hc49⟩]; omega, by rw [best, if_pos ⟨by omega, hc49⟩]⟩ (by show 16 - (i + 1) < m; omega)
          | exact q_next (⟨i + 1, n, l, q, c, T⟩) ⟨rfl, rfl, rfl, rfl, rfl, rfl, rfl, trivial⟩ ⟨hO.only [.p q], by omega, by rw [best, if_neg (fun hh => by have h := hh.2.symm.trans hc49; cases h)]; omega, by rw [best, if_neg (fun hh => by have h := hh.2.symm.trans hc49; cases h)]; exact hl⟩ (by show 16 - (i + 1) < m; omega)
  · refine K2 (K3 (K0 (L9 (K7 (L1 (L1 (L2 (K3 (K0 (K1 ?_))))))))))
    refine l_y rfl rfl (y_move rfl) ?_
    refine l_y rfl rfl (y_move rfl) ?_
    refine l_y rfl rfl (y_subTo rfl rfl (by omega) (by omega)) ?_
    refine l_y rfl rfl (y_move rfl) ?_
    refine l_y rfl rfl (y_assign rfl) ?_
    refine l_y rfl rfl (y_assign rfl) ?_
    refine K2 (K3 (K6 (L4 ?_)))
    have e : best s 16 = best s i := best_stop (by omega) (fun m h1 h2 h3 => by
      cases hf : (findP (s.extract 0 m)).isSome with
      | false => rfl
      | true => first
        | omega
        | (have := (find_stop hb h1 hf).1; have := UInt8.lt_iff_toNat_lt.1 this; simp at this; omega)
        | (have h4 := (find_stop hb h1 hf).2 (UInt8.toNat_inj.1 (by omega)); obtain rfl : m = i + 1 := by omega
           rw [hf] at hc32; cases hc32))
    exact fin2 rfl rfl rfl ⟨_, LongV_mk e (by omega) hl, hO.only [.p q]⟩
set_option maxHeartbeats 1000000 in
theorem LongestR_spec (hO : Own k w []) : Tri Try.prog 14 #[.string s] k w fun v m => LongV s v m := by
  refine enter (args := [.string s]) Try.func14 rfl rfl ?_
  refine K0 (K1 ?_)
  refine l_y rfl rfl (y_assign rfl) ?_
  refine l_y rfl rfl (y_assign rfl) ?_
  refine K2 (K3 (K0 (K1 ?_)))
  refine l_y rfl rfl (y_move rfl) ?_
  refine l_y rfl rfl (y_lenS rfl) ?_
  refine l_y rfl rfl (y_min rfl rfl) ?_
  refine l_y rfl rfl (y_assign rfl) ?_
  refine K2 (K3 (K0 (K4 ?_)))
  refine c_rounds (X := Int) (fun j => [(0, .string s), (2, .string ⟨#[]⟩), (3, .slice none 0 0), (4, .int .i64 j)]) (fun j w => Own k w [] ∧ (0 ≤ j ∧ j ≤ min (s.size : Int) 12) ∧ (best s 12 = best s j.toNat)) (fun j => j.toNat) (min (s.size : Int) 12) ⟨rfl, rfl, rfl, rfl, trivial⟩ ⟨hO.only [], by omega, best_stop (by omega) (fun m h1 h2 h3 => by omega)⟩ ?_
  rintro j w m hm ⟨hO, hi, hj⟩
  refine K0 (K0 (K1 ?_))
  refine l_y rfl rfl (y_move rfl) ?_
  refine Z0 (fun h2_1 => ?_) (fun h2_1 => ?_)
  · refine K2 (K3 (L8 (K5 (K3 (K4 (K0 (K1 ?_)))))))
    refine l_y rfl rfl (y_move rfl) ?_
    refine l_y rfl rfl (y_move rfl) ?_
    refine l_y rfl rfl (y_subTo rfl rfl (by omega) (by omega)) ?_
    refine CK [] hO rfl (fun k' hx hr hO' => FindRT_spec (n := j.toNat) rfl (hO := hO')) ?_
    rintro _ _ w ⟨q8, c8, T8, rfl, rfl⟩ hO
    refine l_y rfl rfl (y_move rfl) ?_
    refine l_y rfl rfl (y_extract rfl rfl) ?_
    refine l_y rfl rfl (y_extract rfl rfl) ?_
    refine l_y rfl rfl (y_assign rfl) ?_
    refine l_y rfl rfl (y_assign rfl) ?_
    refine K2 (K3 (K0 (K0 (K1 ?_))))
    refine l_y rfl rfl (y_move rfl) ?_
    refine K2 (K3 ?_)
    refine c_split rfl (fun hc19 => ?_) (fun hc19 => ?_)
    · refine K0 (K1 ?_)
      refine l_y rfl rfl (y_move rfl) ?_
      refine l_y rfl rfl (y_move rfl) ?_
      refine l_y rfl rfl (y_subTo rfl rfl (by omega) (by omega)) ?_
      refine l_y rfl rfl (y_move rfl) ?_
      refine l_y rfl rfl (y_assign rfl) ?_
      refine l_y rfl rfl (y_assign rfl) ?_
      refine K2 (K3 (K6 (K9 (L0 (K9 (L0 (K9 ?_)))))))
      have e : best s 16 = j.toNat := by
        rw [best_far s (by omega), hj, show j.toNat = (j.toNat - 1) + 1 by omega, best, if_pos]
        rw [show j.toNat - 1 + 1 = j.toNat by omega]
        exact ⟨by omega, hc19⟩
      exact fin2 rfl rfl rfl ⟨_, LongV_mk e rfl rfl, hO.only [.p q8]⟩
    · refine K5 (K3 (K1 ?_))
      refine l_y rfl rfl (y_move rfl) ?_
      refine l_y rfl rfl (D4) ?_
      refine l_y rfl rfl (y_assign rfl) ?_
      refine K2 (K8 ?_)
      exact q_next (j - 1) ⟨rfl, rfl, rfl, rfl, trivial⟩ ⟨hO.only [], by omega, by rw [hj, show j.toNat = (j - 1).toNat + 1 by omega, best, if_neg (fun hh => by rw [show (j - 1).toNat + 1 = j.toNat by omega] at hh; have h := hh.2.symm.trans hc19; cases h)]⟩ (by omega)
  · refine K2 (K3 (L9 (K7 (L1 (L1 (L2 (K3 (K0 (K1 ?_)))))))))
    refine l_y rfl rfl (y_assign rfl) ?_
    refine l_y rfl rfl (y_assign rfl) ?_
    refine K2 (K3 (K6 ?_))
    have e : best s 16 = 0 := by rw [best_far s (by omega), hj, show j.toNat = 0 by omega]; rfl
    have h0 : s.extract 0 ((0 : Int)).toNat = ⟨#[]⟩ := ext_zero s
    have hV := LongV_mk (s := s) (n := 0) (j := 0) (l := []) (q := none) (c := 0) (T := 21) e rfl (by rw [ext_zero, find_nil]; rfl)
    rw [h0] at hV
    exact fin2 rfl rfl rfl ⟨_, hV, (sl_nil 21 1 hO).one⟩
set_option maxHeartbeats 1000000 in
theorem EntityLongest_spec (hs : s.size ≤ 9223372036854775807) (hO : Own k w []) : Tri Try.prog 4 #[.string s] k w fun v m => v = .bool true ∧ m = [] := by
  refine enter (args := [.string s]) Try.func4 rfl rfl ?_
  refine K0 (K1 ?_)
  refine l_y rfl rfl (y_assign rfl) ?_
  refine K2 (K3 (K0 (K1 ?_)))
  refine l_y rfl rfl (y_move rfl) ?_
  refine CK [] hO rfl (fun k' hx hr hO' => Longest_spec (s := s) hs (hO := hO')) ?_
  rintro _ _ w ⟨q9, c9, T9, rfl, rfl⟩ hO
  simp only [List.cons_append, List.nil_append] at hO
  refine l_y rfl rfl (y_move rfl) ?_
  refine l_y rfl rfl (y_extract rfl rfl) ?_
  refine l_y rfl rfl (y_extract rfl rfl) ?_
  refine l_y rfl rfl (y_assign rfl) ?_
  refine l_y rfl rfl (y_assign rfl) ?_
  refine K2 (K3 (K0 (K1 ?_)))
  refine l_y rfl rfl (y_move rfl) ?_
  refine CK [] hO rfl (fun k' hx hr hO' => LongestR_spec (s := s) (hO := hO')) ?_
  rintro _ _ w ⟨q14, c14, T14, rfl, rfl⟩ hO
  simp only [List.cons_append, List.nil_append] at hO
  refine l_y rfl rfl (y_move rfl) ?_
  refine l_y rfl rfl (y_extract rfl rfl) ?_
  refine l_y rfl rfl (y_extract rfl rfl) ?_
  refine l_y rfl rfl (y_assign rfl) ?_
  refine l_y rfl rfl (y_assign rfl) ?_
  refine K2 (K3 (K0 (K1 ?_)))
  refine l_y rfl rfl (y_move rfl) ?_
  refine l_y rfl rfl (y_move rfl) ?_
  refine Z2 (fun h3_2 => ?_) (fun h3_2 => ?_)
  · refine l_y rfl rfl (y_move rfl) ?_
    refine l_y rfl rfl (y_move rfl) ?_
    refine l_y rfl rfl (y_move rfl) ?_
    refine CK [] hO rfl (fun k' hx hr hO' => runes_spec (a := bestL s) (b := bestL s) (sls_roK (p := q9) hr (sls_fct hO)) (sls_roK (p := q14) hr (sls_fct hO)) (by have := findP_len (bestT s); unfold bestL; omega) (hO := hO')) ?_
    rintro _ _ w ⟨rfl, rfl⟩ hO
    refine l_y rfl rfl (y_pick_t rfl rfl) ?_
    refine l_y rfl rfl (y_move rfl) ?_
    refine l_split 25 rfl (fun hg25 => ?_) (fun hg25 => ?_)
    · refine CK [] hO rfl (fun k' hx hr hO' => awake_spec (hO := hO')) ?_
      rintro _ _ w ⟨rfl, rfl⟩ hO
      simp only [List.cons_append, List.nil_append] at hO
      refine l_y rfl rfl (y_pick_t rfl rfl) ?_
      refine l_y rfl rfl (y_assign rfl) ?_
      refine K2 (K3 (K6 ?_))
      first | exact absurd rfl h3_2 | (exfalso; simp at hg25; done) | exact fin1 rfl rfl ⟨_, ⟨by first | rfl | simp, rfl⟩, hO.none⟩
    · repeat refine M2 ?_
      refine l_y rfl rfl (y_pick_f rfl rfl) ?_
      refine l_y rfl rfl (y_assign rfl) ?_
      refine K2 (K3 (K6 ?_))
      first | exact absurd rfl h3_2 | (exfalso; simp at hg25; done) | exact fin1 rfl rfl ⟨_, ⟨by first | rfl | simp, rfl⟩, hO.none⟩
  · refine l_y rfl rfl (y_move rfl) ?_
    repeat refine M2 ?_
    refine l_y rfl rfl (y_pick_f rfl rfl) ?_
    refine l_y rfl rfl (y_move rfl) ?_
    repeat refine M2 ?_
    refine l_y rfl rfl (y_pick_f rfl rfl) ?_
    refine l_y rfl rfl (y_assign rfl) ?_
    refine K2 (K3 (K6 ?_))
    first | exact absurd rfl h3_2 | (exfalso; simp at hg25; done) | exact fin1 rfl rfl ⟨_, ⟨by first | rfl | simp, rfl⟩, hO.none⟩
end
end Go.Proofs.Ytklomlknakhedaa
