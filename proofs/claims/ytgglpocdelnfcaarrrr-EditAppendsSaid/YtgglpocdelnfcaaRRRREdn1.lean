/- Decoding a text; whether one holds any of the bytes that no name may hold; plain. -/
import Derived.Test.YtgglpocdelnfcaaRRRRSt
import Derived.Lib.TrimUEq
import Derived.Lib.TrimAscii
import Derived.Lib.IndexAny
set_option linter.unusedVariables false
set_option linter.unusedSimpArgs false
set_option maxRecDepth 100000
namespace Go.Proofs.YtgglpocdelnfcaaRRRR
open Go Go.Hb Go.RowKit Go.Lib
abbrev tl (s : ByteArray) : List UInt8 := s.data.toList
theorem tl_len (s : ByteArray) : (tl s).length = s.size := by simp [tl]
/-- the next code point: a byte below 128, or one of bytes that are not -/
inductive DStep (l : List UInt8) : Prop
  | low (c : UInt8) (t : List UInt8) (h : l = c :: t) (hc : c.toNat < 128) (hd : decodeL l = (c.toNat, 1))
  | high (h1 : 128 ≤ (decodeL l).1) (h2 : (decodeL l).1 ≤ 1114111 ∧ ((decodeL l).1 < 55296 ∨ 57343 < (decodeL l).1)) (h3 : (decodeL l).2 ≤ l.length) (h4 : 1 ≤ (decodeL l).2) (h : ∀ c ∈ l.take (decodeL l).2, 128 ≤ c.toNat)
theorem dstep (l : List UInt8) (hne : l ≠ []) : DStep l := by
  cases l with
  | nil => exact absurd rfl hne
  | cons c t =>
    by_cases hc : c.toNat < 128
    · exact .low c t rfl hc (decodeL_ascii c t hc)
    · have hN := decodeL_N (c :: t)
      simp only [List.getD_cons_zero, List.length_cons] at hN
      have hcb : c.toNat < 256 := c.toNat_lt
      have hc' : 128 ≤ c.toNat := Nat.le_of_not_lt hc
      have one : ∀ u : List UInt8, decodeL (c :: u) = (65533, 1) → DStep (c :: u) := fun u hd => .high (by rw [hd]; decide) (by rw [hd]; decide) (by rw [hd]; simp) (by rw [hd]; decide) (by rw [hd]; intro x hx; simp at hx; rw [hx]; exact hc')
      cases t with
      | nil => exact one [] (by rw [hN]; simp [decodeN, hc])
      | cons e t =>
        have heb : e.toNat < 256 := e.toNat_lt
        have one := one (e :: t)
        simp only [List.getD_cons_succ, List.getD_cons_zero] at hN
        generalize hb2 : (List.getD t 0 0).toNat = b2 at hN
        generalize hb3 : (List.getD t 1 0).toNat = b3 at hN
        unfold decodeN at hN
        rw [if_neg hc] at hN
        by_cases h2 : c.toNat / 32 = 6 ∧ (1 < (e :: t).length + 1 ∧ e.toNat / 64 = 2)
        · rw [if_pos h2] at hN
          by_cases h3 : c.toNat % 32 * 64 + e.toNat % 64 ≥ 128
          · rw [if_pos h3] at hN
            refine .high (by rw [hN]; exact h3) (by rw [hN]; simp only; omega) (by rw [hN]; simp) (by rw [hN]; simp) ?_
            rw [hN]
            intro x hx
            simp only [List.take_succ_cons, List.take_zero, List.mem_cons, List.not_mem_nil, or_false] at hx
            rcases hx with rfl | rfl <;> omega
          · rw [if_neg h3] at hN; exact one hN
        · rw [if_neg h2] at hN
          by_cases h3 : c.toNat / 16 = 14 ∧ (1 < (e :: t).length + 1 ∧ e.toNat / 64 = 2) ∧ (2 < (e :: t).length + 1 ∧ b2 / 64 = 2)
          · rw [if_pos h3] at hN
            split at hN
            · rename_i h4
              obtain ⟨f, t, rfl⟩ : ∃ f t', t = f :: t' := by
                cases t with
                | nil => simp at h3
                | cons f t => exact ⟨f, t, rfl⟩
              simp only [List.getD_cons_zero] at hb2
              subst hb2
              refine .high (by rw [hN]; simp only; omega) (by rw [hN]; simp only; omega) (by rw [hN]; simp) (by rw [hN]; simp) ?_
              rw [hN]
              intro x hx
              simp only [List.take_succ_cons, List.take_zero, List.mem_cons, List.not_mem_nil, or_false] at hx
              rcases hx with rfl | rfl | rfl <;> omega
            · exact one hN
          · rw [if_neg h3] at hN
            by_cases h4 : c.toNat / 8 = 30 ∧ (1 < (e :: t).length + 1 ∧ e.toNat / 64 = 2) ∧ (2 < (e :: t).length + 1 ∧ b2 / 64 = 2) ∧ (3 < (e :: t).length + 1 ∧ b3 / 64 = 2)
            · rw [if_pos h4] at hN
              split at hN
              · rename_i h5
                obtain ⟨f, g, t, rfl⟩ : ∃ f g t', t = f :: g :: t' := by
                  match t, h4 with
                  | [], h4 => simp at h4
                  | [_], h4 => simp at h4
                  | f :: g :: t, _ => exact ⟨f, g, t, rfl⟩
                simp only [List.getD_cons_zero, List.getD_cons_succ] at hb2 hb3
                subst hb2 hb3
                refine .high (by rw [hN]; simp only; omega) (by rw [hN]; simp only; omega) (by rw [hN]; simp) (by rw [hN]; simp) ?_
                rw [hN]
                intro x hx
                simp only [List.take_succ_cons, List.take_zero, List.mem_cons, List.not_mem_nil, or_false] at hx
                rcases hx with rfl | rfl | rfl | rfl <;> omega
              · exact one hN
            · rw [if_neg h4] at hN; exact one hN
/-- the bytes that no name may hold -/
def nameS : ByteArray := ⟨#[0, 9, 10, 12, 13, 32, 47, 61, 62, 60, 34, 39]⟩
def nameC : List UInt8 := [0, 9, 10, 12, 13, 32, 47, 61, 62, 60, 34, 39]
def badL (l : List UInt8) : Bool := l.any fun c => nameC.contains c
def nameB (s : ByteArray) : Bool := decide (1 ≤ s.size) && (decide (s.size ≤ 100) && !badL (tl s))
theorem high_not {c : UInt8} (h : 128 ≤ c.toNat) : nameC.contains c = false := by
  cases hh : nameC.contains c with
  | false => rfl
  | true =>
    have : ∀ x ∈ nameC, x.toNat < 128 := by decide
    have := this c (by simpa using hh)
    omega
theorem badL_app (a b : List UInt8) : badL (a ++ b) = (badL a || badL b) := by simp [badL]
theorem badL_high {l : List UInt8} (h : ∀ c ∈ l, 128 ≤ c.toNat) : badL l = false := by
  rw [badL, List.any_eq_false]; intro c hc; rw [high_not (h c hc)]; simp
/-- the last byte of a code point's text -/
theorem enc_last {r : Int} (h0 : 128 ≤ r) (h1 : r ≤ 1114111) (h2 : r < 55296 ∨ 57343 < r) : ∃ n : Nat, ∃ c : UInt8, (Utf8.encode r).size = n + 1 ∧ n ≤ 3 ∧ (tl (Utf8.encode r))[n]? = some c ∧ 128 ≤ c.toNat := by
  have hv : Utf8.valid r = true := by simp [Utf8.valid]; omega
  have hb : ∀ m : Nat, (UInt8.ofNat (128 + m % 64)).toNat = 128 + m % 64 := fun m => by simp; omega
  unfold Utf8.encode
  rw [if_pos hv]
  simp only
  rw [if_neg (by omega)]
  split
  · exact ⟨1, _, rfl, by decide, rfl, by rw [hb]; omega⟩
  · split
    · exact ⟨2, _, rfl, by decide, rfl, by rw [hb]; omega⟩
    · exact ⟨3, _, rfl, by decide, rfl, by rw [hb]; omega⟩
end Go.Proofs.YtgglpocdelnfcaaRRRR
