/- What an escaped text is; plain lists of bytes. -/
import Derived.Lib.TrimUEq
import Derived.Lib.TrimAscii
set_option linter.unusedVariables false
namespace Go.Hb
open Go Go.Lib
def one1 (attr : Bool) (c : UInt8) : List UInt8 :=
  if c = 38 then [38, 97, 109, 112, 59] else if c = 34 ∧ attr = true then [38, 113, 117, 111, 116, 59] else if c = 60 ∧ attr = false then [38, 108, 116, 59] else if c = 62 ∧ attr = false then [38, 103, 116, 59] else [c]
def esc (attr : Bool) : List UInt8 → List UInt8
  | [] => []
  | [c] => one1 attr c
  | c :: e :: l => if c = 194 ∧ e = 160 then [38, 110, 98, 115, 112, 59] ++ esc attr l else one1 attr c ++ esc attr (e :: l)
theorem esc_one {attr : Bool} {c : UInt8} {l : List UInt8} (h : ¬ (c = 194 ∧ l.head? = some 160)) : esc attr (c :: l) = one1 attr c ++ esc attr l := by
  cases l with
  | nil => simp [esc]
  | cons e l => rw [esc, if_neg (by simpa using h)]
theorem esc_nbsp {attr : Bool} {l : List UInt8} : esc attr (194 :: 160 :: l) = [38, 110, 98, 115, 112, 59] ++ esc attr l := by simp [esc]
theorem one1_high {attr : Bool} {c : UInt8} (h : 128 ≤ c.toNat) : one1 attr c = [c] := by
  have e1 : c ≠ 38 := fun e => by subst e; simp at h
  have e2 : c ≠ 34 := fun e => by subst e; simp at h
  have e3 : c ≠ 60 := fun e => by subst e; simp at h
  have e4 : c ≠ 62 := fun e => by subst e; simp at h
  simp [one1, e1, e2, e3, e4]
theorem esc_high {attr : Bool} {c : UInt8} {l : List UInt8} (h : 128 ≤ c.toNat) (h2 : ¬ (c = 194 ∧ l.head? = some 160)) : esc attr (c :: l) = c :: esc attr l := by
  rw [esc_one h2, one1_high h]; rfl
theorem esc_cont {attr : Bool} {c : UInt8} {l : List UInt8} (h : c.toNat / 64 = 2) : esc attr (c :: l) = c :: esc attr l :=
  esc_high (by omega) (fun ⟨e, _⟩ => by subst e; simp at h)
/-- the next code point, and what stands behind it -/
inductive Step (attr : Bool) (l : List UInt8) : Prop
  | low (c : UInt8) (t : List UInt8) (h : l = c :: t) (hc : c.toNat < 128) (hd : decodeL l = (c.toNat, 1))
  | nbsp (t : List UInt8) (h : l = 194 :: 160 :: t) (hd : decodeL l = (160, 2))
  | high (h1 : 128 ≤ (decodeL l).1) (h2 : (decodeL l).1 ≠ 160) (h3 : (decodeL l).2 ≤ l.length) (h4 : 1 ≤ (decodeL l).2) (h : esc attr l = l.take (decodeL l).2 ++ esc attr (l.drop (decodeL l).2))
theorem u8_eq {a b : UInt8} (h : a.toNat = b.toNat) : a = b := UInt8.toNat_inj.1 h
theorem step_esc (attr : Bool) (l : List UInt8) (hne : l ≠ []) : Step attr l := by
  cases l with
  | nil => exact absurd rfl hne
  | cons c t =>
    by_cases hc : c.toNat < 128
    · exact .low c t rfl hc (decodeL_ascii c t hc)
    · have hN := decodeL_N (c :: t)
      simp only [List.getD_cons_zero, List.length_cons] at hN
      have hcb : c.toNat < 256 := c.toNat_lt
      cases t with
      | nil =>
        have hd : decodeL [c] = (65533, 1) := by rw [hN]; simp [decodeN, hc]
        exact .high (by rw [hd]; decide) (by rw [hd]; decide) (by rw [hd]; simp) (by rw [hd]; decide) (by rw [hd]; simp [esc, one1_high (Nat.le_of_not_lt hc)])
      | cons e t =>
        have heb : e.toNat < 256 := e.toNat_lt
        by_cases hn : c = 194 ∧ e = 160
        · obtain ⟨rfl, rfl⟩ := hn
          refine .nbsp t rfl ?_
          rw [hN]
          simp [decodeN]
        · have hn' : ¬ (c.toNat = 194 ∧ e.toNat = 160) := fun ⟨h1, h2⟩ => hn ⟨u8_eq (by simpa using h1), u8_eq (by simpa using h2)⟩
          have he1 : esc attr (c :: e :: t) = c :: esc attr (e :: t) := esc_high (by omega) (by simpa using hn)
          simp only [List.getD_cons_succ, List.getD_cons_zero] at hN
          generalize hb2 : (List.getD t 0 0).toNat = b2 at hN
          generalize hb3 : (List.getD t 1 0).toNat = b3 at hN
          -- one byte alone
          have one : decodeL (c :: e :: t) = (65533, 1) → Step attr (c :: e :: t) := fun hd => .high (by rw [hd]; decide) (by rw [hd]; decide) (by rw [hd]; simp) (by rw [hd]; decide) (by rw [hd]; simpa using he1)
          unfold decodeN at hN
          rw [if_neg hc] at hN
          by_cases h2 : c.toNat / 32 = 6 ∧ (1 < (e :: t).length + 1 ∧ e.toNat / 64 = 2)
          · rw [if_pos h2] at hN
            by_cases h3 : c.toNat % 32 * 64 + e.toNat % 64 ≥ 128
            · rw [if_pos h3] at hN
              refine .high (by rw [hN]; exact h3) (by rw [hN]; simp only; omega) (by rw [hN]; simp) (by rw [hN]; simp) ?_
              rw [hN]
              simp only [List.take_succ_cons, List.take_zero, List.drop_succ_cons, List.drop_zero]
              rw [he1, esc_cont h2.2.2]; rfl
            · rw [if_neg h3] at hN; exact one hN
          · rw [if_neg h2] at hN
            by_cases h3 : c.toNat / 16 = 14 ∧ (1 < (e :: t).length + 1 ∧ e.toNat / 64 = 2) ∧ (2 < (e :: t).length + 1 ∧ b2 / 64 = 2)
            · rw [if_pos h3] at hN
              split at hN
              · rename_i h4
                obtain ⟨f, t, rfl⟩ : ∃ f t', t = f :: t' := by
                  cases t with
                  | nil => simp at h3
                  | cons f t => exact ⟨f, t, rfl⟩
                simp only [List.getD_cons_zero] at hb2
                subst hb2
                refine .high (by rw [hN]; simp only; omega) (by rw [hN]; simp only; omega) (by rw [hN]; simp) (by rw [hN]; simp) ?_
                rw [hN]
                simp only [List.take_succ_cons, List.take_zero, List.drop_succ_cons, List.drop_zero]
                rw [he1, esc_cont h3.2.1.2, esc_cont h3.2.2.2]; rfl
              · exact one hN
            · rw [if_neg h3] at hN
              by_cases h4 : c.toNat / 8 = 30 ∧ (1 < (e :: t).length + 1 ∧ e.toNat / 64 = 2) ∧ (2 < (e :: t).length + 1 ∧ b2 / 64 = 2) ∧ (3 < (e :: t).length + 1 ∧ b3 / 64 = 2)
              · rw [if_pos h4] at hN
                split at hN
                · rename_i h5
                  obtain ⟨f, g, t, rfl⟩ : ∃ f g t', t = f :: g :: t' := by
                    match t, h4 with
                    | [], h4 => simp at h4
                    | [_], h4 => simp at h4
                    | f :: g :: t, _ => exact ⟨f, g, t, rfl⟩
                  simp only [List.getD_cons_zero, List.getD_cons_succ] at hb2 hb3
                  subst hb2 hb3
                  refine .high (by rw [hN]; simp only; omega) (by rw [hN]; simp only; omega) (by rw [hN]; simp) (by rw [hN]; simp) ?_
                  rw [hN]
                  simp only [List.take_succ_cons, List.take_zero, List.drop_succ_cons, List.drop_zero]
                  rw [he1, esc_cont h4.2.1.2, esc_cont h4.2.2.1.2, esc_cont h4.2.2.2.2]; rfl
                · exact one hN
              · rw [if_neg h4] at hN; exact one hN
end Go.Hb
