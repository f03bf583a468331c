/- What an escaped text is; plain lists of bytes. -/
import Derived.Lib.TrimUEq
import Derived.Lib.TrimAscii
set_option linter.unusedVariables false
set_option linter.unusedSimpArgs false
namespace Go.Hb
open Go Go.Lib
def one1 (attr : Bool) (c : UInt8) : List UInt8 :=
  if c = 38 then [38, 97, 109, 112, 59] else if c = 34 ∧ attr = true then [38, 113, 117, 111, 116, 59] else if c = 60 ∧ attr = false then [38, 108, 116, 59] else if c = 62 ∧ attr = false then [38, 103, 116, 59] else [c]
def esc (attr : Bool) : List UInt8 → List UInt8
  | [] => []
  | [c] => one1 attr c
  | c :: e :: l => if c = 194 ∧ e = 160 then [38, 110, 98, 115, 112, 59] ++ esc attr l else one1 attr c ++ esc attr (e :: l)
theorem esc_one {attr : Bool} {c : UInt8} {l : List UInt8} (h : ¬ (c = 194 ∧ l.head? = some 160)) : esc attr (c :: l) = one1 attr c ++ esc attr l := by
  cases l with
  | nil => simp [esc]
  | cons e l => rw [esc, if_neg (by simpa using h)]
theorem esc_nbsp {attr : Bool} {l : List UInt8} : esc attr (194 :: 160 :: l) = [38, 110, 98, 115, 112, 59] ++ esc attr l := by simp [esc]
theorem one1_high {attr : Bool} {c : UInt8} (h : 128 ≤ c.toNat) : one1 attr c = [c] := by
  have e1 : c ≠ 38 := fun e => by subst e; simp at h
  have e2 : c ≠ 34 := fun e => by subst e; simp at h
  have e3 : c ≠ 60 := fun e => by subst e; simp at h
  have e4 : c ≠ 62 := fun e => by subst e; simp at h
  simp [one1, e1, e2, e3, e4]
theorem esc_high {attr : Bool} {c : UInt8} {l : List UInt8} (h : 128 ≤ c.toNat) (h2 : ¬ (c = 194 ∧ l.head? = some 160)) : esc attr (c :: l) = c :: esc attr l := by
  rw [esc_one h2, one1_high h]; rfl
theorem esc_cont {attr : Bool} {c : UInt8} {l : List UInt8} (h : c.toNat / 64 = 2) : esc attr (c :: l) = c :: esc attr l :=
  esc_high (by omega) (fun ⟨e, _⟩ => by subst e; simp at h)
/-- the next code point, and what stands behind it -/
inductive Step (attr : Bool) (l : List UInt8) : Prop
  | low (c : UInt8) (t : List UInt8) (h : l = c :: t) (hc : c.toNat < 128) (hd : decodeL l = (c.toNat, 1))
  | nbsp (t : List UInt8) (h : l = 194 :: 160 :: t) (hd : decodeL l = (160, 2))
  | high (h1 : 128 ≤ (decodeL l).1) (h2 : (decodeL l).1 ≠ 160) (h3 : (decodeL l).2 ≤ l.length) (h4 : 1 ≤ (decodeL l).2) (h : esc attr l = l.take (decodeL l).2 ++ esc attr (l.drop (decodeL l).2))
theorem u8_eq {a b : UInt8} (h : a.toNat = b.toNat) : a = b := UInt8.toNat_inj.1 h
theorem step_esc (attr : Bool) (l : List UInt8) (hne : l ≠ []) : Step attr l := by
  cases l with
  | nil => exact absurd rfl hne
  | cons c t =>
    by_cases hc : c.toNat < 128
    · exact .low c t rfl hc (decodeL_ascii c t hc)
    · have hN := decodeL_N (c :: t)
      simp only [List.getD_cons_zero, List.length_cons] at hN
      have hcb : c.toNat < 256 := c.toNat_lt
      cases t with
      | nil =>
        have hd : decodeL [c] = (65533, 1) := by rw [hN]; simp [decodeN, hc]
        exact .high (by rw [hd]; decide) (by rw [hd]; decide) (by rw [hd]; simp) (by rw [hd]; decide) (by rw [hd]; simp [esc, one1_high (Nat.le_of_not_lt hc)])
      | cons e t =>
        have heb : e.toNat < 256 := e.toNat_lt
        by_cases hn : c = 194 ∧ e = 160
        · obtain ⟨rfl, rfl⟩ := hn
          refine .nbsp t rfl ?_
          rw [hN]
          simp [decodeN]
        · have hn' : ¬ (c.toNat = 194 ∧ e.toNat = 160) := fun ⟨h1, h2⟩ => hn ⟨u8_eq (by simpa using h1), u8_eq (by simpa using h2)⟩
          have he1 : esc attr (c :: e :: t) = c :: esc attr (e :: t) := esc_high (by omega) (by simpa using hn)
          simp only [List.getD_cons_succ, List.getD_cons_zero] at hN
          generalize hb2 : (List.getD t 0 0).toNat = b2 at hN
          generalize hb3 : (List.getD t 1 0).toNat = b3 at hN
          -- one byte alone
          have one : decodeL (c :: e :: t) = (65533, 1) → Step attr (c :: e :: t) := fun hd => .high (by rw [hd]; decide) (by rw [hd]; decide) (by rw [hd]; simp) (by rw [hd]; decide) (by rw [hd]; simpa using he1)
          unfold decodeN at hN
          rw [if_neg hc] at hN
          by_cases h2 : c.toNat / 32 = 6 ∧ (1 < (e :: t).length + 1 ∧ e.toNat / 64 = 2)
          · rw [if_pos h2] at hN
            by_cases h3 : c.toNat % 32 * 64 + e.toNat % 64 ≥ 128
            · rw [if_pos h3] at hN
              refine .high (by rw [hN]; exact h3) (by rw [hN]; simp only; omega) (by rw [hN]; simp) (by rw [hN]; simp) ?_
              rw [hN]
              simp only [List.take_succ_cons, List.take_zero, List.drop_succ_cons, List.drop_zero]
              rw [he1, esc_cont h2.2.2]; rfl
            · rw [if_neg h3] at hN; exact one hN
          · rw [if_neg h2] at hN
            by_cases h3 : c.toNat / 16 = 14 ∧ (1 < (e :: t).length + 1 ∧ e.toNat / 64 = 2) ∧ (2 < (e :: t).length + 1 ∧ b2 / 64 = 2)
            · rw [if_pos h3] at hN
              split at hN
              · rename_i h4
                obtain ⟨f, t, rfl⟩ : ∃ f t', t = f :: t' := by
                  cases t with
                  | nil => simp at h3
                  | cons f t => exact ⟨f, t, rfl⟩
                simp only [List.getD_cons_zero] at hb2
                subst hb2
                refine .high (by rw [hN]; simp only; omega) (by rw [hN]; simp only; omega) (by rw [hN]; simp) (by rw [hN]; simp) ?_
                rw [hN]
                simp only [List.take_succ_cons, List.take_zero, List.drop_succ_cons, List.drop_zero]
                rw [he1, esc_cont h3.2.1.2, esc_cont h3.2.2.2]; rfl
              · exact one hN
            · rw [if_neg h3] at hN
              by_cases h4 : c.toNat / 8 = 30 ∧ (1 < (e :: t).length + 1 ∧ e.toNat / 64 = 2) ∧ (2 < (e :: t).length + 1 ∧ b2 / 64 = 2) ∧ (3 < (e :: t).length + 1 ∧ b3 / 64 = 2)
              · rw [if_pos h4] at hN
                split at hN
                · rename_i h5
                  obtain ⟨f, g, t, rfl⟩ : ∃ f g t', t = f :: g :: t' := by
                    match t, h4 with
                    | [], h4 => simp at h4
                    | [_], h4 => simp at h4
                    | f :: g :: t, _ => exact ⟨f, g, t, rfl⟩
                  simp only [List.getD_cons_zero, List.getD_cons_succ] at hb2 hb3
                  subst hb2 hb3
                  refine .high (by rw [hN]; simp only; omega) (by rw [hN]; simp only; omega) (by rw [hN]; simp) (by rw [hN]; simp) ?_
                  rw [hN]
                  simp only [List.take_succ_cons, List.take_zero, List.drop_succ_cons, List.drop_zero]
                  rw [he1, esc_cont h4.2.1.2, esc_cont h4.2.2.1.2, esc_cont h4.2.2.2.2]; rfl
                · exact one hN
              · rw [if_neg h4] at hN; exact one hN
/-- the references, and what they stand for -/
def refs : List (List UInt8 × List UInt8) := [([38, 97, 109, 112, 59], [38]), ([38, 110, 98, 115, 112, 59], [194, 160]), ([38, 113, 117, 111, 116, 59], [34]), ([38, 108, 116, 59], [60]), ([38, 103, 116, 59], [62])]
theorem refs_len (j : Nat) (f : List UInt8 × List UInt8) (h : refs[j]? = some f) : 4 ≤ f.1.length ∧ f.1.length ≤ 6 ∧ f.2.length ≤ 2 := by
  have hj : j < 5 := (List.getElem?_eq_some_iff.1 h).1
  rcases j with _ | _ | _ | _ | _ | j <;> simp [refs] at h <;> first | (subst h; decide) | omega
inductive View (attr : Bool) (l : List UInt8) : Prop
  | nil (h : l = [])
  | ref (j : Nat) (f : List UInt8 × List UInt8) (t : List UInt8) (hj : refs[j]? = some f) (h : l = f.2 ++ t) (he : esc attr l = f.1 ++ esc attr t)
  | plain (c : UInt8) (t : List UInt8) (h : l = c :: t) (hc : c ≠ 38) (he : esc attr l = c :: esc attr t)
theorem view (attr : Bool) (l : List UInt8) : View attr l := by
  cases l with
  | nil => exact .nil rfl
  | cons c t =>
    by_cases hn : c = 194 ∧ t.head? = some 160
    · obtain ⟨rfl, e⟩ := hn
      cases t with
      | nil => cases e
      | cons d t =>
        simp only [List.head?_cons, Option.some.injEq] at e
        subst e
        exact .ref 1 _ t rfl rfl esc_nbsp
    · have h1 := esc_one (attr := attr) hn
      by_cases c1 : c = 38
      · subst c1; exact .ref 0 _ t rfl rfl (by rw [h1]; simp [one1])
      · by_cases c2 : c = 34 ∧ attr = true
        · obtain ⟨rfl, rfl⟩ := c2; exact .ref 2 _ t rfl rfl (by rw [h1]; simp [one1])
        · by_cases c3 : c = 60 ∧ attr = false
          · obtain ⟨rfl, rfl⟩ := c3; exact .ref 3 _ t rfl rfl (by rw [h1]; simp [one1])
          · by_cases c4 : c = 62 ∧ attr = false
            · obtain ⟨rfl, rfl⟩ := c4; exact .ref 4 _ t rfl rfl (by rw [h1]; simp [one1])
            · exact .plain c t rfl c1 (by rw [h1, one1, if_neg c1, if_neg c2, if_neg c3, if_neg c4]; rfl)
theorem refs_apart (j i : Nat) (f g : List UInt8 × List UInt8) (r : List UInt8) (hj : refs[j]? = some f) (hi : refs[i]? = some g) (h : f.1.isPrefixOf (g.1 ++ r) = true) : j = i := by
  have h1 : j < 5 := (List.getElem?_eq_some_iff.1 hj).1
  have h2 : i < 5 := (List.getElem?_eq_some_iff.1 hi).1
  rcases j with _ | _ | _ | _ | _ | j <;> simp [refs] at hj <;> (try omega) <;> subst hj <;> rcases i with _ | _ | _ | _ | _ | i <;> simp [refs] at hi <;> (try omega) <;> subst hi <;> simp [List.isPrefixOf] at h ⊢
theorem refs_amp (j : Nat) (f : List UInt8 × List UInt8) (h : refs[j]? = some f) : ∃ t, f.1 = 38 :: t := by
  have hj : j < 5 := (List.getElem?_eq_some_iff.1 h).1
  rcases j with _ | _ | _ | _ | _ | j <;> simp [refs] at h <;> first | (subst h; exact ⟨_, rfl⟩) | omega
theorem pre_app (a b : List UInt8) : a.isPrefixOf (a ++ b) = true := List.isPrefixOf_iff_prefix.2 (List.prefix_append a b)
theorem esc_plain {attr : Bool} {l : List UInt8} (hne : esc attr l ≠ []) (h : ∀ (j : Nat) (f : List UInt8 × List UInt8), refs[j]? = some f → f.1.isPrefixOf (esc attr l) = false) : ∃ c t, l = c :: t ∧ esc attr l = c :: esc attr t := by
  cases view attr l with
  | nil e => subst e; exact absurd (by simp [esc]) hne
  | ref j f t hj e he => have := h j f hj; rw [he, pre_app] at this; cases this
  | plain c t e hc he => exact ⟨c, t, e, he⟩
theorem esc_ref {attr : Bool} {l : List UInt8} {j : Nat} {f : List UInt8 × List UInt8} (hj : refs[j]? = some f) (h : f.1.isPrefixOf (esc attr l) = true) : ∃ t, l = f.2 ++ t ∧ esc attr l = f.1 ++ esc attr t := by
  cases view attr l with
  | nil e => subst e; obtain ⟨t, e⟩ := refs_amp j f hj; rw [e] at h; simp [esc, List.isPrefixOf] at h
  | ref i g t hi e he =>
    rw [he] at h
    have hji := refs_apart j i f g _ hj hi h
    subst hji
    rw [hj] at hi
    cases hi
    exact ⟨t, e, he⟩
  | plain c t e hc he =>
    obtain ⟨t', e'⟩ := refs_amp j f hj
    rw [he, e'] at h
    simp only [List.isPrefixOf, Bool.and_eq_true, beq_iff_eq] at h
    exact absurd h.1.symm hc
/-- no letter that is escaped stands in what is escaped -/
theorem esc_safe (attr : Bool) (d : UInt8) (hd : ∀ f ∈ refs, d ∉ f.1) (h1 : ∀ c, one1 attr c = [c] → c ≠ d) : ∀ (m : Nat) (l : List UInt8), l.length ≤ m → d ∉ esc attr l
  | 0, l, hm => by
    have : l = [] := List.length_eq_zero_iff.1 (by omega)
    subst this; simp [esc]
  | m + 1, l, hm => by
    cases view attr l with
    | nil e => subst e; simp [esc]
    | ref j f t hj e he =>
      have hf : f ∈ refs := List.mem_of_getElem? hj
      have := esc_safe attr d hd h1 m t (by
        have h2 : 1 ≤ f.2.length := by
          rcases j with _ | _ | _ | _ | _ | j <;> simp [refs] at hj <;> (try (subst hj; decide))
        have := congrArg List.length e
        rw [List.length_append] at this
        omega)
      rw [he, List.mem_append]
      exact fun h => h.elim (hd f hf) this
    | plain c t e hc he =>
      have ih := esc_safe attr d hd h1 m t (by subst e; simp at hm; omega)
      rw [he, List.mem_cons]
      refine fun h => h.elim (fun h => ?_) ih
      subst e
      by_cases hn : c = 194 ∧ t.head? = some 160
      · obtain ⟨rfl, e⟩ := hn
        cases t with
        | nil => cases e
        | cons x t =>
          simp only [List.head?_cons, Option.some.injEq] at e
          subst e
          rw [esc_nbsp] at he
          simp at he
      · rw [esc_one hn] at he
        have : one1 attr c = [c] := by
          have := List.append_cancel_right (bs := esc attr t) (as := one1 attr c) (cs := [c]) (by simpa using he)
          exact this
        exact h1 c this h.symm
theorem esc_len (attr : Bool) : ∀ (m : Nat) (l : List UInt8), l.length ≤ m → (esc attr l).length ≤ 6 * l.length
  | 0, l, hm => by
    have : l = [] := List.length_eq_zero_iff.1 (by omega)
    subst this; simp [esc]
  | m + 1, l, hm => by
    cases view attr l with
    | nil e => subst e; simp [esc]
    | ref j f t hj e he =>
      have h2 : 1 ≤ f.2.length := by
        rcases j with _ | _ | _ | _ | _ | j <;> simp [refs] at hj <;> (try (subst hj; decide))
      have h3 := refs_len j f hj
      have h4 := congrArg List.length e
      rw [List.length_append] at h4
      have := esc_len attr m t (by omega)
      rw [he, List.length_append]
      omega
    | plain c t e hc he =>
      have h4 := congrArg List.length e
      rw [List.length_cons] at h4
      have := esc_len attr m t (by omega)
      rw [he, List.length_cons]
      omega
end Go.Hb
