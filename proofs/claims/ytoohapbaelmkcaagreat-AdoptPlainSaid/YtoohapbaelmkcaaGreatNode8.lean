/- Whether two attributes are the same, and the walk of the law NodeAttrs. -/
import Derived.Test.YtoohapbaelmkcaaGreatNode7
import Derived.Tactics
import Derived.Tactics2
set_option linter.unusedVariables false
set_option linter.unusedSimpArgs false
set_option maxRecDepth 100000
namespace Go.Proofs.YtoohapbaelmkcaaGreat
open Go Go.Hb Go.RowKit
instance : DecidableEq Api_attr := fun a b => decidable_of_iff (a.Space = b.Space ∧ a.Prefix = b.Prefix ∧ a.Name = b.Name ∧ a.Value = b.Value) ⟨fun ⟨h1, h2, h3, h4⟩ => Api_attr.ext h1 h2 h3 h4, fun h => by subst h; exact ⟨rfl, rfl, rfl, rfl⟩⟩
instance : EqT Tryz.prog 115 Api_attr.cells := ⟨by kernel_rfl, fun x y w => by
  have u3 := Tryz.underlying3
  have u9 := Tryz.underlying9
  have hS : Tryz.prog.underlying 115 = some (.struct (Tryz.prog.fieldsOf 115)) := by kernel_rfl
  have hp : Tryz.prog.stoodInHeld 115 = false := by kernel_rfl
  rw [show (10000 : Nat) = 9999 + 1 from rfl, run_equalIn_agg w 9999 115 _ _ hS hp]
  simp only [Program.fieldsOf, Tryz.underlying115, Api_attr.cells]
  go_simp
  simp only [ba_inj]
  have e : (x = y) ↔ x.Space = y.Space ∧ x.Prefix = y.Prefix ∧ x.Name = y.Name ∧ x.Value = y.Value := Api_attr.ext_iff
  by_cases h1 : x.Space = y.Space <;> by_cases h2 : x.Prefix = y.Prefix <;> by_cases h3 : x.Name = y.Name <;> by_cases h4 : x.Value = y.Value <;> simp [e, h1, h2, h3, h4]⟩
def pS : ByteArray := ⟨#[112]⟩
/-- the first of its name, or one past the last -/
structure FirstAt (x : Api_attr) (xs : List Api_attr) (m c : Nat) : Prop where
  ge : m ≤ c
  le : c ≤ xs.length
  no : ∀ j, m ≤ j → j < c → isA x.Space x.Name (at_ xs j) = false
  yes : c < xs.length → isA x.Space x.Name (at_ xs c) = true
/-- attributes with one set -/
structure SetAt (x : Api_attr) (xs ys : List Api_attr) (c : Nat) : Prop where
  len : ys.length = max xs.length (c + 1)
  space : (at_ ys c).Space = x.Space
  name : (at_ ys c).Name = x.Name
  value : (at_ ys c).Value = x.Value
  idx : idx (isA x.Space x.Name) ys = c
  lim : ys.length ≤ 1024
theorem setAttr_at {A : List Node_one} {x : Api_attr} {xs : List Api_attr} {c : Nat} {o : Node_one} (hA : A = [docD, o]) (hk : o.Node.Kind = 1) (hxs : o.Node.Attrs = xs) (hf : FirstAt x xs 0 c) (hl : xs.length ≤ 1024) :
    setAttrV A 1 x = (2, xs) ∨ ∃ ys, setAttrV A 1 x = (0, ys) ∧ SetAt x xs ys c := by
  subst hA hxs
  have e1 : at_ [docD, o] (Int.toNat 1) = o := rfl
  unfold setAttrV
  rw [e1, if_neg (show ¬ hasB [docD, o] 1 = false from fun h => absurd (show true = false from h) (by decide)), if_neg (by simp [hk])]
  by_cases h2 : longX x = true
  · rw [if_pos h2]; exact .inl rfl
  rw [if_neg h2]
  by_cases hc : c < o.Node.Attrs.length
  · have ei : idx (isA x.Space x.Name) o.Node.Attrs = c := idx_at hc (hf.yes hc) fun j hj => hf.no j (Nat.zero_le _) hj
    have hy := hf.yes hc
    simp only [isA, decide_eq_true_eq] at hy
    rw [ei, if_pos (by omega)]
    refine .inr ⟨_, rfl, ?_, ?_, ?_, ?_, ?_, by simpa using hl⟩
    · simp; omega
    · simp [at_set, hc, hy.1]
    · simp [at_set, hc, hy.2]
    · simp [at_set, hc]
    · refine idx_at (by simp; omega) (by simp [at_set, hc, isA, hy.1, hy.2]) fun j hj => ?_
      have hn := hf.no j (Nat.zero_le _) hj
      rw [show ((c : Int)).toNat = c from rfl, at_set_ne (by omega)]
      exact hn
  · have hce : c = o.Node.Attrs.length := by have := hf.le; omega
    have ei : idx (isA x.Space x.Name) o.Node.Attrs = -1 := idx_none fun j hj => hf.no j (Nat.zero_le _) (by omega)
    rw [ei, if_neg (by decide)]
    by_cases h3 : o.Node.Attrs.length = 1024
    · rw [if_pos h3]; exact .inl rfl
    rw [if_neg h3]
    subst hce
    refine .inr ⟨_, rfl, ?_, ?_, ?_, ?_, ?_, by simp; omega⟩
    · simp
    · rw [at_app_new]
    · rw [at_app_new]
    · rw [at_app_new]
    · refine idx_at (by simp) (by rw [at_app_new]; simp [isA]) fun j hj => ?_
      rw [at_app_l hj]
      exact hf.no j (Nat.zero_le _) hj
theorem attrsOk2 {x y : Node_one} (hx : x.Node.Attrs.length ≤ 1024) (hy : y.Node.Attrs.length ≤ 1024) : AttrsOk [x, y] := by
  intro i hi
  match i, hi with
  | 0, _ => exact hx
  | 1, _ => exact hy
theorem erase_at {ys : List Api_attr} {c i j : Nat} (h : (i < c ∧ j = i) ∨ (c ≤ i ∧ j = i + 1)) : at_ (ys.eraseIdx c) i = at_ ys j := by
  simp only [at_, List.getD_eq_getElem?_getD, List.getElem?_eraseIdx]
  rcases h with ⟨h, rfl⟩ | ⟨h, rfl⟩
  · rw [if_pos h]
  · rw [if_neg (by omega)]
theorem first_yes {y : Api_attr} {xs : List Api_attr} {i : Int} (h0 : 0 ≤ i) (h1 : i < xs.length) (h : isA y.Space y.Name (at_ xs i.toNat) = true) : FirstAt y xs (i - 1 + 1).toNat i.toNat := by
  rw [show i - 1 + 1 = i by omega]
  exact ⟨Nat.le_refl _, by omega, fun j hj hj2 => by omega, fun _ => h⟩
theorem first_no {y : Api_attr} {xs : List Api_attr} {i : Int} {c : Nat} (h0 : 0 ≤ i) (hf : FirstAt y xs (i + 1).toNat c) (h : isA y.Space y.Name (at_ xs i.toNat) = false) : FirstAt y xs (i - 1 + 1).toNat c := by
  rw [show i - 1 + 1 = i by omega]
  have := hf.ge
  refine ⟨by omega, hf.le, fun j hj hj2 => ?_, hf.yes⟩
  by_cases hji : j = i.toNat
  · rw [hji]; exact h
  · exact hf.no j (by omega) hj2
open Go.WideShapes Go.ChangeShapes in
theorem attr_arg {H : Type} {enc : TypeId × Value → H} {W : World} {r : Reach} {b : Nat} {v : Value} {d : DataW H} {ps : List MemPlace} (hval : Value.okWide Tryz.prog W r b 115 v) (hd : DataW.Trod enc Tryz.prog W 0 (fun _ => true) true 115 v d ps) : ∃ y, v = .agg (Api_attr.cells y).toArray := by
  obtain ⟨cs, rfl, _⟩ := okWide_struct Tryz.underlying115 hval
  obtain ⟨fuel, hf⟩ := hd
  obtain ⟨y, e⟩ := attr_of (q_attr fuel _ _ hf)
  refine ⟨y, ?_⟩
  rw [← e]; rfl
end Go.Proofs.YtoohapbaelmkcaaGreat
