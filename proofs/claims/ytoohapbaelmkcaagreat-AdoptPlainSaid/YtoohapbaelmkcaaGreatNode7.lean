/- The walk of the law NodeTemplates, and how attributes are read of an argument. -/
import Derived.Test.YtoohapbaelmkcaaGreatNode6
set_option linter.unusedVariables false
set_option linter.unusedSimpArgs false
set_option maxRecDepth 100000
namespace Go.Proofs.YtoohapbaelmkcaaGreat
open Go Go.Hb Go.RowKit
abbrev docD : Node_one := blankN documentN
def elD (q : Option Addr) (d : Nat) (sp : Int) (nm : ByteArray) (xs : List Api_attr) : Node_one := blankN (elementN q d sp nm xs)
def elT (q : Option Addr) (d : Nat) (nm : ByteArray) (xs : List Api_attr) : Node_one := ⟨⟨1, 0, nm, q, xs, d, ⟨#[]⟩, ⟨#[]⟩, -1, -1, -1, -1, -1, 2⟩, -1⟩
def frT : Node_one := ⟨{ (blankN fragmentN).Node with Parent := -1 }, 1⟩
structure ElF (sp : Int) (nm : ByteArray) (xs : List Api_attr) (o : Node_one) (rest : List Node_one) : Prop where
  kind : o.Node.Kind = 1
  name : o.Node.Name = nm
  attrs : o.Node.Attrs = xs
  len : xs.length ≤ 1024
  which : (tmpl sp nm ∧ (∃ q d, o = elT q d nm xs) ∧ rest = [frT]) ∨ (¬ tmpl sp nm ∧ (∃ q d, o = elD q d sp nm xs) ∧ rest = [])
theorem El1_spec {k : Ctx} {w : World} {a : Nat} {sp : Int} {nm : ByteArray} {xs : List Api_attr} {ap : Option Addr} {ac : Nat} (hs : Sli (Ro k) (.slice ap xs.length ac) (xs.map Api_attr.cells)) (hO : Own k w [arenaL a [docD]]) :
    Tri Tryz.prog 18 #[.pointer (some ⟨a, 0, none⟩), .int .i64 sp, .string nm, .slice ap xs.length ac] k w fun v m =>
      (∃ e, e ≠ 0 ∧ v = .tuple #[.int .i64 0, .int .i64 e] ∧ m = [arenaL a [docD]]) ∨
      (∃ o rest, ElF sp nm xs o rest ∧ v = .tuple #[.int .i64 1, .int .i64 0] ∧ m = [arenaL a (docD :: o :: rest)]) := by
  refine (Element_spec (by simp) (by simp) hs hO).mono ?_
  rintro v m ⟨q, d, rfl, rfl⟩
  unfold elementL
  by_cases h1 : sp < 0 ∨ 2 < sp
  · rw [if_pos h1]; exact .inl ⟨1, by decide, rfl, rfl⟩
  rw [if_neg h1]
  by_cases h2 : 1024 < xs.length
  · rw [if_pos h2]; exact .inl ⟨2, by decide, rfl, rfl⟩
  rw [if_neg h2, if_neg (by simp)]
  by_cases h3 : longB (nm :: attrTexts xs) = true
  · rw [if_pos h3]; exact .inl ⟨2, by decide, rfl, rfl⟩
  rw [if_neg h3, if_neg (by simp)]
  by_cases h4 : tmpl sp nm
  · rw [if_pos h4]
    refine .inr ⟨elT q d nm xs, [frT], ⟨rfl, rfl, rfl, by omega, .inl ⟨h4, ⟨q, d, rfl⟩, rfl⟩⟩, rfl, ?_⟩
    obtain ⟨rfl, _⟩ := h4
    rfl
  · rw [if_neg h4]; exact .inr ⟨elD q d sp nm xs, [], ⟨rfl, rfl, rfl, by omega, .inr ⟨h4, ⟨q, d, rfl⟩, rfl⟩⟩, rfl, rfl⟩
theorem ElF.ok {sp : Int} {nm : ByteArray} {xs : List Api_attr} {o : Node_one} {rest : List Node_one} (h : ElF sp nm xs o rest) : AttrsOk (docD :: o :: rest) := by
  intro i hi
  match i with
  | 0 => exact Nat.zero_le _
  | 1 => show o.Node.Attrs.length ≤ 1024; rw [h.attrs]; exact h.len
  | i + 2 =>
    rcases h.which with ⟨_, _, rfl⟩ | ⟨_, _, rfl⟩
    · match i, hi with
      | 0, _ => exact Nat.zero_le _
    · exact absurd hi (by simp)
theorem NodeOk_spec {k : Ctx} {w : World} {a : Nat} {A : List Node_one} {id : Int} {o : Node_one} (ho : A[id.toNat]? = some o) (hi : 0 ≤ id) (ha : AttrsOk A) (hO : Own k w [arenaL a A]) :
    Tri Tryz.prog 14 #[.pointer (some ⟨a, 0, none⟩), .int .i64 id] k w fun v m => ∃ q d, v = .tuple #[.agg (Api_node.cells (ownN o.Node q d)).toArray, .int .i64 0] ∧ m = [arenaL a A, sls q d 115 4 Api_attr.cells o.Node.Attrs] := by
  have hl := List.getElem?_eq_some_iff.1 ho
  obtain ⟨hl, he⟩ := hl
  have hat : at_ A id.toNat = o := by simp only [at_, List.getD_eq_getElem?_getD, ho, Option.getD_some]
  refine (Node_spec (by omega) ha hO).mono ?_
  rintro v m (⟨h, _⟩ | ⟨_, q, d, rfl, rfl⟩)
  · exact absurd h (by simp [hasB]; omega)
  · rw [hat]; exact ⟨q, d, rfl, rfl⟩
theorem ranked3 {q : Option Addr} {d : Nat} {nm : ByteArray} {xs : List Api_attr} : Ranked [docD, elT q d nm xs, frT] := by
  refine ⟨fun x => x.toNat, fun x hx => ?_⟩
  obtain ⟨h0, h3⟩ := hasB_true hx
  simp only [List.length_cons, List.length_nil] at h3
  rcases (show x = 0 ∨ x = 1 ∨ x = 2 by omega) with rfl | rfl | rfl
  · exact .inl rfl
  · exact .inl rfl
  · exact .inr ⟨rfl, show (1 : Nat) < 2 from by decide⟩
theorem linksOk3 {q : Option Addr} {d : Nat} {nm : ByteArray} {xs : List Api_attr} : LinksOk [docD, elT q d nm xs, frT] := by
  constructor <;> intro x hx <;> obtain ⟨h0, h3⟩ := hasB_true hx <;> simp only [List.length_cons, List.length_nil] at h3 <;>
    rcases (show x = 0 ∨ x = 1 ∨ x = 2 by omega) with rfl | rfl | rfl <;> exact .inl rfl
theorem above3 {q : Option Addr} {d : Nat} {nm : ByteArray} {xs : List Api_attr} : aboveB [docD, elT q d nm xs, frT] 2 1 = true := by
  have h : Anc [docD, elT q d nm xs, frT] 2 1 := .step (by decide) (.refl 1)
  rw [aboveB, ancB_of h]; rfl
theorem link3 {q : Option Addr} {d : Nat} {nm : ByteArray} {xs : List Api_attr} : linkL [docD, elT q d nm xs, frT] 2 1 (-1) = (11, [docD, elT q d nm xs, frT]) := by
  rw [linkL, if_neg, if_neg, if_pos]
  · exact .inr above3
  · rintro (h | h | h)
    · exact absurd (show true = false from h) (by decide)
    · exact absurd (show (1 : Int) = 0 from h) (by decide)
    · exact absurd (show (1 : Int) = 5 from h) (by decide)
  · rintro (h | h | ⟨h, _⟩)
    · exact absurd (show decide ((0 : Int) ≤ 2 ∧ (2 : Int) < (3 : Nat)) = false from h) (by decide)
    · exact absurd (show decide ((0 : Int) ≤ 1 ∧ (1 : Int) < (3 : Nat)) = false from h) (by decide)
    · exact h rfl
/-! what is read of an argument -/
abbrev QAttr {H : Type} : List Value → DataW H → Prop := QSt [QInt .i64, QStr, QStr, QStr]
theorem q_attr {H : Type} {enc : TypeId × Value → H} {W : World} : Reads enc Tryz.prog W 115 QAttr := by
  have h : Tryz.prog.cellsOf 115 = 4 := by kernel_rfl
  letI : Und Tryz.prog 115 _ := ⟨Tryz.underlying115⟩
  refine r_st ?_
  rw [h]
  exact .cons (m := 1) rfl (by kernel_rfl) r_int (.cons (m := 1) rfl (by kernel_rfl) r_str (.cons (m := 1) rfl (by kernel_rfl) r_str (.cons (m := 1) rfl (by kernel_rfl) r_str (.nil _))))
theorem attr_of {H : Type} {r : List Value} {d : DataW H} (h : QAttr r d) : ∃ x, r = Api_attr.cells x := by
  obtain ⟨ps, rfl, hq⟩ := h
  obtain ⟨c1, cs1, d1, ds1, rfl, rfl, g1, hq⟩ := hq.un
  obtain ⟨c2, cs2, d2, ds2, rfl, rfl, g2, hq⟩ := hq.un
  obtain ⟨c3, cs3, d3, ds3, rfl, rfl, g3, hq⟩ := hq.un
  obtain ⟨c4, cs4, d4, ds4, rfl, rfl, g4, hq⟩ := hq.un
  obtain ⟨rfl, rfl⟩ := hq.un0
  obtain ⟨sp, rfl, rfl, _⟩ := g1
  obtain ⟨s2, rfl, rfl, _⟩ := g2
  obtain ⟨s3, rfl, rfl, _⟩ := g3
  obtain ⟨s4, rfl, rfl, _⟩ := g4
  exact ⟨⟨sp, s2, s3, s4⟩, rfl⟩
theorem attrs_of {rows : List (List Value)} (h : ∀ r ∈ rows, ∃ x, r = Api_attr.cells x) : ∃ xs : List Api_attr, rows = xs.map Api_attr.cells := by
  induction rows with
  | nil => exact ⟨[], rfl⟩
  | cons r rows ih =>
    obtain ⟨x, rfl⟩ := h r (by simp)
    obtain ⟨xs, rfl⟩ := ih fun r hr => h r (by simp [hr])
    exact ⟨x :: xs, rfl⟩
theorem attrs_arg {H : Type} {k : Ctx} {p : Option Addr} {c : Nat} {d : DataW H} {rows : List (List Value)} {ds : List (DataW H)} (A : ArgSl k 4 QAttr (.slice p rows.length c) d rows ds) : ∃ xs : List Api_attr, xs.length = rows.length ∧ Sli (Ro k) (.slice p xs.length c) (xs.map Api_attr.cells) := by
  obtain ⟨xs, rfl⟩ := attrs_of fun r hr => by
    obtain ⟨e, _, hq⟩ := A.all r hr
    exact attr_of hq
  refine ⟨xs, by simp, ?_⟩
  have := A.sli
  rwa [List.length_map] at this
end Go.Proofs.YtoohapbaelmkcaaGreat
