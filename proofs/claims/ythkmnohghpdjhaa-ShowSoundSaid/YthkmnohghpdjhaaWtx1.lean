/- What is written of a tree; plain. -/
import Derived.Test.YthkmnohghpdjhaaWrt1
import Derived.Test.YthkmnohghpdjhaaCnt
import Derived.Test.YthkmnohghpdjhaaWriteLaw
set_option linter.unusedVariables false
set_option linter.unusedSimpArgs false
namespace Go.Proofs.Ythkmnohghpdjhaa
open Go Go.Hb Go.RowKit
abbrev tl (s : ByteArray) : List UInt8 := s.data.toList
abbrev ba (l : List UInt8) : ByteArray := ⟨l.toArray⟩
theorem tl_app (a b : ByteArray) : tl (a ++ b) = tl a ++ tl b := by simp [tl]
theorem tl_len (a : ByteArray) : (tl a).length = a.size := rfl
theorem ba_tl (a : ByteArray) : ba (tl a) = a := by cases a; simp [ba, tl]
theorem tl_ba (l : List UInt8) : tl (ba l) = l := by simp [ba, tl]
theorem ba_size (l : List UInt8) : (ba l).size = l.length := by simp [ba, ByteArray.size]
theorem ba_eq {a : ByteArray} {l : List UInt8} (h : tl a = l) : a = ba l := by rw [← h, ba_tl]
theorem one1_len (attr : Bool) (c : UInt8) : (one1 attr c).length ≤ 6 := by unfold one1; repeat' split
                                                                            all_goals simp
theorem esc_len (attr : Bool) : ∀ l : List UInt8, (esc attr l).length ≤ 6 * l.length
  | [] => Nat.le_refl _
  | [c] => by have := one1_len attr c; simpa [esc] using this
  | c :: e :: l => by
    have h1 := one1_len attr c
    have h2 := esc_len attr l
    have h3 := esc_len attr (e :: l)
    rw [esc]
    split
    · simp only [List.length_append, List.length_cons, List.length_nil] at *; omega
    · simp only [List.length_append, List.length_cons, List.length_nil] at *; omega
def attrT (x : Api_attr) : List UInt8 := [32] ++ tl (shownS x) ++ [61, 34] ++ esc true (tl x.Value) ++ [34]
def attrsT (l : List Api_attr) : List UInt8 := l.flatMap attrT
def openT (n : Api_node) : List UInt8 := [60] ++ tl n.Name ++ attrsT n.Attrs
def endT (n : Api_node) : List UInt8 := [60, 47] ++ tl n.Name ++ [62]
def voidN (n : Api_node) : Bool := htmlB n (inL voidL)
def rawN (sc : Bool) (n : Api_node) : Bool := htmlB n fun s => plainB s sc
def innerI (A : List Node_one) (id : Int) : Int := if (nodeA A id).Inner = -1 then id else (nodeA A id).Inner
/-- what is in a node -/
def innT (A : List Node_one) (K : Int → List Int) (sc : Bool) (out : Bool → Int → List UInt8) (id : Int) : List UInt8 :=
  if voidN (nodeA A id) = true then [] else (K (innerI A id)).flatMap (out (rawN sc (nodeA A (innerI A id))))
/-- a node -/
def outT (A : List Node_one) (K : Int → List Int) (sc : Bool) : Nat → Bool → Int → List UInt8
  | 0, _, _ => []
  | f + 1, raw, id =>
    if (nodeA A id).Kind = 2 then (if raw = true then tl (nodeA A id).Data else esc false (tl (nodeA A id).Data))
    else if (nodeA A id).Kind = 3 then [60, 33, 45, 45] ++ tl (nodeA A id).Data ++ [45, 45, 62]
    else if (nodeA A id).Kind = 4 then [60, 33, 68, 79, 67, 84, 89, 80, 69, 32] ++ tl (nodeA A id).Name ++ [62]
    else if (nodeA A id).Kind = 1 then openT (nodeA A id) ++ [62] ++ (if voidN (nodeA A id) = true then [] else innT A K sc (outT A K sc f) id ++ endT (nodeA A id))
    else []
/-! the lengths -/
def CT : Nat := 8589934592
theorem shownS_len (x : Api_attr) : (shownS x).size ≤ x.Name.size + 6 := by
  unfold shownS
  repeat' split
  · rw [ByteArray.size_append]; have e : (⟨#[120, 108, 105, 110, 107, 58]⟩ : ByteArray).size = 6 := rfl; omega
  · rw [ByteArray.size_append]; have e : (⟨#[120, 109, 108, 58]⟩ : ByteArray).size = 4 := rfl; omega
  · rw [ByteArray.size_append]; have e : (⟨#[120, 109, 108, 110, 115, 58]⟩ : ByteArray).size = 6 := rfl; omega
  · omega
theorem attrT_len {x : Api_attr} (h1 : x.Name.size ≤ 1048576) (h2 : x.Value.size ≤ 1048576) : (attrT x).length ≤ 7340042 := by
  have a := shownS_len x
  have b := esc_len true (tl x.Value)
  have e1 := tl_len (shownS x)
  have e2 := tl_len x.Value
  simp only [attrT, List.length_append, List.length_cons, List.length_nil]
  omega
theorem attrsT_len : ∀ {l : List Api_attr}, longB (attrTexts l) = false → (attrsT l).length ≤ 7340042 * l.length
  | [], _ => Nat.zero_le _
  | x :: l, h => by
    have h : longB ([x.Prefix, x.Name, x.Value] ++ attrTexts l) = false := h
    rw [long_app, Bool.or_eq_false_iff] at h
    have ih := attrsT_len h.2
    have := attrT_len (x := x) (long_mem h.1 (by simp)) (long_mem h.1 (by simp))
    simp only [attrsT, List.flatMap_cons, List.length_append, List.length_cons] at ih ⊢
    omega
theorem openT_len {n : Api_node} (h : TextN n) (ha : n.Attrs.length ≤ 1024) : (openT n).length ≤ 7517251585 := by
  have := attrsT_len h.attrs
  have := h.name
  have e := tl_len n.Name
  simp only [openT, List.length_append, List.length_cons, List.length_nil]
  omega
theorem endT_len {n : Api_node} (h : TextN n) : (endT n).length ≤ 1048579 := by
  have := h.name
  have e := tl_len n.Name
  simp only [endT, List.length_append, List.length_cons, List.length_nil]
  omega
structure TxOk (A : List Node_one) (K : Int → List Int) : Prop where
  tree : Tree A K
  inn : InnOk A
  text : TextOk A
  knd : KndOk A
theorem innerI_in {A : List Node_one} {K : Int → List Int} (t : TxOk A K) {id : Int} (hi : InA A id) : InA A (innerI A id) := by
  unfold innerI
  split
  · exact hi
  · next h => exact (t.inn id hi h).1
theorem innerI_cnt {A : List Node_one} {K : Int → List Int} (t : TxOk A K) {id : Int} (hi : InA A id) : ((K (innerI A id)).map (cnt A)).sum + 1 ≤ cnt A id := by
  unfold innerI
  split
  · exact kids_cnt t.tree hi
  · next h =>
    have h1 := kids_cnt t.tree (t.inn id hi h).1
    have h2 := inner_cnt t.tree t.inn hi h
    omega
theorem flat_len {l : List Int} {g : Int → List UInt8} {f : Int → Nat} {c : Nat} (h : ∀ x ∈ l, (g x).length ≤ c * f x) : (l.flatMap g).length ≤ c * (l.map f).sum := by
  induction l with
  | nil => simp
  | cons x l ih =>
    have h1 := h x (by simp)
    have h2 := ih fun y hy => h y (by simp [hy])
    simp only [List.flatMap_cons, List.length_append, List.map_cons, List.sum_cons, Nat.mul_add]
    omega
theorem outT_len {A : List Node_one} {K : Int → List Int} (t : TxOk A K) (sc : Bool) : ∀ (f : Nat) (raw : Bool) (id : Int), InA A id → (outT A K sc f raw id).length ≤ CT * cnt A id
  | 0, _, _, _ => Nat.zero_le _
  | f + 1, raw, id, hi => by
    have hc := cnt_pos hi
    have hm : CT * 1 ≤ CT * cnt A id := Nat.mul_le_mul_left _ hc
    have hx := t.text id hi
    have h1 := openT_len hx (t.tree.attrs id.toNat (by have := hi.1; have := hi.2; omega))
    have h2 := endT_len hx
    have h3 := esc_len false (tl (nodeA A id).Data)
    have h4 := hx.data
    have h5 := hx.name
    have e1 := tl_len (nodeA A id).Data
    have e2 := tl_len (nodeA A id).Name
    have h6 := innerI_cnt t hi
    have h7 : (innT A K sc (outT A K sc f) id).length + CT ≤ CT * cnt A id := by
      have : CT * (((K (innerI A id)).map (cnt A)).sum + 1) ≤ CT * cnt A id := Nat.mul_le_mul_left _ h6
      rw [Nat.mul_add] at this
      unfold innT
      split
      · simp only [List.length_nil]; omega
      · have := flat_len (g := outT A K sc f (rawN sc (nodeA A (innerI A id)))) (f := cnt A) (c := CT) (l := K (innerI A id)) fun x hx => outT_len t sc f _ x (kid_up t.tree (innerI_in t hi) hx).1
        omega
    unfold CT at hm h7 ⊢
    unfold outT
    repeat' split
    all_goals first | (simp only [List.length_append, List.length_cons, List.length_nil]; omega) | omega
theorem innT_len {A : List Node_one} {K : Int → List Int} (t : TxOk A K) (sc : Bool) (f : Nat) {id : Int} (hi : InA A id) : (innT A K sc (outT A K sc f) id).length + CT ≤ CT * cnt A id := by
  have h6 := innerI_cnt t hi
  have : CT * (((K (innerI A id)).map (cnt A)).sum + 1) ≤ CT * cnt A id := Nat.mul_le_mul_left _ h6
  rw [Nat.mul_add] at this
  unfold innT
  split
  · simp only [List.length_nil]; omega
  · have := flat_len (g := outT A K sc f (rawN sc (nodeA A (innerI A id)))) (f := cnt A) (c := CT) (l := K (innerI A id)) fun x hx => outT_len t sc f _ x (kid_up t.tree (innerI_in t hi) hx).1
    omega
end Go.Proofs.Ythkmnohghpdjhaa
