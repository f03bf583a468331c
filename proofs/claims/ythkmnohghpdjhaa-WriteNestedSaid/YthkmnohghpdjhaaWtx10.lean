/- Elements within one another, as text; plain. -/
import Derived.Test.YthkmnohghpdjhaaWtx8
set_option linter.unusedVariables false
set_option linter.unusedSimpArgs false
namespace Go.Proofs.Ythkmnohghpdjhaa
open Go Go.Hb Go.RowKit
theorem core_space {o p : Node_one} (h : coreN o = coreN p) : o.Node.Space = p.Node.Space := by
  have := congrArg (fun z : Node_one => z.Node.Space) h; simpa [coreN] using this
theorem anc_old {A : List Node_one} (hr : Ranked A) {o : Node_one} {y z : Int} (h : Anc (A ++ [o]) y z) (hy : InA A y) : InA A z ∨ z = -1 := by
  obtain ⟨rk, hrk⟩ := hr
  induction h with
  | refl => exact .inl hy
  | step h hs ih =>
    rename_i x y
    have e : nextUp (A ++ [o]) x = nextUp A x := by rw [nextUp, nextUp, at_old hy]
    rw [e] at hs ih
    rcases hrk _ hy.b with e1 | ⟨e1, _⟩
    · rw [e1] at hs; exact .inr (anc_none hs)
    · exact ih (inA_iff.1 e1)
/-- one more node, as the only child of one that had none -/
structure Nested (A B : List Node_one) (K K' : Int → List Int) (n : Api_node) (up : Int) : Prop where
  tx : TxOk B K'
  len : B.length = A.length + 1
  kid : K' up = [(A.length : Int)]
  new : K' (A.length : Int) = []
  old : ∀ x, x ≠ up → x ≠ (A.length : Int) → K' x = K x
  same : ∀ y, InA A y → coreN (at_ B y.toNat) = coreN (at_ A y.toNat)
  node : coreN (at_ B ((A.length : Int)).toNat) = coreN (blankN n)
theorem nest_go {A : List Node_one} {K : Int → List Int} (t : TxOk A K) {n : Api_node} (hk : n.Kind ≠ 0 ∧ n.Kind ≠ 5) (hk2 : 1 ≤ n.Kind ∧ n.Kind ≤ 5) (ha : n.Attrs.length ≤ 1024) (ht : TextN n) {up : Int} (hu : InA A up) (kup : parentB (nodeA A up).Kind = true) (hKu : K up = []) :
    (linkL (A ++ [blankN n]) up A.length (-1)).1 = 0 ∧ Nested A (linkL (A ++ [blankN n]) up A.length (-1)).2 K (linkK (addK A K) up A.length (-1)) n up := by
  have t1 := t.tree.add n ha
  have hid : InA (A ++ [blankN n]) (A.length : Int) := inA_new.2 (.inr rfl)
  have hup : InA (A ++ [blankN n]) up := inA_new.2 (.inl hu)
  have eid : at_ (A ++ [blankN n]) ((A.length : Int)).toNat = blankN n := at_new
  have eup : at_ (A ++ [blankN n]) up.toNat = at_ A up.toNat := at_old hu
  have hl := hu.2
  have hl0 := hu.1
  have h0 := link_go (A := A ++ [blankN n]) (up := up) (id := A.length) (before := -1) hup hid (.inl rfl) (by rw [nodeA, eup]; exact kup) (by rw [nodeA, eid]; exact hk) (by rw [nodeA, eid]; rfl) (fun h => by
    rcases anc_old t.tree.rank h hu with h | h
    · have := h.2; omega
    · omega)
  refine ⟨h0, ?_⟩
  have tl := t1.link h0
  have hc := link_core t1 up A.length (-1)
  have hlen : (linkL (A ++ [blankN n]) up A.length (-1)).2.length = (A ++ [blankN n]).length := linkL_len
  have e1 : addK A K up = [] := by rw [addK, if_neg (by omega), hKu]
  refine ⟨⟨tl, (t.inn.add n).core hlen hc, (t.text.add ht).core hlen hc, (t.knd.add hk2).link t1 _ _ _⟩, by rw [hlen]; simp, ?_, ?_, ?_, ?_, ?_⟩
  · rw [linkK, if_pos rfl, e1]; rfl
  · rw [linkK, if_neg (by omega), addK, if_pos rfl]
  · intro x h1 h2; rw [linkK, if_neg h1, addK, if_neg h2]
  · intro y hy; rw [hc y hy.1, at_old hy]
  · rw [hc _ (by omega), eid]
/-! the text -/
def nestL : List ByteArray := [⟨#[100, 105, 118]⟩, ⟨#[112]⟩, ⟨#[98]⟩, ⟨#[120]⟩]
def openL (ns : List ByteArray) : List UInt8 := ns.flatMap fun n => [60] ++ tl n ++ [62]
def shutL : List ByteArray → List UInt8
  | [] => []
  | n :: ns => shutL ns ++ ([60, 47] ++ tl n ++ [62])
theorem openL_snoc (ns : List ByteArray) (n : ByteArray) : openL (ns ++ [n]) = openL ns ++ [60] ++ tl n ++ [62] := by simp [openL]
theorem shutL_snoc (n : ByteArray) : ∀ ns : List ByteArray, shutL (ns ++ [n]) = [60, 47] ++ tl n ++ [62] ++ shutL ns
  | [] => by simp [shutL]
  | m :: ns => by
    show shutL (ns ++ [n]) ++ _ = _ ++ (shutL ns ++ _)
    rw [shutL_snoc n ns, List.append_assoc]
theorem nest_len {ns : List ByteArray} (h : ∀ n ∈ ns, n ∈ nestL) : (openL ns).length ≤ 5 * ns.length ∧ (shutL ns).length ≤ 6 * ns.length := by
  induction ns with
  | nil => exact ⟨Nat.le_refl _, Nat.le_refl _⟩
  | cons n ns ih =>
    obtain ⟨h1, h2⟩ := ih fun m hm => h m (by simp [hm])
    have hn : (tl n).length ≤ 3 := by
      have := h n (by simp)
      simp only [nestL, List.mem_cons, List.not_mem_nil, or_false] at this
      rcases this with rfl | rfl | rfl | rfl <;> decide
    have e : openL (n :: ns) = [60] ++ tl n ++ [62] ++ openL ns := by simp [openL]
    have e2 : shutL (n :: ns) = shutL ns ++ ([60, 47] ++ tl n ++ [62]) := rfl
    rw [e, e2]
    simp only [List.length_append, List.length_cons, List.length_nil]
    omega
structure NestS (A : List Node_one) (K : Int → List Int) (ns : List ByteArray) : Prop where
  tx : TxOk A K
  len : A.length = ns.length + 1
  kid : ∀ j : Nat, j < ns.length → K (j : Int) = [(j : Int) + 1]
  last : K (ns.length : Int) = []
  doc : (nodeA A 0).Kind = 0 ∧ (nodeA A 0).Inner = -1
  el : ∀ j : Nat, j < ns.length → (nodeA A ((j : Int) + 1)).Kind = 1 ∧ (nodeA A ((j : Int) + 1)).Name = at_ ns j ∧ (nodeA A ((j : Int) + 1)).Attrs = [] ∧ (nodeA A ((j : Int) + 1)).Inner = -1
  nm : ∀ n ∈ ns, n ∈ nestL
theorem NestS.new : NestS [docD] (fun _ => []) [] := ⟨⟨Tree.new, InnOk.new, TextOk.new, KndOk.new⟩, rfl, fun j h => by simp at h, rfl, ⟨rfl, rfl⟩, fun j h => by simp at h, fun n h => by simp at h⟩
theorem NestS.up {A : List Node_one} {K : Int → List Int} {ns : List ByteArray} (s : NestS A K ns) : InA A (ns.length : Int) ∧ parentB (nodeA A (ns.length : Int)).Kind = true := by
  refine ⟨⟨by omega, by have := s.len; omega⟩, ?_⟩
  by_cases h : ns.length = 0
  · rw [h, show (((0 : Nat) : Int)) = 0 from rfl, s.doc.1]; rfl
  · have := (s.el (ns.length - 1) (by omega)).1
    rw [show ((ns.length - 1 : Nat) : Int) + 1 = (ns.length : Int) by omega] at this
    rw [this]; rfl
theorem NestS.step {A : List Node_one} {K : Int → List Int} {ns : List ByteArray} (s : NestS A K ns) {nm : ByteArray} (hm : nm ∈ nestL) (q : Option Addr) (d : Nat) :
    (linkL (A ++ [blankN (elementN q d 0 nm [])]) ns.length A.length (-1)).1 = 0 ∧ NestS (linkL (A ++ [blankN (elementN q d 0 nm [])]) ns.length A.length (-1)).2 (linkK (addK A K) ns.length A.length (-1)) (ns ++ [nm]) := by
  have hsz : nm.size ≤ 1048576 := by
    simp only [nestL, List.mem_cons, List.not_mem_nil, or_false] at hm
    rcases hm with rfl | rfl | rfl | rfl <;> decide
  obtain ⟨hu, hpk⟩ := s.up
  obtain ⟨h0, h⟩ := nest_go s.tx (n := elementN q d 0 nm []) ⟨by show (1 : Int) ≠ 0; decide, by show (1 : Int) ≠ 5; decide⟩ ⟨by show (1 : Int) ≤ 1; decide, by show (1 : Int) ≤ 5; decide⟩ (Nat.zero_le _) ⟨hsz, Nat.zero_le _, Nat.zero_le _, rfl⟩ hu hpk s.last
  refine ⟨h0, h.tx, by rw [h.len, s.len]; simp, ?_, ?_, ?_, ?_, ?_⟩
  · intro j hj
    simp only [List.length_append, List.length_cons, List.length_nil] at hj
    by_cases c : j = ns.length
    · rw [c, h.kid, s.len]; simp
    · rw [h.old _ (by omega) (by rw [s.len]; omega)]; exact s.kid j (by omega)
  · have e : (((ns ++ [nm]).length : Nat) : Int) = (A.length : Int) := by rw [s.len]; simp
    rw [e]; exact h.new
  · have i0 : InA A 0 := ⟨by omega, by rw [s.len]; omega⟩
    have := h.same 0 i0
    exact ⟨(core_kind this).trans s.doc.1, (core_inner this).trans s.doc.2⟩
  · intro j hj
    simp only [List.length_append, List.length_cons, List.length_nil] at hj
    by_cases c : j = ns.length
    · have e : (j : Int) + 1 = (A.length : Int) := by rw [s.len, c]; omega
      rw [e, c, at_app_new]
      have := h.node
      exact ⟨core_kind this, core_name this, core_attrs this, core_inner this⟩
    · have hi : InA A ((j : Int) + 1) := ⟨by omega, by rw [s.len]; omega⟩
      have := h.same _ hi
      obtain ⟨g1, g2, g3, g4⟩ := s.el j (by omega)
      rw [at_app_l (by omega)]
      exact ⟨(core_kind this).trans g1, (core_name this).trans g2, (core_attrs this).trans g3, (core_inner this).trans g4⟩
  · intro n hn
    rcases List.mem_append.1 hn with hn | hn
    · exact s.nm n hn
    · rw [List.mem_singleton.1 hn]; exact hm
/-- and a text in the innermost -/
structure NestT (A : List Node_one) (K : Int → List Int) (ns : List ByteArray) (s : ByteArray) : Prop where
  tx : TxOk A K
  len : A.length = ns.length + 2
  kid : ∀ j : Nat, j < ns.length + 1 → K (j : Int) = [(j : Int) + 1]
  doc : (nodeA A 0).Kind = 0 ∧ (nodeA A 0).Inner = -1
  el : ∀ j : Nat, j < ns.length → (nodeA A ((j : Int) + 1)).Kind = 1 ∧ (nodeA A ((j : Int) + 1)).Name = at_ ns j ∧ (nodeA A ((j : Int) + 1)).Attrs = [] ∧ (nodeA A ((j : Int) + 1)).Inner = -1
  text : (nodeA A ((ns.length : Int) + 1)).Kind = 2 ∧ (nodeA A ((ns.length : Int) + 1)).Data = s
  nm : ∀ n ∈ ns, n ∈ nestL
theorem NestS.text {A : List Node_one} {K : Int → List Int} {ns : List ByteArray} (s : NestS A K ns) {x : ByteArray} (hx : x.size ≤ 10000) :
    (linkL (A ++ [blankN (textN x)]) ns.length A.length (-1)).1 = 0 ∧ NestT (linkL (A ++ [blankN (textN x)]) ns.length A.length (-1)).2 (linkK (addK A K) ns.length A.length (-1)) ns x := by
  obtain ⟨hu, hpk⟩ := s.up
  obtain ⟨h0, h⟩ := nest_go s.tx (n := textN x) ⟨by show (2 : Int) ≠ 0; decide, by show (2 : Int) ≠ 5; decide⟩ ⟨by show (1 : Int) ≤ 2; decide, by show (2 : Int) ≤ 5; decide⟩ (Nat.zero_le _) ⟨Nat.zero_le _, by show x.size ≤ _; omega, Nat.zero_le _, rfl⟩ hu hpk s.last
  refine ⟨h0, h.tx, by rw [h.len, s.len], ?_, ?_, ?_, ?_, s.nm⟩
  · intro j hj
    by_cases c : j = ns.length
    · rw [c, h.kid, s.len]; simp
    · rw [h.old _ (by omega) (by rw [s.len]; omega)]; exact s.kid j (by omega)
  · have i0 : InA A 0 := ⟨by omega, by rw [s.len]; omega⟩
    have := h.same 0 i0
    exact ⟨(core_kind this).trans s.doc.1, (core_inner this).trans s.doc.2⟩
  · intro j hj
    have hi : InA A ((j : Int) + 1) := ⟨by omega, by rw [s.len]; omega⟩
    have := h.same _ hi
    obtain ⟨g1, g2, g3, g4⟩ := s.el j (by omega)
    exact ⟨(core_kind this).trans g1, (core_name this).trans g2, (core_attrs this).trans g3, (core_inner this).trans g4⟩
  · have e : (ns.length : Int) + 1 = (A.length : Int) := by rw [s.len]; omega
    rw [e]
    have := h.node
    exact ⟨core_kind this, core_data this⟩
theorem nest_void {n : ByteArray} (h : n ∈ nestL) : inL voidL n = false ∧ ∀ b, plainB n b = false := by
  simp only [nestL, List.mem_cons, List.not_mem_nil, or_false] at h
  rcases h with rfl | rfl | rfl | rfl
  all_goals exact ⟨by decide, fun b => by cases b <;> decide⟩
theorem NestT.flat {A : List Node_one} {K : Int → List Int} {ns : List ByteArray} {x : ByteArray} (t : NestT A K ns x) (j : Nat) (hj : j ≤ ns.length) : voidN (nodeA A (j : Int)) = false ∧ (∀ sc, rawN sc (nodeA A (j : Int)) = false) ∧ innerI A (j : Int) = (j : Int) := by
  by_cases c : j = 0
  · rw [c, show (((0 : Nat) : Int)) = 0 from rfl]
    refine ⟨by rw [voidN, htmlB, t.doc.1]; rfl, fun sc => by rw [rawN, htmlB, t.doc.1]; rfl, by rw [innerI, if_pos t.doc.2]⟩
  · obtain ⟨g1, g2, g3, g4⟩ := t.el (j - 1) (by omega)
    rw [show ((j - 1 : Nat) : Int) + 1 = (j : Int) by omega] at g1 g2 g3 g4
    have hm := t.nm _ (at_mem (xs := ns) (i := j - 1) (by omega))
    obtain ⟨v1, v2⟩ := nest_void hm
    refine ⟨by rw [voidN, htmlB, g2, v1]; simp, fun sc => by rw [rawN, htmlB, g2, v2]; simp, by rw [innerI, if_pos g4]⟩
theorem NestT.inner {A : List Node_one} {K : Int → List Int} {ns : List ByteArray} {x : ByteArray} (t : NestT A K ns x) (sc : Bool) : ∀ (m j f : Nat), j + m = ns.length → m < f → innT A K sc (outT A K sc f) (j : Int) = openL (ns.drop j) ++ esc false (tl x) ++ shutL (ns.drop j) := by
  intro m
  induction m with
  | zero =>
    intro j f h1 h2
    obtain ⟨v1, v2, v3⟩ := t.flat j (by omega)
    obtain ⟨f, rfl⟩ : ∃ g, f = g + 1 := ⟨f - 1, by omega⟩
    obtain rfl : j = ns.length := by omega
    rw [innT, if_neg (by rw [v1]; simp), v3, t.kid _ (by omega), v2]
    simp only [List.flatMap_cons, List.flatMap_nil, List.append_nil, List.drop_length]
    rw [outT, if_pos t.text.1, if_neg (by simp), t.text.2]
    simp [openL, shutL]
  | succ m ih =>
    intro j f h1 h2
    obtain ⟨v1, v2, v3⟩ := t.flat j (by omega)
    obtain ⟨f, rfl⟩ : ∃ g, f = g + 1 := ⟨f - 1, by omega⟩
    obtain ⟨g1, g2, g3, g4⟩ := t.el j (by omega)
    obtain ⟨w1, _, _⟩ := t.flat (j + 1) (by omega)
    have hi := ih (j + 1) f (by omega) (by omega)
    rw [show ((j + 1 : Nat) : Int) = (j : Int) + 1 by omega] at w1 hi
    rw [innT, if_neg (by rw [v1]; simp), v3, t.kid _ (by omega), v2]
    simp only [List.flatMap_cons, List.flatMap_nil, List.append_nil]
    rw [outT, if_neg (by rw [g1]; decide), if_neg (by rw [g1]; decide), if_neg (by rw [g1]; decide), if_pos g1, if_neg (by rw [w1]; simp), hi, Go.Hb.drop_at (show j < ns.length by omega), openT, endT, g2, g3]
    simp [openL, shutL, attrsT]
end Go.Proofs.Ythkmnohghpdjhaa
