/- The links of an arena's nodes, told as lists of children; plain. -/
import Derived.Test.YtoohapbaelmkcaaGreatNode9
set_option linter.unusedVariables false
set_option linter.unusedSimpArgs false
namespace Go.Proofs.YtoohapbaelmkcaaGreat
open Go Go.Hb Go.RowKit
abbrev nodeA (A : List Node_one) (x : Int) : Api_node := (at_ A x.toNat).Node
def InA (A : List Node_one) (x : Int) : Prop := 0 ≤ x ∧ x < A.length
theorem inA_iff {A : List Node_one} {x : Int} : hasB A x = true ↔ InA A x := by simp [hasB, InA]
theorem InA.b {A : List Node_one} {x : Int} (h : InA A x) : hasB A x = true := inA_iff.2 h
/-- what is no link -/
def coreN (o : Node_one) : Node_one := { o with Node := { o.Node with Parent := 0, First := 0, Last := 0, Prev := 0, Next := 0 } }
theorem at_setI {A : List Node_one} {i y : Int} (hi : InA A i) (hy : 0 ≤ y) (v : Node_one) : at_ (A.set i.toNat v) y.toNat = if y = i then v else at_ A y.toNat := by
  obtain ⟨h0, h1⟩ := hi
  by_cases h : y = i
  · subst h; rw [if_pos rfl, at_set_eq (by omega)]
  · rw [if_neg h, at_set_ne (by omega)]
theorem setFirst_len {A : List Node_one} {i v : Int} : (setFirst A i v).length = A.length := by simp [setFirst]
theorem setFirst_core {A : List Node_one} {i y v : Int} (hi : InA A i) (hy : 0 ≤ y) : coreN (at_ (setFirst A i v) y.toNat) = coreN (at_ A y.toNat) := by
  rw [setFirst, at_setI hi hy]; split
  · next h => subst h; rfl
  · rfl
theorem setFirst_eq {A : List Node_one} {i y v : Int} (hi : InA A i) (hy : 0 ≤ y) : (nodeA (setFirst A i v) y).First = if y = i then v else (nodeA A y).First := by
  rw [nodeA, setFirst, at_setI hi hy]; split <;> rfl
theorem setLast_len {A : List Node_one} {i v : Int} : (setLast A i v).length = A.length := by simp [setLast]
theorem setLast_core {A : List Node_one} {i y v : Int} (hi : InA A i) (hy : 0 ≤ y) : coreN (at_ (setLast A i v) y.toNat) = coreN (at_ A y.toNat) := by
  rw [setLast, at_setI hi hy]; split
  · next h => subst h; rfl
  · rfl
theorem setLast_eq {A : List Node_one} {i y v : Int} (hi : InA A i) (hy : 0 ≤ y) : (nodeA (setLast A i v) y).Last = if y = i then v else (nodeA A y).Last := by
  rw [nodeA, setLast, at_setI hi hy]; split <;> rfl
theorem setNext_len {A : List Node_one} {i v : Int} : (setNext A i v).length = A.length := by simp [setNext]
theorem setNext_core {A : List Node_one} {i y v : Int} (hi : InA A i) (hy : 0 ≤ y) : coreN (at_ (setNext A i v) y.toNat) = coreN (at_ A y.toNat) := by
  rw [setNext, at_setI hi hy]; split
  · next h => subst h; rfl
  · rfl
theorem setNext_eq {A : List Node_one} {i y v : Int} (hi : InA A i) (hy : 0 ≤ y) : (nodeA (setNext A i v) y).Next = if y = i then v else (nodeA A y).Next := by
  rw [nodeA, setNext, at_setI hi hy]; split <;> rfl
theorem setPrev_len {A : List Node_one} {i v : Int} : (setPrev A i v).length = A.length := by simp [setPrev]
theorem setPrev_core {A : List Node_one} {i y v : Int} (hi : InA A i) (hy : 0 ≤ y) : coreN (at_ (setPrev A i v) y.toNat) = coreN (at_ A y.toNat) := by
  rw [setPrev, at_setI hi hy]; split
  · next h => subst h; rfl
  · rfl
theorem setPrev_eq {A : List Node_one} {i y v : Int} (hi : InA A i) (hy : 0 ≤ y) : (nodeA (setPrev A i v) y).Prev = if y = i then v else (nodeA A y).Prev := by
  rw [nodeA, setPrev, at_setI hi hy]; split <;> rfl
theorem setFirst_Parent {A : List Node_one} {i y v : Int} (hi : InA A i) (hy : 0 ≤ y) : (nodeA (setFirst A i v) y).Parent = (nodeA A y).Parent := by
  rw [nodeA, setFirst, at_setI hi hy]; split
  · next h => subst h; rfl
  · rfl
theorem setFirst_Last {A : List Node_one} {i y v : Int} (hi : InA A i) (hy : 0 ≤ y) : (nodeA (setFirst A i v) y).Last = (nodeA A y).Last := by
  rw [nodeA, setFirst, at_setI hi hy]; split
  · next h => subst h; rfl
  · rfl
theorem setFirst_Next {A : List Node_one} {i y v : Int} (hi : InA A i) (hy : 0 ≤ y) : (nodeA (setFirst A i v) y).Next = (nodeA A y).Next := by
  rw [nodeA, setFirst, at_setI hi hy]; split
  · next h => subst h; rfl
  · rfl
theorem setFirst_Prev {A : List Node_one} {i y v : Int} (hi : InA A i) (hy : 0 ≤ y) : (nodeA (setFirst A i v) y).Prev = (nodeA A y).Prev := by
  rw [nodeA, setFirst, at_setI hi hy]; split
  · next h => subst h; rfl
  · rfl
theorem setLast_Parent {A : List Node_one} {i y v : Int} (hi : InA A i) (hy : 0 ≤ y) : (nodeA (setLast A i v) y).Parent = (nodeA A y).Parent := by
  rw [nodeA, setLast, at_setI hi hy]; split
  · next h => subst h; rfl
  · rfl
theorem setLast_First {A : List Node_one} {i y v : Int} (hi : InA A i) (hy : 0 ≤ y) : (nodeA (setLast A i v) y).First = (nodeA A y).First := by
  rw [nodeA, setLast, at_setI hi hy]; split
  · next h => subst h; rfl
  · rfl
theorem setLast_Next {A : List Node_one} {i y v : Int} (hi : InA A i) (hy : 0 ≤ y) : (nodeA (setLast A i v) y).Next = (nodeA A y).Next := by
  rw [nodeA, setLast, at_setI hi hy]; split
  · next h => subst h; rfl
  · rfl
theorem setLast_Prev {A : List Node_one} {i y v : Int} (hi : InA A i) (hy : 0 ≤ y) : (nodeA (setLast A i v) y).Prev = (nodeA A y).Prev := by
  rw [nodeA, setLast, at_setI hi hy]; split
  · next h => subst h; rfl
  · rfl
theorem setNext_Parent {A : List Node_one} {i y v : Int} (hi : InA A i) (hy : 0 ≤ y) : (nodeA (setNext A i v) y).Parent = (nodeA A y).Parent := by
  rw [nodeA, setNext, at_setI hi hy]; split
  · next h => subst h; rfl
  · rfl
theorem setNext_First {A : List Node_one} {i y v : Int} (hi : InA A i) (hy : 0 ≤ y) : (nodeA (setNext A i v) y).First = (nodeA A y).First := by
  rw [nodeA, setNext, at_setI hi hy]; split
  · next h => subst h; rfl
  · rfl
theorem setNext_Last {A : List Node_one} {i y v : Int} (hi : InA A i) (hy : 0 ≤ y) : (nodeA (setNext A i v) y).Last = (nodeA A y).Last := by
  rw [nodeA, setNext, at_setI hi hy]; split
  · next h => subst h; rfl
  · rfl
theorem setNext_Prev {A : List Node_one} {i y v : Int} (hi : InA A i) (hy : 0 ≤ y) : (nodeA (setNext A i v) y).Prev = (nodeA A y).Prev := by
  rw [nodeA, setNext, at_setI hi hy]; split
  · next h => subst h; rfl
  · rfl
theorem setPrev_Parent {A : List Node_one} {i y v : Int} (hi : InA A i) (hy : 0 ≤ y) : (nodeA (setPrev A i v) y).Parent = (nodeA A y).Parent := by
  rw [nodeA, setPrev, at_setI hi hy]; split
  · next h => subst h; rfl
  · rfl
theorem setPrev_First {A : List Node_one} {i y v : Int} (hi : InA A i) (hy : 0 ≤ y) : (nodeA (setPrev A i v) y).First = (nodeA A y).First := by
  rw [nodeA, setPrev, at_setI hi hy]; split
  · next h => subst h; rfl
  · rfl
theorem setPrev_Last {A : List Node_one} {i y v : Int} (hi : InA A i) (hy : 0 ≤ y) : (nodeA (setPrev A i v) y).Last = (nodeA A y).Last := by
  rw [nodeA, setPrev, at_setI hi hy]; split
  · next h => subst h; rfl
  · rfl
theorem setPrev_Next {A : List Node_one} {i y v : Int} (hi : InA A i) (hy : 0 ≤ y) : (nodeA (setPrev A i v) y).Next = (nodeA A y).Next := by
  rw [nodeA, setPrev, at_setI hi hy]; split
  · next h => subst h; rfl
  · rfl
theorem setLinks_core {A : List Node_one} {i y u p n : Int} (hi : InA A i) (hy : 0 ≤ y) : coreN (at_ (setLinks A i u p n) y.toNat) = coreN (at_ A y.toNat) := by
  rw [setLinks, at_setI hi hy]; split
  · next h => subst h; rfl
  · rfl
theorem setLinks_Parent {A : List Node_one} {i y u p n : Int} (hi : InA A i) (hy : 0 ≤ y) : (nodeA (setLinks A i u p n) y).Parent = if y = i then u else (nodeA A y).Parent := by
  rw [nodeA, setLinks, at_setI hi hy]; split <;> rfl
theorem setLinks_Prev {A : List Node_one} {i y u p n : Int} (hi : InA A i) (hy : 0 ≤ y) : (nodeA (setLinks A i u p n) y).Prev = if y = i then p else (nodeA A y).Prev := by
  rw [nodeA, setLinks, at_setI hi hy]; split <;> rfl
theorem setLinks_Next {A : List Node_one} {i y u p n : Int} (hi : InA A i) (hy : 0 ≤ y) : (nodeA (setLinks A i u p n) y).Next = if y = i then n else (nodeA A y).Next := by
  rw [nodeA, setLinks, at_setI hi hy]; split <;> rfl
theorem setLinks_First {A : List Node_one} {i y u p n : Int} (hi : InA A i) (hy : 0 ≤ y) : (nodeA (setLinks A i u p n) y).First = (nodeA A y).First := by
  rw [nodeA, setLinks, at_setI hi hy]; split
  · next h => subst h; rfl
  · rfl
theorem setLinks_Last {A : List Node_one} {i y u p n : Int} (hi : InA A i) (hy : 0 ≤ y) : (nodeA (setLinks A i u p n) y).Last = (nodeA A y).Last := by
  rw [nodeA, setLinks, at_setI hi hy]; split
  · next h => subst h; rfl
  · rfl
theorem InA.len {A B : List Node_one} {x : Int} (h : InA A x) (e : B.length = A.length) : InA B x := ⟨h.1, by rw [e]; exact h.2⟩
/-- what a row of children's neighbours is joined to -/
structure Joined (A B : List Node_one) (up l r y : Int) : Prop where
  core : coreN (at_ B y.toNat) = coreN (at_ A y.toNat)
  parent : (nodeA B y).Parent = (nodeA A y).Parent
  first : (nodeA B y).First = if l = -1 ∧ y = up then r else (nodeA A y).First
  last : (nodeA B y).Last = if r = -1 ∧ y = up then l else (nodeA A y).Last
  next : (nodeA B y).Next = if l ≠ -1 ∧ y = l then r else (nodeA A y).Next
  prev : (nodeA B y).Prev = if r ≠ -1 ∧ y = r then l else (nodeA A y).Prev
theorem joined {A : List Node_one} {up l r y : Int} (hu : InA A up) (hl : l = -1 ∨ InA A l) (hr : r = -1 ∨ InA A r) (hy : 0 ≤ y) : Joined A (joinL A up l r) up l r y := by
  unfold joinL joinA
  by_cases h1 : l = -1
  · rw [if_pos h1]
    have hlen : (setFirst A up r).length = A.length := setFirst_len
    have hu2 : InA (setFirst A up r) up := hu.len hlen
    unfold joinB
    by_cases h2 : r = -1
    · rw [if_pos h2]
      constructor
      · rw [setLast_core hu2 hy, setFirst_core hu hy]
      · rw [setLast_Parent hu2 hy, setFirst_Parent hu hy]
      · rw [setLast_First hu2 hy, setFirst_eq hu hy]; simp [h1]
      · rw [setLast_eq hu2 hy, setFirst_Last hu hy]; simp [h2]
      · rw [setLast_Next hu2 hy, setFirst_Next hu hy]; simp [h1]
      · rw [setLast_Prev hu2 hy, setFirst_Prev hu hy]; simp [h2]
    · rw [if_neg h2]
      have hr2 : InA (setFirst A up r) r := (hr.resolve_left h2).len hlen
      constructor
      · rw [setPrev_core hr2 hy, setFirst_core hu hy]
      · rw [setPrev_Parent hr2 hy, setFirst_Parent hu hy]
      · rw [setPrev_First hr2 hy, setFirst_eq hu hy]; simp [h1]
      · rw [setPrev_Last hr2 hy, setFirst_Last hu hy]; simp [h2]
      · rw [setPrev_Next hr2 hy, setFirst_Next hu hy]; simp [h1]
      · rw [setPrev_eq hr2 hy, setFirst_Prev hu hy]; simp [h2]
  · rw [if_neg h1]
    have hl1 := hl.resolve_left h1
    have hlen : (setNext A l r).length = A.length := setNext_len
    have hu2 : InA (setNext A l r) up := hu.len hlen
    unfold joinB
    by_cases h2 : r = -1
    · rw [if_pos h2]
      constructor
      · rw [setLast_core hu2 hy, setNext_core hl1 hy]
      · rw [setLast_Parent hu2 hy, setNext_Parent hl1 hy]
      · rw [setLast_First hu2 hy, setNext_First hl1 hy]; simp [h1]
      · rw [setLast_eq hu2 hy, setNext_Last hl1 hy]; simp [h2]
      · rw [setLast_Next hu2 hy, setNext_eq hl1 hy]; simp [h1]
      · rw [setLast_Prev hu2 hy, setNext_Prev hl1 hy]; simp [h2]
    · rw [if_neg h2]
      have hr2 : InA (setNext A l r) r := (hr.resolve_left h2).len hlen
      constructor
      · rw [setPrev_core hr2 hy, setNext_core hl1 hy]
      · rw [setPrev_Parent hr2 hy, setNext_Parent hl1 hy]
      · rw [setPrev_First hr2 hy, setNext_First hl1 hy]; simp [h1]
      · rw [setPrev_Last hr2 hy, setNext_Last hl1 hy]; simp [h2]
      · rw [setPrev_Next hr2 hy, setNext_eq hl1 hy]; simp [h1]
      · rw [setPrev_eq hr2 hy, setNext_Prev hl1 hy]; simp [h2]
/-- a node that is put between l and r -/
structure Put (A B : List Node_one) (up id l r y : Int) : Prop where
  core : coreN (at_ B y.toNat) = coreN (at_ A y.toNat)
  parent : (nodeA B y).Parent = if y = id then up else (nodeA A y).Parent
  first : (nodeA B y).First = if l = -1 ∧ y = up then id else (nodeA A y).First
  last : (nodeA B y).Last = if r = -1 ∧ y = up then id else (nodeA A y).Last
  next : (nodeA B y).Next = if y = id then r else if l ≠ -1 ∧ y = l then id else (nodeA A y).Next
  prev : (nodeA B y).Prev = if y = id then l else if r ≠ -1 ∧ y = r then id else (nodeA A y).Prev
theorem put_at {A : List Node_one} {up id l r y : Int} (hi : InA A id) (hu : InA A up) (hl : l = -1 ∨ InA A l) (hr : r = -1 ∨ InA A r) (hli : l ≠ id) (hri : r ≠ id) (hy : 0 ≤ y) : Put A (joinL (joinL (setLinks A id up l r) up l id) up id r) up id l r y := by
  have e1 : (setLinks A id up l r).length = A.length := setLinks_len
  have e2 : (joinL (setLinks A id up l r) up l id).length = A.length := by rw [joinL_len, e1]
  have hne : id ≠ -1 := by have := hi.1; omega
  have j1 := joined (A := setLinks A id up l r) (up := up) (l := l) (r := id) (hu.len e1) (hl.imp (fun h => h) fun h => h.len e1) (.inr (hi.len e1)) hy
  have j2 := joined (A := joinL (setLinks A id up l r) up l id) (up := up) (l := id) (r := r) (hu.len e2) (.inr (hi.len e2)) (hr.imp (fun h => h) fun h => h.len e2) hy
  constructor
  · rw [j2.core, j1.core, setLinks_core hi hy]
  · rw [j2.parent, j1.parent, setLinks_Parent hi hy]
  · rw [j2.first, if_neg (by simp [hne]), j1.first, setLinks_First hi hy]
  · rw [j2.last, j1.last, if_neg (c := id = -1 ∧ y = up) (by simp [hne]), setLinks_Last hi hy]
  · rw [j2.next, j1.next, setLinks_Next hi hy]
    by_cases h : y = id
    · subst h; simp [hne]
    · simp [h]
  · rw [j2.prev, j1.prev, setLinks_Prev hi hy]
    by_cases h : y = id
    · subst h; simp [hne, hri.symm]
    · simp [h]
/-- a node that is taken away -/
structure Gone (A B : List Node_one) (up id l r y : Int) : Prop where
  core : coreN (at_ B y.toNat) = coreN (at_ A y.toNat)
  parent : (nodeA B y).Parent = if y = id then -1 else (nodeA A y).Parent
  first : (nodeA B y).First = if l = -1 ∧ y = up then r else (nodeA A y).First
  last : (nodeA B y).Last = if r = -1 ∧ y = up then l else (nodeA A y).Last
  next : (nodeA B y).Next = if y = id then -1 else if l ≠ -1 ∧ y = l then r else (nodeA A y).Next
  prev : (nodeA B y).Prev = if y = id then -1 else if r ≠ -1 ∧ y = r then l else (nodeA A y).Prev
theorem gone_at {A : List Node_one} {up id l r y : Int} (hi : InA A id) (hu : InA A up) (hl : l = -1 ∨ InA A l) (hr : r = -1 ∨ InA A r) (hy : 0 ≤ y) : Gone A (setLinks (joinL A up l r) id (-1) (-1) (-1)) up id l r y := by
  have e : (joinL A up l r).length = A.length := joinL_len
  have j := joined hu hl hr hy
  have hi2 := hi.len e
  constructor
  · rw [setLinks_core hi2 hy, j.core]
  · rw [setLinks_Parent hi2 hy, j.parent]
  · rw [setLinks_First hi2 hy, j.first]
  · rw [setLinks_Last hi2 hy, j.last]
  · rw [setLinks_Next hi2 hy, j.next]
  · rw [setLinks_Prev hi2 hy, j.prev]
end Go.Proofs.YtoohapbaelmkcaaGreat
