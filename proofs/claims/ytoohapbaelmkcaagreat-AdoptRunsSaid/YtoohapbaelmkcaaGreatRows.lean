/-
  No cell of these rows narrows 'for every input' (looked for: loops, veiled, ifaces, maps, wideKeys, modest, calm, conditions, laid).
  DERIVED. THE GIVEN ROWS OF THIS SEAT. 4 by the template 'for every input the law returns true; each argument reads behind the call as it read before'; 0 by the template 'total and deterministic' (their statements: YtoohapbaelmkcaaGreatTotals.lean).
  GIVEN WITH THE SEED: the statements are not yours to turn. If you find one false, say at which input.
  Laid BY PROGRAM, IN A SANDBOX (cutbox-rows.mjs): the forced cells as the released guide's own fill.sh prints them over the translation 7552636101a6a6ab… (all of the seat's roots in one cut). By AI agents, Wed Nov 11 2026. No macro, syntax, notation, axiom, sorry.
-/
import Derived.Test.YtoohapbaelmkcaaGreatChecked
import GoSem.Claim
import GoSem.ClaimJoined
import GoSem.ClaimMapViews
import Derived.JoinedTies
import Derived.KernelRfl
namespace Go.Proofs.YtoohapbaelmkcaaGreat
/- THE CELL 'sum', in the pinned program and in every row, IS THE sha256 OF THE DUMP (.gsa) THAT YtoohapbaelmkcaaGreatProg.lean LOADS. Nothing in Lean hashes anything: it is a label: what it is worth is what the hold of that sum in a sandbox is worth. -/
noncomputable def Tryz.pinned : Pinned := { name := "ytoohapbaelmkcaagreat", sum := "7552636101a6a6abe9a89bcddea6a29c6b8f4a7ce243c49954cd29dfe14fe15f", checked := Tryz.checked }
namespace Rows
def none {H : Type} : Left H := { results := [], args := [] }

/-- 'hornbeamlaw15.AdoptZero': WHATEVER THE INPUT: true; the input reads as it did. -/
def adoptZeroSpec : ChangeSpec := { name := "adoptZero", fn := fun _ => fun
  | [d] => { results := [.lit (.bool true)], args := [d] }
  | _ => none }
def adoptZeroRow : OpenClaim := { program := "ytoohapbaelmkcaagreat", sum := "7552636101a6a6abe9a89bcddea6a29c6b8f4a7ce243c49954cd29dfe14fe15f", func := "hornbeam/hornbeamlaw15.AdoptZero", spec := "adoptZero", unfollowed := true, recurses := true, apart := false }
def AdoptZeroSaid : Prop := adoptZeroRow.holds Tryz.pinned (OpenSpec.ofChange adoptZeroSpec)

/-- ITS FALSE NEIGHBOUR: 'it returns false'. Refute it at one input. -/
def adoptZeroWrong : ChangeSpec := { name := "adoptZero", fn := fun _ => fun
  | [d] => { results := [.lit (.bool false)], args := [d] }
  | _ => none }
def AdoptZeroWrongFalsely : Prop := adoptZeroRow.holds Tryz.pinned (OpenSpec.ofChange adoptZeroWrong)

/-- 'hornbeamlaw15.AdoptRuns': WHATEVER THE INPUT: true; the input reads as it did. -/
def adoptRunsSpec : ChangeSpec := { name := "adoptRuns", fn := fun _ => fun
  | [d1, d2, d3] => { results := [.lit (.bool true)], args := [d1, d2, d3] }
  | _ => none }
def adoptRunsRow : OpenClaim := { program := "ytoohapbaelmkcaagreat", sum := "7552636101a6a6abe9a89bcddea6a29c6b8f4a7ce243c49954cd29dfe14fe15f", func := "hornbeam/hornbeamlaw15.AdoptRuns", spec := "adoptRuns", unfollowed := true, recurses := true, apart := false }
def AdoptRunsSaid : Prop := adoptRunsRow.holds Tryz.pinned (OpenSpec.ofChange adoptRunsSpec)

/-- ITS FALSE NEIGHBOUR: 'it returns false'. Refute it at one input. -/
def adoptRunsWrong : ChangeSpec := { name := "adoptRuns", fn := fun _ => fun
  | [d1, d2, d3] => { results := [.lit (.bool false)], args := [d1, d2, d3] }
  | _ => none }
def AdoptRunsWrongFalsely : Prop := adoptRunsRow.holds Tryz.pinned (OpenSpec.ofChange adoptRunsWrong)

/-- 'hornbeamlaw15.AdoptBounded': WHATEVER THE INPUT: true; the input reads as it did. -/
def adoptBoundedSpec : ChangeSpec := { name := "adoptBounded", fn := fun _ => fun
  | [d1, d2, d3] => { results := [.lit (.bool true)], args := [d1, d2, d3] }
  | _ => none }
def adoptBoundedRow : OpenClaim := { program := "ytoohapbaelmkcaagreat", sum := "7552636101a6a6abe9a89bcddea6a29c6b8f4a7ce243c49954cd29dfe14fe15f", func := "hornbeam/hornbeamlaw15.AdoptBounded", spec := "adoptBounded", unfollowed := true, recurses := true, apart := false }
def AdoptBoundedSaid : Prop := adoptBoundedRow.holds Tryz.pinned (OpenSpec.ofChange adoptBoundedSpec)

/-- ITS FALSE NEIGHBOUR: 'it returns false'. Refute it at one input. -/
def adoptBoundedWrong : ChangeSpec := { name := "adoptBounded", fn := fun _ => fun
  | [d1, d2, d3] => { results := [.lit (.bool false)], args := [d1, d2, d3] }
  | _ => none }
def AdoptBoundedWrongFalsely : Prop := adoptBoundedRow.holds Tryz.pinned (OpenSpec.ofChange adoptBoundedWrong)

/-- 'hornbeamlaw15.AdoptPlain': WHATEVER THE INPUT: true; the input reads as it did. -/
def adoptPlainSpec : ChangeSpec := { name := "adoptPlain", fn := fun _ => fun
  | [d1, d2] => { results := [.lit (.bool true)], args := [d1, d2] }
  | _ => none }
def adoptPlainRow : OpenClaim := { program := "ytoohapbaelmkcaagreat", sum := "7552636101a6a6abe9a89bcddea6a29c6b8f4a7ce243c49954cd29dfe14fe15f", func := "hornbeam/hornbeamlaw15.AdoptPlain", spec := "adoptPlain", unfollowed := true, recurses := true, apart := false }
def AdoptPlainSaid : Prop := adoptPlainRow.holds Tryz.pinned (OpenSpec.ofChange adoptPlainSpec)

/-- ITS FALSE NEIGHBOUR: 'it returns false'. Refute it at one input. -/
def adoptPlainWrong : ChangeSpec := { name := "adoptPlain", fn := fun _ => fun
  | [d1, d2] => { results := [.lit (.bool false)], args := [d1, d2] }
  | _ => none }
def AdoptPlainWrongFalsely : Prop := adoptPlainRow.holds Tryz.pinned (OpenSpec.ofChange adoptPlainWrong)

/- THE SECOND FORM. 'bulk': how many values and letters a reading holds, each counted each time it is reached (what is shared counts as often as it is met; a slice's spare places count too). A statement '..UptoSaid' is the law's where the arguments, and the package variables that the reading takes, are together of bulk at most 1048576: NARROWER than '..Said'. Prove '..Said' where nothing that the law and all that it calls make is longer than what came in: it says more and counts as full. Else prove '..UptoSaid'. A law counts once. -/
mutual
def uptoBulk {H : Type} : DataW H → Nat
  | .lit (.string bytes) => bytes.length + 1
  | .lit _ => 1
  | .nil => 1
  | .ptr d => uptoBulk d + 1
  | .slice elems spare => uptoBulkAll elems + uptoBulkAll spare + 1
  | .agg parts => uptoBulkAll parts + 1
  | .iface _ d => uptoBulk d + 1
  | .map entries => uptoBulkEntries entries + 1
  | .held _ => 1
def uptoBulkAll {H : Type} : List (DataW H) → Nat
  | [] => 0
  | d :: r => uptoBulk d + uptoBulkAll r
def uptoBulkEntries {H : Type} : List (Lit × DataW H) → Nat
  | [] => 0
  | x :: r => uptoBulkEntry x + uptoBulkEntries r
def uptoBulkEntry {H : Type} : Lit × DataW H → Nat
  | (.string bytes, d) => bytes.length + uptoBulk d + 1
  | (_, d) => uptoBulk d + 1
 end
def uptoSmall : (H : Type) → List (DataW H) → Bool := fun _ ds => decide (uptoBulkAll ds ≤ 1048576)
def OpenSpec.upto (s : _root_.Go.ChangeSpec) : _root_.Go.OpenSpec := { _root_.Go.OpenSpec.ofChange s with cond := some uptoSmall }

/-- 'hornbeamlaw15.AdoptZero', WHERE WHAT IT READS IS OF BULK AT MOST 1048576: true; the input reads as it did. -/
def adoptZeroUptoRow : OpenClaim := { program := "ytoohapbaelmkcaagreat", sum := "7552636101a6a6abe9a89bcddea6a29c6b8f4a7ce243c49954cd29dfe14fe15f", func := "hornbeam/hornbeamlaw15.AdoptZero", spec := "adoptZero", unfollowed := true, recurses := true, apart := false, narrowed := true }
def AdoptZeroUptoSaid : Prop := adoptZeroUptoRow.holds Tryz.pinned (OpenSpec.upto adoptZeroSpec)

/-- 'hornbeamlaw15.AdoptRuns', WHERE WHAT IT READS IS OF BULK AT MOST 1048576: true; the input reads as it did. -/
def adoptRunsUptoRow : OpenClaim := { program := "ytoohapbaelmkcaagreat", sum := "7552636101a6a6abe9a89bcddea6a29c6b8f4a7ce243c49954cd29dfe14fe15f", func := "hornbeam/hornbeamlaw15.AdoptRuns", spec := "adoptRuns", unfollowed := true, recurses := true, apart := false, narrowed := true }
def AdoptRunsUptoSaid : Prop := adoptRunsUptoRow.holds Tryz.pinned (OpenSpec.upto adoptRunsSpec)

/-- 'hornbeamlaw15.AdoptBounded', WHERE WHAT IT READS IS OF BULK AT MOST 1048576: true; the input reads as it did. -/
def adoptBoundedUptoRow : OpenClaim := { program := "ytoohapbaelmkcaagreat", sum := "7552636101a6a6abe9a89bcddea6a29c6b8f4a7ce243c49954cd29dfe14fe15f", func := "hornbeam/hornbeamlaw15.AdoptBounded", spec := "adoptBounded", unfollowed := true, recurses := true, apart := false, narrowed := true }
def AdoptBoundedUptoSaid : Prop := adoptBoundedUptoRow.holds Tryz.pinned (OpenSpec.upto adoptBoundedSpec)

/-- 'hornbeamlaw15.AdoptPlain', WHERE WHAT IT READS IS OF BULK AT MOST 1048576: true; the input reads as it did. -/
def adoptPlainUptoRow : OpenClaim := { program := "ytoohapbaelmkcaagreat", sum := "7552636101a6a6abe9a89bcddea6a29c6b8f4a7ce243c49954cd29dfe14fe15f", func := "hornbeam/hornbeamlaw15.AdoptPlain", spec := "adoptPlain", unfollowed := true, recurses := true, apart := false, narrowed := true }
def AdoptPlainUptoSaid : Prop := adoptPlainUptoRow.holds Tryz.pinned (OpenSpec.upto adoptPlainSpec)

end Rows
end Go.Proofs.YtoohapbaelmkcaaGreat
