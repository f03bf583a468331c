/-
  No cell of these rows narrows 'for every input' (looked for: loops, veiled, ifaces, maps, wideKeys, modest, calm, conditions, laid).
  DERIVED. THE GIVEN ROWS OF THIS SEAT. 6 by the template 'for every input the law returns true; each argument reads behind the call as it read before'; 0 by the template 'total and deterministic' (their statements: YtnlnfmjnoabfeaaTotals.lean).
  GIVEN WITH THE SEED: the statements are not yours to turn. If you find one false, say at which input.
  Laid BY PROGRAM, IN A SANDBOX (cutbox-rows.mjs): the forced cells as the released guide's own fill.sh prints them over the translation 9d70ed972a9f428a… (all of the seat's roots in one cut). By AI agents, Wed Nov 11 2026. No macro, syntax, notation, axiom, sorry.
-/
import Derived.Test.YtnlnfmjnoabfeaaChecked
import GoSem.Claim
import GoSem.ClaimJoined
import GoSem.ClaimMapViews
import Derived.JoinedTies
import Derived.KernelRfl
namespace Go.Proofs.Ytnlnfmjnoabfeaa
/- THE CELL 'sum', in the pinned program and in every row, IS THE sha256 OF THE DUMP (.gsa) THAT YtnlnfmjnoabfeaaProg.lean LOADS. Nothing in Lean hashes anything: it is a label: what it is worth is what the hold of that sum in a sandbox is worth. -/
noncomputable def Try.pinned : Pinned := { name := "ytnlnfmjnoabfeaa", sum := "9d70ed972a9f428a4bc1dc5fc0561404aac3b77468fd6ac01449b0b233efbded", checked := Try.checked }
namespace Rows
def none {H : Type} : Left H := { results := [], args := [] }

/-- 'hornbeamlaw20.TaskFull': WHATEVER THE INPUT: true; the input reads as it did. -/
def taskFullSpec : ChangeSpec := { name := "taskFull", fn := fun _ => fun
  | [d1, d2] => { results := [.lit (.bool true)], args := [d1, d2] }
  | _ => none }
def taskFullRow : OpenClaim := { program := "ytnlnfmjnoabfeaa", sum := "9d70ed972a9f428a4bc1dc5fc0561404aac3b77468fd6ac01449b0b233efbded", func := "hornbeam/hornbeamlaw20.TaskFull", spec := "taskFull", apart := false }
def TaskFullSaid : Prop := taskFullRow.holds Try.pinned (OpenSpec.ofChange taskFullSpec)

/-- ITS FALSE NEIGHBOUR: 'it returns false'. Refute it at one input. -/
def taskFullWrong : ChangeSpec := { name := "taskFull", fn := fun _ => fun
  | [d1, d2] => { results := [.lit (.bool false)], args := [d1, d2] }
  | _ => none }
def TaskFullWrongFalsely : Prop := taskFullRow.holds Try.pinned (OpenSpec.ofChange taskFullWrong)

/-- 'hornbeamlaw20.TaskPicks': WHATEVER THE INPUT: true; the input reads as it did. -/
def taskPicksSpec : ChangeSpec := { name := "taskPicks", fn := fun _ => fun
  | [d1, d2, d3] => { results := [.lit (.bool true)], args := [d1, d2, d3] }
  | _ => none }
def taskPicksRow : OpenClaim := { program := "ytnlnfmjnoabfeaa", sum := "9d70ed972a9f428a4bc1dc5fc0561404aac3b77468fd6ac01449b0b233efbded", func := "hornbeam/hornbeamlaw20.TaskPicks", spec := "taskPicks", apart := false }
def TaskPicksSaid : Prop := taskPicksRow.holds Try.pinned (OpenSpec.ofChange taskPicksSpec)

/-- ITS FALSE NEIGHBOUR: 'it returns false'. Refute it at one input. -/
def taskPicksWrong : ChangeSpec := { name := "taskPicks", fn := fun _ => fun
  | [d1, d2, d3] => { results := [.lit (.bool false)], args := [d1, d2, d3] }
  | _ => none }
def TaskPicksWrongFalsely : Prop := taskPicksRow.holds Try.pinned (OpenSpec.ofChange taskPicksWrong)

/-- 'hornbeamlaw20.TaskZero': WHATEVER THE INPUT: true; the input reads as it did. -/
def taskZeroSpec : ChangeSpec := { name := "taskZero", fn := fun _ => fun
  | [d] => { results := [.lit (.bool true)], args := [d] }
  | _ => none }
def taskZeroRow : OpenClaim := { program := "ytnlnfmjnoabfeaa", sum := "9d70ed972a9f428a4bc1dc5fc0561404aac3b77468fd6ac01449b0b233efbded", func := "hornbeam/hornbeamlaw20.TaskZero", spec := "taskZero", apart := false }
def TaskZeroSaid : Prop := taskZeroRow.holds Try.pinned (OpenSpec.ofChange taskZeroSpec)

/-- ITS FALSE NEIGHBOUR: 'it returns false'. Refute it at one input. -/
def taskZeroWrong : ChangeSpec := { name := "taskZero", fn := fun _ => fun
  | [d] => { results := [.lit (.bool false)], args := [d] }
  | _ => none }
def TaskZeroWrongFalsely : Prop := taskZeroRow.holds Try.pinned (OpenSpec.ofChange taskZeroWrong)

/-- 'hornbeamlaw20.TaskPlays': WHATEVER THE INPUT: true; the input reads as it did. -/
def taskPlaysSpec : ChangeSpec := { name := "taskPlays", fn := fun _ => fun
  | [d] => { results := [.lit (.bool true)], args := [d] }
  | _ => none }
def taskPlaysRow : OpenClaim := { program := "ytnlnfmjnoabfeaa", sum := "9d70ed972a9f428a4bc1dc5fc0561404aac3b77468fd6ac01449b0b233efbded", func := "hornbeam/hornbeamlaw20.TaskPlays", spec := "taskPlays", apart := false }
def TaskPlaysSaid : Prop := taskPlaysRow.holds Try.pinned (OpenSpec.ofChange taskPlaysSpec)

/-- ITS FALSE NEIGHBOUR: 'it returns false'. Refute it at one input. -/
def taskPlaysWrong : ChangeSpec := { name := "taskPlays", fn := fun _ => fun
  | [d] => { results := [.lit (.bool false)], args := [d] }
  | _ => none }
def TaskPlaysWrongFalsely : Prop := taskPlaysRow.holds Try.pinned (OpenSpec.ofChange taskPlaysWrong)

/-- 'hornbeamlaw20.TaskOrder': WHATEVER THE INPUT: true; the input reads as it did. -/
def taskOrderSpec : ChangeSpec := { name := "taskOrder", fn := fun _ => fun
  | [d1, d2] => { results := [.lit (.bool true)], args := [d1, d2] }
  | _ => none }
def taskOrderRow : OpenClaim := { program := "ytnlnfmjnoabfeaa", sum := "9d70ed972a9f428a4bc1dc5fc0561404aac3b77468fd6ac01449b0b233efbded", func := "hornbeam/hornbeamlaw20.TaskOrder", spec := "taskOrder", apart := false }
def TaskOrderSaid : Prop := taskOrderRow.holds Try.pinned (OpenSpec.ofChange taskOrderSpec)

/-- ITS FALSE NEIGHBOUR: 'it returns false'. Refute it at one input. -/
def taskOrderWrong : ChangeSpec := { name := "taskOrder", fn := fun _ => fun
  | [d1, d2] => { results := [.lit (.bool false)], args := [d1, d2] }
  | _ => none }
def TaskOrderWrongFalsely : Prop := taskOrderRow.holds Try.pinned (OpenSpec.ofChange taskOrderWrong)

/-- 'hornbeamlaw20.TaskApart': WHATEVER THE INPUT: true; the input reads as it did. -/
def taskApartSpec : ChangeSpec := { name := "taskApart", fn := fun _ => fun
  | [d1, d2] => { results := [.lit (.bool true)], args := [d1, d2] }
  | _ => none }
def taskApartRow : OpenClaim := { program := "ytnlnfmjnoabfeaa", sum := "9d70ed972a9f428a4bc1dc5fc0561404aac3b77468fd6ac01449b0b233efbded", func := "hornbeam/hornbeamlaw20.TaskApart", spec := "taskApart", apart := false }
def TaskApartSaid : Prop := taskApartRow.holds Try.pinned (OpenSpec.ofChange taskApartSpec)

/-- ITS FALSE NEIGHBOUR: 'it returns false'. Refute it at one input. -/
def taskApartWrong : ChangeSpec := { name := "taskApart", fn := fun _ => fun
  | [d1, d2] => { results := [.lit (.bool false)], args := [d1, d2] }
  | _ => none }
def TaskApartWrongFalsely : Prop := taskApartRow.holds Try.pinned (OpenSpec.ofChange taskApartWrong)

/- THE SECOND FORM. 'bulk': how many values and letters a reading holds, each counted each time it is reached (what is shared counts as often as it is met; a slice's spare places count too). A statement '..UptoSaid' is the law's where the arguments, and the package variables that the reading takes, are together of bulk at most 1048576: NARROWER than '..Said'. Prove '..Said' where nothing that the law and all that it calls make is longer than what came in: it says more and counts as full. Else prove '..UptoSaid'. A law counts once. -/
mutual
def uptoBulk {H : Type} : DataW H → Nat
  | .lit (.string bytes) => bytes.length + 1
  | .lit _ => 1
  | .nil => 1
  | .ptr d => uptoBulk d + 1
  | .slice elems spare => uptoBulkAll elems + uptoBulkAll spare + 1
  | .agg parts => uptoBulkAll parts + 1
  | .iface _ d => uptoBulk d + 1
  | .map entries => uptoBulkEntries entries + 1
  | .held _ => 1
def uptoBulkAll {H : Type} : List (DataW H) → Nat
  | [] => 0
  | d :: r => uptoBulk d + uptoBulkAll r
def uptoBulkEntries {H : Type} : List (Lit × DataW H) → Nat
  | [] => 0
  | x :: r => uptoBulkEntry x + uptoBulkEntries r
def uptoBulkEntry {H : Type} : Lit × DataW H → Nat
  | (.string bytes, d) => bytes.length + uptoBulk d + 1
  | (_, d) => uptoBulk d + 1
 end
def uptoSmall : (H : Type) → List (DataW H) → Bool := fun _ ds => decide (uptoBulkAll ds ≤ 1048576)
def OpenSpec.upto (s : _root_.Go.ChangeSpec) : _root_.Go.OpenSpec := { _root_.Go.OpenSpec.ofChange s with cond := some uptoSmall }

/-- 'hornbeamlaw20.TaskFull', WHERE WHAT IT READS IS OF BULK AT MOST 1048576: true; the input reads as it did. -/
def taskFullUptoRow : OpenClaim := { program := "ytnlnfmjnoabfeaa", sum := "9d70ed972a9f428a4bc1dc5fc0561404aac3b77468fd6ac01449b0b233efbded", func := "hornbeam/hornbeamlaw20.TaskFull", spec := "taskFull", apart := false, narrowed := true }
def TaskFullUptoSaid : Prop := taskFullUptoRow.holds Try.pinned (OpenSpec.upto taskFullSpec)

/-- 'hornbeamlaw20.TaskPicks', WHERE WHAT IT READS IS OF BULK AT MOST 1048576: true; the input reads as it did. -/
def taskPicksUptoRow : OpenClaim := { program := "ytnlnfmjnoabfeaa", sum := "9d70ed972a9f428a4bc1dc5fc0561404aac3b77468fd6ac01449b0b233efbded", func := "hornbeam/hornbeamlaw20.TaskPicks", spec := "taskPicks", apart := false, narrowed := true }
def TaskPicksUptoSaid : Prop := taskPicksUptoRow.holds Try.pinned (OpenSpec.upto taskPicksSpec)

/-- 'hornbeamlaw20.TaskZero', WHERE WHAT IT READS IS OF BULK AT MOST 1048576: true; the input reads as it did. -/
def taskZeroUptoRow : OpenClaim := { program := "ytnlnfmjnoabfeaa", sum := "9d70ed972a9f428a4bc1dc5fc0561404aac3b77468fd6ac01449b0b233efbded", func := "hornbeam/hornbeamlaw20.TaskZero", spec := "taskZero", apart := false, narrowed := true }
def TaskZeroUptoSaid : Prop := taskZeroUptoRow.holds Try.pinned (OpenSpec.upto taskZeroSpec)

/-- 'hornbeamlaw20.TaskPlays', WHERE WHAT IT READS IS OF BULK AT MOST 1048576: true; the input reads as it did. -/
def taskPlaysUptoRow : OpenClaim := { program := "ytnlnfmjnoabfeaa", sum := "9d70ed972a9f428a4bc1dc5fc0561404aac3b77468fd6ac01449b0b233efbded", func := "hornbeam/hornbeamlaw20.TaskPlays", spec := "taskPlays", apart := false, narrowed := true }
def TaskPlaysUptoSaid : Prop := taskPlaysUptoRow.holds Try.pinned (OpenSpec.upto taskPlaysSpec)

/-- 'hornbeamlaw20.TaskOrder', WHERE WHAT IT READS IS OF BULK AT MOST 1048576: true; the input reads as it did. -/
def taskOrderUptoRow : OpenClaim := { program := "ytnlnfmjnoabfeaa", sum := "9d70ed972a9f428a4bc1dc5fc0561404aac3b77468fd6ac01449b0b233efbded", func := "hornbeam/hornbeamlaw20.TaskOrder", spec := "taskOrder", apart := false, narrowed := true }
def TaskOrderUptoSaid : Prop := taskOrderUptoRow.holds Try.pinned (OpenSpec.upto taskOrderSpec)

/-- 'hornbeamlaw20.TaskApart', WHERE WHAT IT READS IS OF BULK AT MOST 1048576: true; the input reads as it did. -/
def taskApartUptoRow : OpenClaim := { program := "ytnlnfmjnoabfeaa", sum := "9d70ed972a9f428a4bc1dc5fc0561404aac3b77468fd6ac01449b0b233efbded", func := "hornbeam/hornbeamlaw20.TaskApart", spec := "taskApart", apart := false, narrowed := true }
def TaskApartUptoSaid : Prop := taskApartUptoRow.holds Try.pinned (OpenSpec.upto taskApartSpec)

end Rows
end Go.Proofs.Ytnlnfmjnoabfeaa
