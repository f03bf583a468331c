/-
  No cell of these rows narrows 'for every input' (looked for: loops, veiled, ifaces, maps, wideKeys, modest, calm, conditions, laid).
  DERIVED. THE GIVEN ROWS OF THIS SEAT. 6 by the template 'for every input the law returns true; each argument reads behind the call as it read before'; 0 by the template 'total and deterministic' (their statements: YtjhifjkkeeeaoaaTotals.lean).
  GIVEN WITH THE SEED: the statements are not yours to turn. If you find one false, say at which input.
  Laid BY PROGRAM, IN A SANDBOX (cutbox-rows.mjs): the forced cells as the released guide's own fill.sh prints them over the translation 06efd76a83563f44… (all of the seat's roots in one cut). By AI agents, Wed Nov 11 2026. No macro, syntax, notation, axiom, sorry.
-/
import Derived.Test.YtjhifjkkeeeaoaaChecked
import GoSem.Claim
import GoSem.ClaimJoined
import GoSem.ClaimMapViews
import Derived.JoinedTies
import Derived.KernelRfl
namespace Go.Proofs.Ytjhifjkkeeeaoaa
/- THE CELL 'sum', in the pinned program and in every row, IS THE sha256 OF THE DUMP (.gsa) THAT YtjhifjkkeeeaoaaProg.lean LOADS. Nothing in Lean hashes anything: it is a label: what it is worth is what the hold of that sum in a sandbox is worth. -/
noncomputable def Try.pinned : Pinned := { name := "ytjhifjkkeeeaoaa", sum := "06efd76a83563f44e75225e5ee4bcef81bee86c9996acc46ab6ee3a0917e90c3", checked := Try.checked }
namespace Rows
def none {H : Type} : Left H := { results := [], args := [] }

/-- 'hornbeamlaw17.WriteKinds': WHATEVER THE INPUT: true; the input reads as it did. -/
def writeKindsSpec : ChangeSpec := { name := "writeKinds", fn := fun _ => fun
  | [d1, d2] => { results := [.lit (.bool true)], args := [d1, d2] }
  | _ => none }
def writeKindsRow : OpenClaim := { program := "ytjhifjkkeeeaoaa", sum := "06efd76a83563f44e75225e5ee4bcef81bee86c9996acc46ab6ee3a0917e90c3", func := "hornbeam/hornbeamlaw17.WriteKinds", spec := "writeKinds", apart := false }
def WriteKindsSaid : Prop := writeKindsRow.holds Try.pinned (OpenSpec.ofChange writeKindsSpec)

/-- ITS FALSE NEIGHBOUR: 'it returns false'. Refute it at one input. -/
def writeKindsWrong : ChangeSpec := { name := "writeKinds", fn := fun _ => fun
  | [d1, d2] => { results := [.lit (.bool false)], args := [d1, d2] }
  | _ => none }
def WriteKindsWrongFalsely : Prop := writeKindsRow.holds Try.pinned (OpenSpec.ofChange writeKindsWrong)

/-- 'hornbeamlaw17.WriteEscapes': WHATEVER THE INPUT: true; the input reads as it did. -/
def writeEscapesSpec : ChangeSpec := { name := "writeEscapes", fn := fun _ => fun
  | [d1, d2] => { results := [.lit (.bool true)], args := [d1, d2] }
  | _ => none }
def writeEscapesRow : OpenClaim := { program := "ytjhifjkkeeeaoaa", sum := "06efd76a83563f44e75225e5ee4bcef81bee86c9996acc46ab6ee3a0917e90c3", func := "hornbeam/hornbeamlaw17.WriteEscapes", spec := "writeEscapes", inPlace := ["internal/abi.NoEscape"], unfollowed := true, recurses := true, apart := false }
def WriteEscapesSaid : Prop := writeEscapesRow.holds Try.pinned (OpenSpec.ofChange writeEscapesSpec)

/-- ITS FALSE NEIGHBOUR: 'it returns false'. Refute it at one input. -/
def writeEscapesWrong : ChangeSpec := { name := "writeEscapes", fn := fun _ => fun
  | [d1, d2] => { results := [.lit (.bool false)], args := [d1, d2] }
  | _ => none }
def WriteEscapesWrongFalsely : Prop := writeEscapesRow.holds Try.pinned (OpenSpec.ofChange writeEscapesWrong)

/-- 'hornbeamlaw17.WriteSafe': WHATEVER THE INPUT: true; the input reads as it did. -/
def writeSafeSpec : ChangeSpec := { name := "writeSafe", fn := fun _ => fun
  | [d] => { results := [.lit (.bool true)], args := [d] }
  | _ => none }
def writeSafeRow : OpenClaim := { program := "ytjhifjkkeeeaoaa", sum := "06efd76a83563f44e75225e5ee4bcef81bee86c9996acc46ab6ee3a0917e90c3", func := "hornbeam/hornbeamlaw17.WriteSafe", spec := "writeSafe", inPlace := ["internal/abi.NoEscape"], unfollowed := true, recurses := true, apart := false }
def WriteSafeSaid : Prop := writeSafeRow.holds Try.pinned (OpenSpec.ofChange writeSafeSpec)

/-- ITS FALSE NEIGHBOUR: 'it returns false'. Refute it at one input. -/
def writeSafeWrong : ChangeSpec := { name := "writeSafe", fn := fun _ => fun
  | [d] => { results := [.lit (.bool false)], args := [d] }
  | _ => none }
def WriteSafeWrongFalsely : Prop := writeSafeRow.holds Try.pinned (OpenSpec.ofChange writeSafeWrong)

/-- 'hornbeamlaw17.WriteZero': WHATEVER THE INPUT: true; the input reads as it did. -/
def writeZeroSpec : ChangeSpec := { name := "writeZero", fn := fun _ => fun
  | [d] => { results := [.lit (.bool true)], args := [d] }
  | _ => none }
def writeZeroRow : OpenClaim := { program := "ytjhifjkkeeeaoaa", sum := "06efd76a83563f44e75225e5ee4bcef81bee86c9996acc46ab6ee3a0917e90c3", func := "hornbeam/hornbeamlaw17.WriteZero", spec := "writeZero", inPlace := ["internal/abi.NoEscape"], unfollowed := true, recurses := true, apart := false }
def WriteZeroSaid : Prop := writeZeroRow.holds Try.pinned (OpenSpec.ofChange writeZeroSpec)

/-- ITS FALSE NEIGHBOUR: 'it returns false'. Refute it at one input. -/
def writeZeroWrong : ChangeSpec := { name := "writeZero", fn := fun _ => fun
  | [d] => { results := [.lit (.bool false)], args := [d] }
  | _ => none }
def WriteZeroWrongFalsely : Prop := writeZeroRow.holds Try.pinned (OpenSpec.ofChange writeZeroWrong)

/-- 'hornbeamlaw17.WriteNested': WHATEVER THE INPUT: true; the input reads as it did. -/
def writeNestedSpec : ChangeSpec := { name := "writeNested", fn := fun _ => fun
  | [d1, d2] => { results := [.lit (.bool true)], args := [d1, d2] }
  | _ => none }
def writeNestedRow : OpenClaim := { program := "ytjhifjkkeeeaoaa", sum := "06efd76a83563f44e75225e5ee4bcef81bee86c9996acc46ab6ee3a0917e90c3", func := "hornbeam/hornbeamlaw17.WriteNested", spec := "writeNested", inPlace := ["internal/abi.NoEscape"], unfollowed := true, recurses := true, apart := false }
def WriteNestedSaid : Prop := writeNestedRow.holds Try.pinned (OpenSpec.ofChange writeNestedSpec)

/-- ITS FALSE NEIGHBOUR: 'it returns false'. Refute it at one input. -/
def writeNestedWrong : ChangeSpec := { name := "writeNested", fn := fun _ => fun
  | [d1, d2] => { results := [.lit (.bool false)], args := [d1, d2] }
  | _ => none }
def WriteNestedWrongFalsely : Prop := writeNestedRow.holds Try.pinned (OpenSpec.ofChange writeNestedWrong)

/-- 'hornbeamlaw17.WriteInners': WHATEVER THE INPUT: true; the input reads as it did. -/
def writeInnersSpec : ChangeSpec := { name := "writeInners", fn := fun _ => fun
  | [d1, d2, d3] => { results := [.lit (.bool true)], args := [d1, d2, d3] }
  | _ => none }
def writeInnersRow : OpenClaim := { program := "ytjhifjkkeeeaoaa", sum := "06efd76a83563f44e75225e5ee4bcef81bee86c9996acc46ab6ee3a0917e90c3", func := "hornbeam/hornbeamlaw17.WriteInners", spec := "writeInners", inPlace := ["internal/abi.NoEscape"], unfollowed := true, recurses := true, apart := false }
def WriteInnersSaid : Prop := writeInnersRow.holds Try.pinned (OpenSpec.ofChange writeInnersSpec)

/-- ITS FALSE NEIGHBOUR: 'it returns false'. Refute it at one input. -/
def writeInnersWrong : ChangeSpec := { name := "writeInners", fn := fun _ => fun
  | [d1, d2, d3] => { results := [.lit (.bool false)], args := [d1, d2, d3] }
  | _ => none }
def WriteInnersWrongFalsely : Prop := writeInnersRow.holds Try.pinned (OpenSpec.ofChange writeInnersWrong)

/- THE SECOND FORM. 'bulk': how many values and letters a reading holds, each counted each time it is reached (what is shared counts as often as it is met; a slice's spare places count too). A statement '..UptoSaid' is the law's where the arguments, and the package variables that the reading takes, are together of bulk at most 1048576: NARROWER than '..Said'. Prove '..Said' where nothing that the law and all that it calls make is longer than what came in: it says more and counts as full. Else prove '..UptoSaid'. A law counts once. -/
mutual
def uptoBulk {H : Type} : DataW H → Nat
  | .lit (.string bytes) => bytes.length + 1
  | .lit _ => 1
  | .nil => 1
  | .ptr d => uptoBulk d + 1
  | .slice elems spare => uptoBulkAll elems + uptoBulkAll spare + 1
  | .agg parts => uptoBulkAll parts + 1
  | .iface _ d => uptoBulk d + 1
  | .map entries => uptoBulkEntries entries + 1
  | .held _ => 1
def uptoBulkAll {H : Type} : List (DataW H) → Nat
  | [] => 0
  | d :: r => uptoBulk d + uptoBulkAll r
def uptoBulkEntries {H : Type} : List (Lit × DataW H) → Nat
  | [] => 0
  | x :: r => uptoBulkEntry x + uptoBulkEntries r
def uptoBulkEntry {H : Type} : Lit × DataW H → Nat
  | (.string bytes, d) => bytes.length + uptoBulk d + 1
  | (_, d) => uptoBulk d + 1
 end
def uptoSmall : (H : Type) → List (DataW H) → Bool := fun _ ds => decide (uptoBulkAll ds ≤ 1048576)
def OpenSpec.upto (s : _root_.Go.ChangeSpec) : _root_.Go.OpenSpec := { _root_.Go.OpenSpec.ofChange s with cond := some uptoSmall }

/-- 'hornbeamlaw17.WriteKinds', WHERE WHAT IT READS IS OF BULK AT MOST 1048576: true; the input reads as it did. -/
def writeKindsUptoRow : OpenClaim := { program := "ytjhifjkkeeeaoaa", sum := "06efd76a83563f44e75225e5ee4bcef81bee86c9996acc46ab6ee3a0917e90c3", func := "hornbeam/hornbeamlaw17.WriteKinds", spec := "writeKinds", apart := false, narrowed := true }
def WriteKindsUptoSaid : Prop := writeKindsUptoRow.holds Try.pinned (OpenSpec.upto writeKindsSpec)

/-- 'hornbeamlaw17.WriteEscapes', WHERE WHAT IT READS IS OF BULK AT MOST 1048576: true; the input reads as it did. -/
def writeEscapesUptoRow : OpenClaim := { program := "ytjhifjkkeeeaoaa", sum := "06efd76a83563f44e75225e5ee4bcef81bee86c9996acc46ab6ee3a0917e90c3", func := "hornbeam/hornbeamlaw17.WriteEscapes", spec := "writeEscapes", inPlace := ["internal/abi.NoEscape"], unfollowed := true, recurses := true, apart := false, narrowed := true }
def WriteEscapesUptoSaid : Prop := writeEscapesUptoRow.holds Try.pinned (OpenSpec.upto writeEscapesSpec)

/-- 'hornbeamlaw17.WriteSafe', WHERE WHAT IT READS IS OF BULK AT MOST 1048576: true; the input reads as it did. -/
def writeSafeUptoRow : OpenClaim := { program := "ytjhifjkkeeeaoaa", sum := "06efd76a83563f44e75225e5ee4bcef81bee86c9996acc46ab6ee3a0917e90c3", func := "hornbeam/hornbeamlaw17.WriteSafe", spec := "writeSafe", inPlace := ["internal/abi.NoEscape"], unfollowed := true, recurses := true, apart := false, narrowed := true }
def WriteSafeUptoSaid : Prop := writeSafeUptoRow.holds Try.pinned (OpenSpec.upto writeSafeSpec)

/-- 'hornbeamlaw17.WriteZero', WHERE WHAT IT READS IS OF BULK AT MOST 1048576: true; the input reads as it did. -/
def writeZeroUptoRow : OpenClaim := { program := "ytjhifjkkeeeaoaa", sum := "06efd76a83563f44e75225e5ee4bcef81bee86c9996acc46ab6ee3a0917e90c3", func := "hornbeam/hornbeamlaw17.WriteZero", spec := "writeZero", inPlace := ["internal/abi.NoEscape"], unfollowed := true, recurses := true, apart := false, narrowed := true }
def WriteZeroUptoSaid : Prop := writeZeroUptoRow.holds Try.pinned (OpenSpec.upto writeZeroSpec)

/-- 'hornbeamlaw17.WriteNested', WHERE WHAT IT READS IS OF BULK AT MOST 1048576: true; the input reads as it did. -/
def writeNestedUptoRow : OpenClaim := { program := "ytjhifjkkeeeaoaa", sum := "06efd76a83563f44e75225e5ee4bcef81bee86c9996acc46ab6ee3a0917e90c3", func := "hornbeam/hornbeamlaw17.WriteNested", spec := "writeNested", inPlace := ["internal/abi.NoEscape"], unfollowed := true, recurses := true, apart := false, narrowed := true }
def WriteNestedUptoSaid : Prop := writeNestedUptoRow.holds Try.pinned (OpenSpec.upto writeNestedSpec)

/-- 'hornbeamlaw17.WriteInners', WHERE WHAT IT READS IS OF BULK AT MOST 1048576: true; the input reads as it did. -/
def writeInnersUptoRow : OpenClaim := { program := "ytjhifjkkeeeaoaa", sum := "06efd76a83563f44e75225e5ee4bcef81bee86c9996acc46ab6ee3a0917e90c3", func := "hornbeam/hornbeamlaw17.WriteInners", spec := "writeInners", inPlace := ["internal/abi.NoEscape"], unfollowed := true, recurses := true, apart := false, narrowed := true }
def WriteInnersUptoSaid : Prop := writeInnersUptoRow.holds Try.pinned (OpenSpec.upto writeInnersSpec)

end Rows
end Go.Proofs.Ytjhifjkkeeeaoaa
