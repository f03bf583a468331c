/-
  No cell of these rows narrows 'for every input' (looked for: loops, veiled, ifaces, maps, wideKeys, modest, calm, conditions, laid).
  DERIVED. THE GIVEN ROWS OF THIS SEAT. 7 by the template 'for every input the law returns true; each argument reads behind the call as it read before'; 0 by the template 'total and deterministic' (their statements: YtlempcfhgailcaaRTotals.lean).
  GIVEN WITH THE SEED: the statements are not yours to turn. If you find one false, say at which input.
  Laid BY PROGRAM, IN A SANDBOX (cutbox-rows.mjs): the forced cells as the released guide's own fill.sh prints them over the translation e027c6f813c80070… (all of the seat's roots in one cut). By AI agents, Wed Nov 11 2026. No macro, syntax, notation, axiom, sorry.
-/
import Derived.Test.YtlempcfhgailcaaRChecked
import GoSem.Claim
import GoSem.ClaimJoined
import GoSem.ClaimMapViews
import Derived.JoinedTies
import Derived.KernelRfl
namespace Go.Proofs.YtlempcfhgailcaaR
/- THE CELL 'sum', in the pinned program and in every row, IS THE sha256 OF THE DUMP (.gsa) THAT YtlempcfhgailcaaRProg.lean LOADS. Nothing in Lean hashes anything: it is a label: what it is worth is what the hold of that sum in a sandbox is worth. -/
noncomputable def Try.pinned : Pinned := { name := "ytlempcfhgailcaar", sum := "e027c6f813c80070bdf754467c9fc30ce459ed401a3587f88b93164824bb50d2", checked := Try.checked }
namespace Rows
def none {H : Type} : Left H := { results := [], args := [] }

/-- 'hornbeamlaw09.LexerZero': WHATEVER THE INPUT: true; the input reads as it did. -/
def lexerZeroSpec : ChangeSpec := { name := "lexerZero", fn := fun _ => fun
  | [d1, d2] => { results := [.lit (.bool true)], args := [d1, d2] }
  | _ => none }
def lexerZeroRow : OpenClaim := { program := "ytlempcfhgailcaar", sum := "e027c6f813c80070bdf754467c9fc30ce459ed401a3587f88b93164824bb50d2", func := "hornbeam/hornbeamlaw09.LexerZero", spec := "lexerZero", unfollowed := true, recurses := true, apart := false }
def LexerZeroSaid : Prop := lexerZeroRow.holds Try.pinned (OpenSpec.ofChange lexerZeroSpec)

/-- ITS FALSE NEIGHBOUR: 'it returns false'. Refute it at one input. -/
def lexerZeroWrong : ChangeSpec := { name := "lexerZero", fn := fun _ => fun
  | [d1, d2] => { results := [.lit (.bool false)], args := [d1, d2] }
  | _ => none }
def LexerZeroWrongFalsely : Prop := lexerZeroRow.holds Try.pinned (OpenSpec.ofChange lexerZeroWrong)

/-- 'hornbeamlaw17.WriteZero': WHATEVER THE INPUT: true; the input reads as it did. -/
def writeZeroSpec : ChangeSpec := { name := "writeZero", fn := fun _ => fun
  | [d] => { results := [.lit (.bool true)], args := [d] }
  | _ => none }
def writeZeroRow : OpenClaim := { program := "ytlempcfhgailcaar", sum := "e027c6f813c80070bdf754467c9fc30ce459ed401a3587f88b93164824bb50d2", func := "hornbeam/hornbeamlaw17.WriteZero", spec := "writeZero", inPlace := ["internal/abi.NoEscape"], unfollowed := true, recurses := true, apart := false }
def WriteZeroSaid : Prop := writeZeroRow.holds Try.pinned (OpenSpec.ofChange writeZeroSpec)

/-- ITS FALSE NEIGHBOUR: 'it returns false'. Refute it at one input. -/
def writeZeroWrong : ChangeSpec := { name := "writeZero", fn := fun _ => fun
  | [d] => { results := [.lit (.bool false)], args := [d] }
  | _ => none }
def WriteZeroWrongFalsely : Prop := writeZeroRow.holds Try.pinned (OpenSpec.ofChange writeZeroWrong)

/-- 'hornbeamlaw13.ActiveZero': WHATEVER THE INPUT: true; the input reads as it did. -/
def activeZeroSpec : ChangeSpec := { name := "activeZero", fn := fun _ => fun
  | [d1, d2] => { results := [.lit (.bool true)], args := [d1, d2] }
  | _ => none }
def activeZeroRow : OpenClaim := { program := "ytlempcfhgailcaar", sum := "e027c6f813c80070bdf754467c9fc30ce459ed401a3587f88b93164824bb50d2", func := "hornbeam/hornbeamlaw13.ActiveZero", spec := "activeZero", unfollowed := true, recurses := true, apart := false }
def ActiveZeroSaid : Prop := activeZeroRow.holds Try.pinned (OpenSpec.ofChange activeZeroSpec)

/-- ITS FALSE NEIGHBOUR: 'it returns false'. Refute it at one input. -/
def activeZeroWrong : ChangeSpec := { name := "activeZero", fn := fun _ => fun
  | [d1, d2] => { results := [.lit (.bool false)], args := [d1, d2] }
  | _ => none }
def ActiveZeroWrongFalsely : Prop := activeZeroRow.holds Try.pinned (OpenSpec.ofChange activeZeroWrong)

/-- 'hornbeamlaw01.NodeZero': WHATEVER THE INPUT: true; the input reads as it did. -/
def nodeZeroSpec : ChangeSpec := { name := "nodeZero", fn := fun _ => fun
  | [d1, d2] => { results := [.lit (.bool true)], args := [d1, d2] }
  | _ => none }
def nodeZeroRow : OpenClaim := { program := "ytlempcfhgailcaar", sum := "e027c6f813c80070bdf754467c9fc30ce459ed401a3587f88b93164824bb50d2", func := "hornbeam/hornbeamlaw01.NodeZero", spec := "nodeZero", unfollowed := true, recurses := true, apart := false }
def NodeZeroSaid : Prop := nodeZeroRow.holds Try.pinned (OpenSpec.ofChange nodeZeroSpec)

/-- ITS FALSE NEIGHBOUR: 'it returns false'. Refute it at one input. -/
def nodeZeroWrong : ChangeSpec := { name := "nodeZero", fn := fun _ => fun
  | [d1, d2] => { results := [.lit (.bool false)], args := [d1, d2] }
  | _ => none }
def NodeZeroWrongFalsely : Prop := nodeZeroRow.holds Try.pinned (OpenSpec.ofChange nodeZeroWrong)

/-- 'hornbeamlaw12.StackZero': WHATEVER THE INPUT: true; the input reads as it did. -/
def stackZeroSpec : ChangeSpec := { name := "stackZero", fn := fun _ => fun
  | [d1, d2] => { results := [.lit (.bool true)], args := [d1, d2] }
  | _ => none }
def stackZeroRow : OpenClaim := { program := "ytlempcfhgailcaar", sum := "e027c6f813c80070bdf754467c9fc30ce459ed401a3587f88b93164824bb50d2", func := "hornbeam/hornbeamlaw12.StackZero", spec := "stackZero", unfollowed := true, recurses := true, apart := false }
def StackZeroSaid : Prop := stackZeroRow.holds Try.pinned (OpenSpec.ofChange stackZeroSpec)

/-- ITS FALSE NEIGHBOUR: 'it returns false'. Refute it at one input. -/
def stackZeroWrong : ChangeSpec := { name := "stackZero", fn := fun _ => fun
  | [d1, d2] => { results := [.lit (.bool false)], args := [d1, d2] }
  | _ => none }
def StackZeroWrongFalsely : Prop := stackZeroRow.holds Try.pinned (OpenSpec.ofChange stackZeroWrong)

/-- 'hornbeamlaw14.PlaceZero': WHATEVER THE INPUT: true; the input reads as it did. -/
def placeZeroSpec : ChangeSpec := { name := "placeZero", fn := fun _ => fun
  | [d] => { results := [.lit (.bool true)], args := [d] }
  | _ => none }
def placeZeroRow : OpenClaim := { program := "ytlempcfhgailcaar", sum := "e027c6f813c80070bdf754467c9fc30ce459ed401a3587f88b93164824bb50d2", func := "hornbeam/hornbeamlaw14.PlaceZero", spec := "placeZero", apart := false }
def PlaceZeroSaid : Prop := placeZeroRow.holds Try.pinned (OpenSpec.ofChange placeZeroSpec)

/-- ITS FALSE NEIGHBOUR: 'it returns false'. Refute it at one input. -/
def placeZeroWrong : ChangeSpec := { name := "placeZero", fn := fun _ => fun
  | [d] => { results := [.lit (.bool false)], args := [d] }
  | _ => none }
def PlaceZeroWrongFalsely : Prop := placeZeroRow.holds Try.pinned (OpenSpec.ofChange placeZeroWrong)

/-- 'hornbeamlaw03.ShowZero': WHATEVER THE INPUT: true; the input reads as it did. -/
def showZeroSpec : ChangeSpec := { name := "showZero", fn := fun _ => fun
  | [d] => { results := [.lit (.bool true)], args := [d] }
  | _ => none }
def showZeroRow : OpenClaim := { program := "ytlempcfhgailcaar", sum := "e027c6f813c80070bdf754467c9fc30ce459ed401a3587f88b93164824bb50d2", func := "hornbeam/hornbeamlaw03.ShowZero", spec := "showZero", inPlace := ["internal/abi.NoEscape", "internal/bytealg.MakeNoZero", "internal/bytealg.abigen_runtime_cmpstring"], unfollowed := true, recurses := true, apart := false }
def ShowZeroSaid : Prop := showZeroRow.holds Try.pinned (OpenSpec.ofChange showZeroSpec)

/-- ITS FALSE NEIGHBOUR: 'it returns false'. Refute it at one input. -/
def showZeroWrong : ChangeSpec := { name := "showZero", fn := fun _ => fun
  | [d] => { results := [.lit (.bool false)], args := [d] }
  | _ => none }
def ShowZeroWrongFalsely : Prop := showZeroRow.holds Try.pinned (OpenSpec.ofChange showZeroWrong)

/- THE SECOND FORM. 'bulk': how many values and letters a reading holds, each counted each time it is reached (what is shared counts as often as it is met; a slice's spare places count too). A statement '..UptoSaid' is the law's where the arguments, and the package variables that the reading takes, are together of bulk at most 1048576: NARROWER than '..Said'. Prove '..Said' where nothing that the law and all that it calls make is longer than what came in: it says more and counts as full. Else prove '..UptoSaid'. A law counts once. -/
mutual
def uptoBulk {H : Type} : DataW H → Nat
  | .lit (.string bytes) => bytes.length + 1
  | .lit _ => 1
  | .nil => 1
  | .ptr d => uptoBulk d + 1
  | .slice elems spare => uptoBulkAll elems + uptoBulkAll spare + 1
  | .agg parts => uptoBulkAll parts + 1
  | .iface _ d => uptoBulk d + 1
  | .map entries => uptoBulkEntries entries + 1
  | .held _ => 1
def uptoBulkAll {H : Type} : List (DataW H) → Nat
  | [] => 0
  | d :: r => uptoBulk d + uptoBulkAll r
def uptoBulkEntries {H : Type} : List (Lit × DataW H) → Nat
  | [] => 0
  | x :: r => uptoBulkEntry x + uptoBulkEntries r
def uptoBulkEntry {H : Type} : Lit × DataW H → Nat
  | (.string bytes, d) => bytes.length + uptoBulk d + 1
  | (_, d) => uptoBulk d + 1
 end
def uptoSmall : (H : Type) → List (DataW H) → Bool := fun _ ds => decide (uptoBulkAll ds ≤ 1048576)
def OpenSpec.upto (s : _root_.Go.ChangeSpec) : _root_.Go.OpenSpec := { _root_.Go.OpenSpec.ofChange s with cond := some uptoSmall }

/-- 'hornbeamlaw09.LexerZero', WHERE WHAT IT READS IS OF BULK AT MOST 1048576: true; the input reads as it did. -/
def lexerZeroUptoRow : OpenClaim := { program := "ytlempcfhgailcaar", sum := "e027c6f813c80070bdf754467c9fc30ce459ed401a3587f88b93164824bb50d2", func := "hornbeam/hornbeamlaw09.LexerZero", spec := "lexerZero", unfollowed := true, recurses := true, apart := false, narrowed := true }
def LexerZeroUptoSaid : Prop := lexerZeroUptoRow.holds Try.pinned (OpenSpec.upto lexerZeroSpec)

/-- 'hornbeamlaw17.WriteZero', WHERE WHAT IT READS IS OF BULK AT MOST 1048576: true; the input reads as it did. -/
def writeZeroUptoRow : OpenClaim := { program := "ytlempcfhgailcaar", sum := "e027c6f813c80070bdf754467c9fc30ce459ed401a3587f88b93164824bb50d2", func := "hornbeam/hornbeamlaw17.WriteZero", spec := "writeZero", inPlace := ["internal/abi.NoEscape"], unfollowed := true, recurses := true, apart := false, narrowed := true }
def WriteZeroUptoSaid : Prop := writeZeroUptoRow.holds Try.pinned (OpenSpec.upto writeZeroSpec)

/-- 'hornbeamlaw13.ActiveZero', WHERE WHAT IT READS IS OF BULK AT MOST 1048576: true; the input reads as it did. -/
def activeZeroUptoRow : OpenClaim := { program := "ytlempcfhgailcaar", sum := "e027c6f813c80070bdf754467c9fc30ce459ed401a3587f88b93164824bb50d2", func := "hornbeam/hornbeamlaw13.ActiveZero", spec := "activeZero", unfollowed := true, recurses := true, apart := false, narrowed := true }
def ActiveZeroUptoSaid : Prop := activeZeroUptoRow.holds Try.pinned (OpenSpec.upto activeZeroSpec)

/-- 'hornbeamlaw01.NodeZero', WHERE WHAT IT READS IS OF BULK AT MOST 1048576: true; the input reads as it did. -/
def nodeZeroUptoRow : OpenClaim := { program := "ytlempcfhgailcaar", sum := "e027c6f813c80070bdf754467c9fc30ce459ed401a3587f88b93164824bb50d2", func := "hornbeam/hornbeamlaw01.NodeZero", spec := "nodeZero", unfollowed := true, recurses := true, apart := false, narrowed := true }
def NodeZeroUptoSaid : Prop := nodeZeroUptoRow.holds Try.pinned (OpenSpec.upto nodeZeroSpec)

/-- 'hornbeamlaw12.StackZero', WHERE WHAT IT READS IS OF BULK AT MOST 1048576: true; the input reads as it did. -/
def stackZeroUptoRow : OpenClaim := { program := "ytlempcfhgailcaar", sum := "e027c6f813c80070bdf754467c9fc30ce459ed401a3587f88b93164824bb50d2", func := "hornbeam/hornbeamlaw12.StackZero", spec := "stackZero", unfollowed := true, recurses := true, apart := false, narrowed := true }
def StackZeroUptoSaid : Prop := stackZeroUptoRow.holds Try.pinned (OpenSpec.upto stackZeroSpec)

/-- 'hornbeamlaw14.PlaceZero', WHERE WHAT IT READS IS OF BULK AT MOST 1048576: true; the input reads as it did. -/
def placeZeroUptoRow : OpenClaim := { program := "ytlempcfhgailcaar", sum := "e027c6f813c80070bdf754467c9fc30ce459ed401a3587f88b93164824bb50d2", func := "hornbeam/hornbeamlaw14.PlaceZero", spec := "placeZero", apart := false, narrowed := true }
def PlaceZeroUptoSaid : Prop := placeZeroUptoRow.holds Try.pinned (OpenSpec.upto placeZeroSpec)

/-- 'hornbeamlaw03.ShowZero', WHERE WHAT IT READS IS OF BULK AT MOST 1048576: true; the input reads as it did. -/
def showZeroUptoRow : OpenClaim := { program := "ytlempcfhgailcaar", sum := "e027c6f813c80070bdf754467c9fc30ce459ed401a3587f88b93164824bb50d2", func := "hornbeam/hornbeamlaw03.ShowZero", spec := "showZero", inPlace := ["internal/abi.NoEscape", "internal/bytealg.MakeNoZero", "internal/bytealg.abigen_runtime_cmpstring"], unfollowed := true, recurses := true, apart := false, narrowed := true }
def ShowZeroUptoSaid : Prop := showZeroUptoRow.holds Try.pinned (OpenSpec.upto showZeroSpec)

end Rows
end Go.Proofs.YtlempcfhgailcaaR
