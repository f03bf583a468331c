/-
  No cell of these rows narrows 'for every input' (looked for: loops, veiled, ifaces, maps, wideKeys, modest, calm, conditions, laid).
  DERIVED. THE GIVEN ROWS OF THIS SEAT. 6 by the template 'for every input the law returns true; each argument reads behind the call as it read before'; 0 by the template 'total and deterministic' (their statements: YtfpppopcdhihgaaTotals.lean).
  GIVEN WITH THE SEED: the statements are not yours to turn. If you find one false, say at which input.
  Laid BY PROGRAM, IN A SANDBOX (cutbox-rows.mjs): the forced cells as the released guide's own fill.sh prints them over the translation 33dad8ff6f7602de… (all of the seat's roots in one cut). By AI agents, Wed Nov 11 2026. No macro, syntax, notation, axiom, sorry.
-/
import Derived.Test.YtfpppopcdhihgaaChecked
import GoSem.Claim
import GoSem.ClaimJoined
import GoSem.ClaimMapViews
import Derived.JoinedTies
import Derived.KernelRfl
namespace Go.Proofs.Ytfpppopcdhihgaa
/- THE CELL 'sum', in the pinned program and in every row, IS THE sha256 OF THE DUMP (.gsa) THAT YtfpppopcdhihgaaProg.lean LOADS. Nothing in Lean hashes anything: it is a label: what it is worth is what the hold of that sum in a sandbox is worth. -/
noncomputable def Try.pinned : Pinned := { name := "ytfpppopcdhihgaa", sum := "33dad8ff6f7602dee217676aec9b4e841e40c06bbb68b8903046a0c7dc645ff0", checked := Try.checked }
namespace Rows
def none {H : Type} : Left H := { results := [], args := [] }

/-- 'hornbeamlaw07.InputChunks': WHATEVER THE INPUT: true; the input reads as it did. -/
def inputChunksSpec : ChangeSpec := { name := "inputChunks", fn := fun _ => fun
  | [d1, d2] => { results := [.lit (.bool true)], args := [d1, d2] }
  | _ => none }
def inputChunksRow : OpenClaim := { program := "ytfpppopcdhihgaa", sum := "33dad8ff6f7602dee217676aec9b4e841e40c06bbb68b8903046a0c7dc645ff0", func := "hornbeam/hornbeamlaw07.InputChunks", spec := "inputChunks", unfollowed := true, recurses := true, apart := false }
def InputChunksSaid : Prop := inputChunksRow.holds Try.pinned (OpenSpec.ofChange inputChunksSpec)

/-- ITS FALSE NEIGHBOUR: 'it returns false'. Refute it at one input. -/
def inputChunksWrong : ChangeSpec := { name := "inputChunks", fn := fun _ => fun
  | [d1, d2] => { results := [.lit (.bool false)], args := [d1, d2] }
  | _ => none }
def InputChunksWrongFalsely : Prop := inputChunksRow.holds Try.pinned (OpenSpec.ofChange inputChunksWrong)

/-- 'hornbeamlaw07.InputWrites': WHATEVER THE INPUT: true; the input reads as it did. -/
def inputWritesSpec : ChangeSpec := { name := "inputWrites", fn := fun _ => fun
  | [d1, d2] => { results := [.lit (.bool true)], args := [d1, d2] }
  | _ => none }
def inputWritesRow : OpenClaim := { program := "ytfpppopcdhihgaa", sum := "33dad8ff6f7602dee217676aec9b4e841e40c06bbb68b8903046a0c7dc645ff0", func := "hornbeam/hornbeamlaw07.InputWrites", spec := "inputWrites", unfollowed := true, recurses := true, apart := false }
def InputWritesSaid : Prop := inputWritesRow.holds Try.pinned (OpenSpec.ofChange inputWritesSpec)

/-- ITS FALSE NEIGHBOUR: 'it returns false'. Refute it at one input. -/
def inputWritesWrong : ChangeSpec := { name := "inputWrites", fn := fun _ => fun
  | [d1, d2] => { results := [.lit (.bool false)], args := [d1, d2] }
  | _ => none }
def InputWritesWrongFalsely : Prop := inputWritesRow.holds Try.pinned (OpenSpec.ofChange inputWritesWrong)

/-- 'hornbeamlaw07.InputNest': WHATEVER THE INPUT: true; the input reads as it did. -/
def inputNestSpec : ChangeSpec := { name := "inputNest", fn := fun _ => fun
  | [d] => { results := [.lit (.bool true)], args := [d] }
  | _ => none }
def inputNestRow : OpenClaim := { program := "ytfpppopcdhihgaa", sum := "33dad8ff6f7602dee217676aec9b4e841e40c06bbb68b8903046a0c7dc645ff0", func := "hornbeam/hornbeamlaw07.InputNest", spec := "inputNest", unfollowed := true, recurses := true, apart := false }
def InputNestSaid : Prop := inputNestRow.holds Try.pinned (OpenSpec.ofChange inputNestSpec)

/-- ITS FALSE NEIGHBOUR: 'it returns false'. Refute it at one input. -/
def inputNestWrong : ChangeSpec := { name := "inputNest", fn := fun _ => fun
  | [d] => { results := [.lit (.bool false)], args := [d] }
  | _ => none }
def InputNestWrongFalsely : Prop := inputNestRow.holds Try.pinned (OpenSpec.ofChange inputNestWrong)

/-- 'hornbeamlaw07.InputDrops': WHATEVER THE INPUT: true; the input reads as it did. -/
def inputDropsSpec : ChangeSpec := { name := "inputDrops", fn := fun _ => fun
  | [d1, d2] => { results := [.lit (.bool true)], args := [d1, d2] }
  | _ => none }
def inputDropsRow : OpenClaim := { program := "ytfpppopcdhihgaa", sum := "33dad8ff6f7602dee217676aec9b4e841e40c06bbb68b8903046a0c7dc645ff0", func := "hornbeam/hornbeamlaw07.InputDrops", spec := "inputDrops", unfollowed := true, recurses := true, apart := false }
def InputDropsSaid : Prop := inputDropsRow.holds Try.pinned (OpenSpec.ofChange inputDropsSpec)

/-- ITS FALSE NEIGHBOUR: 'it returns false'. Refute it at one input. -/
def inputDropsWrong : ChangeSpec := { name := "inputDrops", fn := fun _ => fun
  | [d1, d2] => { results := [.lit (.bool false)], args := [d1, d2] }
  | _ => none }
def InputDropsWrongFalsely : Prop := inputDropsRow.holds Try.pinned (OpenSpec.ofChange inputDropsWrong)

/-- 'hornbeamlaw07.InputZero': WHATEVER THE INPUT: true; the input reads as it did. -/
def inputZeroSpec : ChangeSpec := { name := "inputZero", fn := fun _ => fun
  | [d] => { results := [.lit (.bool true)], args := [d] }
  | _ => none }
def inputZeroRow : OpenClaim := { program := "ytfpppopcdhihgaa", sum := "33dad8ff6f7602dee217676aec9b4e841e40c06bbb68b8903046a0c7dc645ff0", func := "hornbeam/hornbeamlaw07.InputZero", spec := "inputZero", unfollowed := true, recurses := true, apart := false }
def InputZeroSaid : Prop := inputZeroRow.holds Try.pinned (OpenSpec.ofChange inputZeroSpec)

/-- ITS FALSE NEIGHBOUR: 'it returns false'. Refute it at one input. -/
def inputZeroWrong : ChangeSpec := { name := "inputZero", fn := fun _ => fun
  | [d] => { results := [.lit (.bool false)], args := [d] }
  | _ => none }
def InputZeroWrongFalsely : Prop := inputZeroRow.holds Try.pinned (OpenSpec.ofChange inputZeroWrong)

/-- 'hornbeamlaw07.InputPlays': WHATEVER THE INPUT: true; the input reads as it did. -/
def inputPlaysSpec : ChangeSpec := { name := "inputPlays", fn := fun _ => fun
  | [d] => { results := [.lit (.bool true)], args := [d] }
  | _ => none }
def inputPlaysRow : OpenClaim := { program := "ytfpppopcdhihgaa", sum := "33dad8ff6f7602dee217676aec9b4e841e40c06bbb68b8903046a0c7dc645ff0", func := "hornbeam/hornbeamlaw07.InputPlays", spec := "inputPlays", unfollowed := true, recurses := true, apart := false }
def InputPlaysSaid : Prop := inputPlaysRow.holds Try.pinned (OpenSpec.ofChange inputPlaysSpec)

/-- ITS FALSE NEIGHBOUR: 'it returns false'. Refute it at one input. -/
def inputPlaysWrong : ChangeSpec := { name := "inputPlays", fn := fun _ => fun
  | [d] => { results := [.lit (.bool false)], args := [d] }
  | _ => none }
def InputPlaysWrongFalsely : Prop := inputPlaysRow.holds Try.pinned (OpenSpec.ofChange inputPlaysWrong)

/- THE SECOND FORM. 'bulk': how many values and letters a reading holds, each counted each time it is reached (what is shared counts as often as it is met; a slice's spare places count too). A statement '..UptoSaid' is the law's where the arguments, and the package variables that the reading takes, are together of bulk at most 1048576: NARROWER than '..Said'. Prove '..Said' where nothing that the law and all that it calls make is longer than what came in: it says more and counts as full. Else prove '..UptoSaid'. A law counts once. -/
mutual
def uptoBulk {H : Type} : DataW H → Nat
  | .lit (.string bytes) => bytes.length + 1
  | .lit _ => 1
  | .nil => 1
  | .ptr d => uptoBulk d + 1
  | .slice elems spare => uptoBulkAll elems + uptoBulkAll spare + 1
  | .agg parts => uptoBulkAll parts + 1
  | .iface _ d => uptoBulk d + 1
  | .map entries => uptoBulkEntries entries + 1
  | .held _ => 1
def uptoBulkAll {H : Type} : List (DataW H) → Nat
  | [] => 0
  | d :: r => uptoBulk d + uptoBulkAll r
def uptoBulkEntries {H : Type} : List (Lit × DataW H) → Nat
  | [] => 0
  | x :: r => uptoBulkEntry x + uptoBulkEntries r
def uptoBulkEntry {H : Type} : Lit × DataW H → Nat
  | (.string bytes, d) => bytes.length + uptoBulk d + 1
  | (_, d) => uptoBulk d + 1
 end
def uptoSmall : (H : Type) → List (DataW H) → Bool := fun _ ds => decide (uptoBulkAll ds ≤ 1048576)
def OpenSpec.upto (s : _root_.Go.ChangeSpec) : _root_.Go.OpenSpec := { _root_.Go.OpenSpec.ofChange s with cond := some uptoSmall }

/-- 'hornbeamlaw07.InputChunks', WHERE WHAT IT READS IS OF BULK AT MOST 1048576: true; the input reads as it did. -/
def inputChunksUptoRow : OpenClaim := { program := "ytfpppopcdhihgaa", sum := "33dad8ff6f7602dee217676aec9b4e841e40c06bbb68b8903046a0c7dc645ff0", func := "hornbeam/hornbeamlaw07.InputChunks", spec := "inputChunks", unfollowed := true, recurses := true, apart := false, narrowed := true }
def InputChunksUptoSaid : Prop := inputChunksUptoRow.holds Try.pinned (OpenSpec.upto inputChunksSpec)

/-- 'hornbeamlaw07.InputWrites', WHERE WHAT IT READS IS OF BULK AT MOST 1048576: true; the input reads as it did. -/
def inputWritesUptoRow : OpenClaim := { program := "ytfpppopcdhihgaa", sum := "33dad8ff6f7602dee217676aec9b4e841e40c06bbb68b8903046a0c7dc645ff0", func := "hornbeam/hornbeamlaw07.InputWrites", spec := "inputWrites", unfollowed := true, recurses := true, apart := false, narrowed := true }
def InputWritesUptoSaid : Prop := inputWritesUptoRow.holds Try.pinned (OpenSpec.upto inputWritesSpec)

/-- 'hornbeamlaw07.InputNest', WHERE WHAT IT READS IS OF BULK AT MOST 1048576: true; the input reads as it did. -/
def inputNestUptoRow : OpenClaim := { program := "ytfpppopcdhihgaa", sum := "33dad8ff6f7602dee217676aec9b4e841e40c06bbb68b8903046a0c7dc645ff0", func := "hornbeam/hornbeamlaw07.InputNest", spec := "inputNest", unfollowed := true, recurses := true, apart := false, narrowed := true }
def InputNestUptoSaid : Prop := inputNestUptoRow.holds Try.pinned (OpenSpec.upto inputNestSpec)

/-- 'hornbeamlaw07.InputDrops', WHERE WHAT IT READS IS OF BULK AT MOST 1048576: true; the input reads as it did. -/
def inputDropsUptoRow : OpenClaim := { program := "ytfpppopcdhihgaa", sum := "33dad8ff6f7602dee217676aec9b4e841e40c06bbb68b8903046a0c7dc645ff0", func := "hornbeam/hornbeamlaw07.InputDrops", spec := "inputDrops", unfollowed := true, recurses := true, apart := false, narrowed := true }
def InputDropsUptoSaid : Prop := inputDropsUptoRow.holds Try.pinned (OpenSpec.upto inputDropsSpec)

/-- 'hornbeamlaw07.InputZero', WHERE WHAT IT READS IS OF BULK AT MOST 1048576: true; the input reads as it did. -/
def inputZeroUptoRow : OpenClaim := { program := "ytfpppopcdhihgaa", sum := "33dad8ff6f7602dee217676aec9b4e841e40c06bbb68b8903046a0c7dc645ff0", func := "hornbeam/hornbeamlaw07.InputZero", spec := "inputZero", unfollowed := true, recurses := true, apart := false, narrowed := true }
def InputZeroUptoSaid : Prop := inputZeroUptoRow.holds Try.pinned (OpenSpec.upto inputZeroSpec)

/-- 'hornbeamlaw07.InputPlays', WHERE WHAT IT READS IS OF BULK AT MOST 1048576: true; the input reads as it did. -/
def inputPlaysUptoRow : OpenClaim := { program := "ytfpppopcdhihgaa", sum := "33dad8ff6f7602dee217676aec9b4e841e40c06bbb68b8903046a0c7dc645ff0", func := "hornbeam/hornbeamlaw07.InputPlays", spec := "inputPlays", unfollowed := true, recurses := true, apart := false, narrowed := true }
def InputPlaysUptoSaid : Prop := inputPlaysUptoRow.holds Try.pinned (OpenSpec.upto inputPlaysSpec)

end Rows
end Go.Proofs.Ytfpppopcdhihgaa
