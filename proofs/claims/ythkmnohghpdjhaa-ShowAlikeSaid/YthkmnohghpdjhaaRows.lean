/-
  No cell of these rows narrows 'for every input' (looked for: loops, veiled, ifaces, maps, wideKeys, modest, calm, conditions, laid).
  DERIVED. THE GIVEN ROWS OF THIS SEAT. 6 by the template 'for every input the law returns true; each argument reads behind the call as it read before'; 0 by the template 'total and deterministic' (their statements: YthkmnohghpdjhaaTotals.lean).
  GIVEN WITH THE SEED: the statements are not yours to turn. If you find one false, say at which input.
  Laid BY PROGRAM, IN A SANDBOX (cutbox-rows.mjs): the forced cells as the released guide's own fill.sh prints them over the translation d0829c099d83068b… (all of the seat's roots in one cut). By AI agents, Wed Nov 11 2026. No macro, syntax, notation, axiom, sorry.
-/
import Derived.Test.YthkmnohghpdjhaaChecked
import GoSem.Claim
import GoSem.ClaimJoined
import GoSem.ClaimMapViews
import Derived.JoinedTies
import Derived.KernelRfl
namespace Go.Proofs.Ythkmnohghpdjhaa
/- THE CELL 'sum', in the pinned program and in every row, IS THE sha256 OF THE DUMP (.gsa) THAT YthkmnohghpdjhaaProg.lean LOADS. Nothing in Lean hashes anything: it is a label: what it is worth is what the hold of that sum in a sandbox is worth. -/
noncomputable def Try.pinned : Pinned := { name := "ythkmnohghpdjhaa", sum := "d0829c099d83068b6fb5f91cf8b8e06b58369256c60e64dc66151eff1d9b2344", checked := Try.checked }
namespace Rows
def none {H : Type} : Left H := { results := [], args := [] }

/-- 'hornbeamlaw17.WriteNested': WHATEVER THE INPUT: true; the input reads as it did. -/
def writeNestedSpec : ChangeSpec := { name := "writeNested", fn := fun _ => fun
  | [d1, d2] => { results := [.lit (.bool true)], args := [d1, d2] }
  | _ => none }
def writeNestedRow : OpenClaim := { program := "ythkmnohghpdjhaa", sum := "d0829c099d83068b6fb5f91cf8b8e06b58369256c60e64dc66151eff1d9b2344", func := "hornbeam/hornbeamlaw17.WriteNested", spec := "writeNested", inPlace := ["internal/abi.NoEscape"], unfollowed := true, recurses := true, apart := false }
def WriteNestedSaid : Prop := writeNestedRow.holds Try.pinned (OpenSpec.ofChange writeNestedSpec)

/-- ITS FALSE NEIGHBOUR: 'it returns false'. Refute it at one input. -/
def writeNestedWrong : ChangeSpec := { name := "writeNested", fn := fun _ => fun
  | [d1, d2] => { results := [.lit (.bool false)], args := [d1, d2] }
  | _ => none }
def WriteNestedWrongFalsely : Prop := writeNestedRow.holds Try.pinned (OpenSpec.ofChange writeNestedWrong)

/-- 'hornbeamlaw17.WriteInners': WHATEVER THE INPUT: true; the input reads as it did. -/
def writeInnersSpec : ChangeSpec := { name := "writeInners", fn := fun _ => fun
  | [d1, d2, d3] => { results := [.lit (.bool true)], args := [d1, d2, d3] }
  | _ => none }
def writeInnersRow : OpenClaim := { program := "ythkmnohghpdjhaa", sum := "d0829c099d83068b6fb5f91cf8b8e06b58369256c60e64dc66151eff1d9b2344", func := "hornbeam/hornbeamlaw17.WriteInners", spec := "writeInners", inPlace := ["internal/abi.NoEscape"], unfollowed := true, recurses := true, apart := false }
def WriteInnersSaid : Prop := writeInnersRow.holds Try.pinned (OpenSpec.ofChange writeInnersSpec)

/-- ITS FALSE NEIGHBOUR: 'it returns false'. Refute it at one input. -/
def writeInnersWrong : ChangeSpec := { name := "writeInners", fn := fun _ => fun
  | [d1, d2, d3] => { results := [.lit (.bool false)], args := [d1, d2, d3] }
  | _ => none }
def WriteInnersWrongFalsely : Prop := writeInnersRow.holds Try.pinned (OpenSpec.ofChange writeInnersWrong)

/-- 'hornbeamlaw03.ShowLines': WHATEVER THE INPUT: true; the input reads as it did. -/
def showLinesSpec : ChangeSpec := { name := "showLines", fn := fun _ => fun
  | [d] => { results := [.lit (.bool true)], args := [d] }
  | _ => none }
def showLinesRow : OpenClaim := { program := "ythkmnohghpdjhaa", sum := "d0829c099d83068b6fb5f91cf8b8e06b58369256c60e64dc66151eff1d9b2344", func := "hornbeam/hornbeamlaw03.ShowLines", spec := "showLines", inPlace := ["internal/abi.NoEscape", "internal/bytealg.MakeNoZero", "internal/bytealg.abigen_runtime_cmpstring"], unfollowed := true, recurses := true, apart := false }
def ShowLinesSaid : Prop := showLinesRow.holds Try.pinned (OpenSpec.ofChange showLinesSpec)

/-- ITS FALSE NEIGHBOUR: 'it returns false'. Refute it at one input. -/
def showLinesWrong : ChangeSpec := { name := "showLines", fn := fun _ => fun
  | [d] => { results := [.lit (.bool false)], args := [d] }
  | _ => none }
def ShowLinesWrongFalsely : Prop := showLinesRow.holds Try.pinned (OpenSpec.ofChange showLinesWrong)

/-- 'hornbeamlaw03.ShowSames': WHATEVER THE INPUT: true; the input reads as it did. -/
def showSamesSpec : ChangeSpec := { name := "showSames", fn := fun _ => fun
  | [d1, d2, d3, d4] => { results := [.lit (.bool true)], args := [d1, d2, d3, d4] }
  | _ => none }
def showSamesRow : OpenClaim := { program := "ythkmnohghpdjhaa", sum := "d0829c099d83068b6fb5f91cf8b8e06b58369256c60e64dc66151eff1d9b2344", func := "hornbeam/hornbeamlaw03.ShowSames", spec := "showSames", inPlace := ["internal/abi.NoEscape", "internal/bytealg.MakeNoZero", "internal/bytealg.abigen_runtime_cmpstring"], unfollowed := true, recurses := true, apart := false }
def ShowSamesSaid : Prop := showSamesRow.holds Try.pinned (OpenSpec.ofChange showSamesSpec)

/-- ITS FALSE NEIGHBOUR: 'it returns false'. Refute it at one input. -/
def showSamesWrong : ChangeSpec := { name := "showSames", fn := fun _ => fun
  | [d1, d2, d3, d4] => { results := [.lit (.bool false)], args := [d1, d2, d3, d4] }
  | _ => none }
def ShowSamesWrongFalsely : Prop := showSamesRow.holds Try.pinned (OpenSpec.ofChange showSamesWrong)

/-- 'hornbeamlaw03.ShowAlike': WHATEVER THE INPUT: true; the input reads as it did. -/
def showAlikeSpec : ChangeSpec := { name := "showAlike", fn := fun _ => fun
  | [d1, d2, d3, d4] => { results := [.lit (.bool true)], args := [d1, d2, d3, d4] }
  | _ => none }
def showAlikeRow : OpenClaim := { program := "ythkmnohghpdjhaa", sum := "d0829c099d83068b6fb5f91cf8b8e06b58369256c60e64dc66151eff1d9b2344", func := "hornbeam/hornbeamlaw03.ShowAlike", spec := "showAlike", inPlace := ["internal/abi.NoEscape", "internal/bytealg.MakeNoZero", "internal/bytealg.abigen_runtime_cmpstring"], unfollowed := true, recurses := true, apart := false }
def ShowAlikeSaid : Prop := showAlikeRow.holds Try.pinned (OpenSpec.ofChange showAlikeSpec)

/-- ITS FALSE NEIGHBOUR: 'it returns false'. Refute it at one input. -/
def showAlikeWrong : ChangeSpec := { name := "showAlike", fn := fun _ => fun
  | [d1, d2, d3, d4] => { results := [.lit (.bool false)], args := [d1, d2, d3, d4] }
  | _ => none }
def ShowAlikeWrongFalsely : Prop := showAlikeRow.holds Try.pinned (OpenSpec.ofChange showAlikeWrong)

/-- 'hornbeamlaw03.ShowSound': WHATEVER THE INPUT: true; the input reads as it did. -/
def showSoundSpec : ChangeSpec := { name := "showSound", fn := fun _ => fun
  | [d] => { results := [.lit (.bool true)], args := [d] }
  | _ => none }
def showSoundRow : OpenClaim := { program := "ythkmnohghpdjhaa", sum := "d0829c099d83068b6fb5f91cf8b8e06b58369256c60e64dc66151eff1d9b2344", func := "hornbeam/hornbeamlaw03.ShowSound", spec := "showSound", inPlace := ["internal/abi.NoEscape", "internal/bytealg.MakeNoZero", "internal/bytealg.abigen_runtime_cmpstring"], unfollowed := true, recurses := true, apart := false }
def ShowSoundSaid : Prop := showSoundRow.holds Try.pinned (OpenSpec.ofChange showSoundSpec)

/-- ITS FALSE NEIGHBOUR: 'it returns false'. Refute it at one input. -/
def showSoundWrong : ChangeSpec := { name := "showSound", fn := fun _ => fun
  | [d] => { results := [.lit (.bool false)], args := [d] }
  | _ => none }
def ShowSoundWrongFalsely : Prop := showSoundRow.holds Try.pinned (OpenSpec.ofChange showSoundWrong)

/- THE SECOND FORM. 'bulk': how many values and letters a reading holds, each counted each time it is reached (what is shared counts as often as it is met; a slice's spare places count too). A statement '..UptoSaid' is the law's where the arguments, and the package variables that the reading takes, are together of bulk at most 1048576: NARROWER than '..Said'. Prove '..Said' where nothing that the law and all that it calls make is longer than what came in: it says more and counts as full. Else prove '..UptoSaid'. A law counts once. -/
mutual
def uptoBulk {H : Type} : DataW H → Nat
  | .lit (.string bytes) => bytes.length + 1
  | .lit _ => 1
  | .nil => 1
  | .ptr d => uptoBulk d + 1
  | .slice elems spare => uptoBulkAll elems + uptoBulkAll spare + 1
  | .agg parts => uptoBulkAll parts + 1
  | .iface _ d => uptoBulk d + 1
  | .map entries => uptoBulkEntries entries + 1
  | .held _ => 1
def uptoBulkAll {H : Type} : List (DataW H) → Nat
  | [] => 0
  | d :: r => uptoBulk d + uptoBulkAll r
def uptoBulkEntries {H : Type} : List (Lit × DataW H) → Nat
  | [] => 0
  | x :: r => uptoBulkEntry x + uptoBulkEntries r
def uptoBulkEntry {H : Type} : Lit × DataW H → Nat
  | (.string bytes, d) => bytes.length + uptoBulk d + 1
  | (_, d) => uptoBulk d + 1
 end
def uptoSmall : (H : Type) → List (DataW H) → Bool := fun _ ds => decide (uptoBulkAll ds ≤ 1048576)
def OpenSpec.upto (s : _root_.Go.ChangeSpec) : _root_.Go.OpenSpec := { _root_.Go.OpenSpec.ofChange s with cond := some uptoSmall }

/-- 'hornbeamlaw17.WriteNested', WHERE WHAT IT READS IS OF BULK AT MOST 1048576: true; the input reads as it did. -/
def writeNestedUptoRow : OpenClaim := { program := "ythkmnohghpdjhaa", sum := "d0829c099d83068b6fb5f91cf8b8e06b58369256c60e64dc66151eff1d9b2344", func := "hornbeam/hornbeamlaw17.WriteNested", spec := "writeNested", inPlace := ["internal/abi.NoEscape"], unfollowed := true, recurses := true, apart := false, narrowed := true }
def WriteNestedUptoSaid : Prop := writeNestedUptoRow.holds Try.pinned (OpenSpec.upto writeNestedSpec)

/-- 'hornbeamlaw17.WriteInners', WHERE WHAT IT READS IS OF BULK AT MOST 1048576: true; the input reads as it did. -/
def writeInnersUptoRow : OpenClaim := { program := "ythkmnohghpdjhaa", sum := "d0829c099d83068b6fb5f91cf8b8e06b58369256c60e64dc66151eff1d9b2344", func := "hornbeam/hornbeamlaw17.WriteInners", spec := "writeInners", inPlace := ["internal/abi.NoEscape"], unfollowed := true, recurses := true, apart := false, narrowed := true }
def WriteInnersUptoSaid : Prop := writeInnersUptoRow.holds Try.pinned (OpenSpec.upto writeInnersSpec)

/-- 'hornbeamlaw03.ShowLines', WHERE WHAT IT READS IS OF BULK AT MOST 1048576: true; the input reads as it did. -/
def showLinesUptoRow : OpenClaim := { program := "ythkmnohghpdjhaa", sum := "d0829c099d83068b6fb5f91cf8b8e06b58369256c60e64dc66151eff1d9b2344", func := "hornbeam/hornbeamlaw03.ShowLines", spec := "showLines", inPlace := ["internal/abi.NoEscape", "internal/bytealg.MakeNoZero", "internal/bytealg.abigen_runtime_cmpstring"], unfollowed := true, recurses := true, apart := false, narrowed := true }
def ShowLinesUptoSaid : Prop := showLinesUptoRow.holds Try.pinned (OpenSpec.upto showLinesSpec)

/-- 'hornbeamlaw03.ShowSames', WHERE WHAT IT READS IS OF BULK AT MOST 1048576: true; the input reads as it did. -/
def showSamesUptoRow : OpenClaim := { program := "ythkmnohghpdjhaa", sum := "d0829c099d83068b6fb5f91cf8b8e06b58369256c60e64dc66151eff1d9b2344", func := "hornbeam/hornbeamlaw03.ShowSames", spec := "showSames", inPlace := ["internal/abi.NoEscape", "internal/bytealg.MakeNoZero", "internal/bytealg.abigen_runtime_cmpstring"], unfollowed := true, recurses := true, apart := false, narrowed := true }
def ShowSamesUptoSaid : Prop := showSamesUptoRow.holds Try.pinned (OpenSpec.upto showSamesSpec)

/-- 'hornbeamlaw03.ShowAlike', WHERE WHAT IT READS IS OF BULK AT MOST 1048576: true; the input reads as it did. -/
def showAlikeUptoRow : OpenClaim := { program := "ythkmnohghpdjhaa", sum := "d0829c099d83068b6fb5f91cf8b8e06b58369256c60e64dc66151eff1d9b2344", func := "hornbeam/hornbeamlaw03.ShowAlike", spec := "showAlike", inPlace := ["internal/abi.NoEscape", "internal/bytealg.MakeNoZero", "internal/bytealg.abigen_runtime_cmpstring"], unfollowed := true, recurses := true, apart := false, narrowed := true }
def ShowAlikeUptoSaid : Prop := showAlikeUptoRow.holds Try.pinned (OpenSpec.upto showAlikeSpec)

/-- 'hornbeamlaw03.ShowSound', WHERE WHAT IT READS IS OF BULK AT MOST 1048576: true; the input reads as it did. -/
def showSoundUptoRow : OpenClaim := { program := "ythkmnohghpdjhaa", sum := "d0829c099d83068b6fb5f91cf8b8e06b58369256c60e64dc66151eff1d9b2344", func := "hornbeam/hornbeamlaw03.ShowSound", spec := "showSound", inPlace := ["internal/abi.NoEscape", "internal/bytealg.MakeNoZero", "internal/bytealg.abigen_runtime_cmpstring"], unfollowed := true, recurses := true, apart := false, narrowed := true }
def ShowSoundUptoSaid : Prop := showSoundUptoRow.holds Try.pinned (OpenSpec.upto showSoundSpec)

end Rows
end Go.Proofs.Ythkmnohghpdjhaa
