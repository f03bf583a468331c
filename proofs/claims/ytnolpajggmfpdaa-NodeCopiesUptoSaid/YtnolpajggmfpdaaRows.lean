/-
  No cell of these rows narrows 'for every input' (looked for: loops, veiled, ifaces, maps, wideKeys, modest, calm, conditions, laid).
  DERIVED. THE GIVEN ROWS OF THIS SEAT. 8 by the template 'for every input the law returns true; each argument reads behind the call as it read before'; 0 by the template 'total and deterministic' (their statements: YtnolpajggmfpdaaTotals.lean).
  GIVEN WITH THE SEED: the statements are not yours to turn. If you find one false, say at which input.
  Laid BY PROGRAM, IN A SANDBOX (cutbox-rows.mjs): the forced cells as the released guide's own fill.sh prints them over the translation 196c1a7d041834f4… (all of the seat's roots in one cut). By AI agents, Wed Nov 11 2026. No macro, syntax, notation, axiom, sorry.
-/
import Derived.Test.YtnolpajggmfpdaaChecked
import GoSem.Claim
import GoSem.ClaimJoined
import GoSem.ClaimMapViews
import Derived.JoinedTies
import Derived.KernelRfl
namespace Go.Proofs.Ytnolpajggmfpdaa
/- THE CELL 'sum', in the pinned program and in every row, IS THE sha256 OF THE DUMP (.gsa) THAT YtnolpajggmfpdaaProg.lean LOADS. Nothing in Lean hashes anything: it is a label: what it is worth is what the hold of that sum in a sandbox is worth. -/
noncomputable def Try.pinned : Pinned := { name := "ytnolpajggmfpdaa", sum := "196c1a7d041834f420b9e42b6b86b25f25a6e281fb30bd2d842c94894792e773", checked := Try.checked }
namespace Rows
def none {H : Type} : Left H := { results := [], args := [] }

/-- 'hornbeamlaw01.NodeAttrs': WHATEVER THE INPUT: true; the input reads as it did. -/
def nodeAttrsSpec : ChangeSpec := { name := "nodeAttrs", fn := fun _ => fun
  | [d1, d2] => { results := [.lit (.bool true)], args := [d1, d2] }
  | _ => none }
def nodeAttrsRow : OpenClaim := { program := "ytnolpajggmfpdaa", sum := "196c1a7d041834f420b9e42b6b86b25f25a6e281fb30bd2d842c94894792e773", func := "hornbeam/hornbeamlaw01.NodeAttrs", spec := "nodeAttrs", apart := false }
def NodeAttrsSaid : Prop := nodeAttrsRow.holds Try.pinned (OpenSpec.ofChange nodeAttrsSpec)

/-- ITS FALSE NEIGHBOUR: 'it returns false'. Refute it at one input. -/
def nodeAttrsWrong : ChangeSpec := { name := "nodeAttrs", fn := fun _ => fun
  | [d1, d2] => { results := [.lit (.bool false)], args := [d1, d2] }
  | _ => none }
def NodeAttrsWrongFalsely : Prop := nodeAttrsRow.holds Try.pinned (OpenSpec.ofChange nodeAttrsWrong)

/-- 'hornbeamlaw01.NodeTemplates': WHATEVER THE INPUT: true; the input reads as it did. -/
def nodeTemplatesSpec : ChangeSpec := { name := "nodeTemplates", fn := fun _ => fun
  | [d1, d2, d3] => { results := [.lit (.bool true)], args := [d1, d2, d3] }
  | _ => none }
def nodeTemplatesRow : OpenClaim := { program := "ytnolpajggmfpdaa", sum := "196c1a7d041834f420b9e42b6b86b25f25a6e281fb30bd2d842c94894792e773", func := "hornbeam/hornbeamlaw01.NodeTemplates", spec := "nodeTemplates", apart := false }
def NodeTemplatesSaid : Prop := nodeTemplatesRow.holds Try.pinned (OpenSpec.ofChange nodeTemplatesSpec)

/-- ITS FALSE NEIGHBOUR: 'it returns false'. Refute it at one input. -/
def nodeTemplatesWrong : ChangeSpec := { name := "nodeTemplates", fn := fun _ => fun
  | [d1, d2, d3] => { results := [.lit (.bool false)], args := [d1, d2, d3] }
  | _ => none }
def NodeTemplatesWrongFalsely : Prop := nodeTemplatesRow.holds Try.pinned (OpenSpec.ofChange nodeTemplatesWrong)

/-- 'hornbeamlaw01.NodeOrder': WHATEVER THE INPUT: true; the input reads as it did. -/
def nodeOrderSpec : ChangeSpec := { name := "nodeOrder", fn := fun _ => fun
  | [d1, d2, d3] => { results := [.lit (.bool true)], args := [d1, d2, d3] }
  | _ => none }
def nodeOrderRow : OpenClaim := { program := "ytnolpajggmfpdaa", sum := "196c1a7d041834f420b9e42b6b86b25f25a6e281fb30bd2d842c94894792e773", func := "hornbeam/hornbeamlaw01.NodeOrder", spec := "nodeOrder", unfollowed := true, recurses := true, apart := false }
def NodeOrderSaid : Prop := nodeOrderRow.holds Try.pinned (OpenSpec.ofChange nodeOrderSpec)

/-- ITS FALSE NEIGHBOUR: 'it returns false'. Refute it at one input. -/
def nodeOrderWrong : ChangeSpec := { name := "nodeOrder", fn := fun _ => fun
  | [d1, d2, d3] => { results := [.lit (.bool false)], args := [d1, d2, d3] }
  | _ => none }
def NodeOrderWrongFalsely : Prop := nodeOrderRow.holds Try.pinned (OpenSpec.ofChange nodeOrderWrong)

/-- 'hornbeamlaw01.NodeAbove': WHATEVER THE INPUT: true; the input reads as it did. -/
def nodeAboveSpec : ChangeSpec := { name := "nodeAbove", fn := fun _ => fun
  | [d1, d2, d3] => { results := [.lit (.bool true)], args := [d1, d2, d3] }
  | _ => none }
def nodeAboveRow : OpenClaim := { program := "ytnolpajggmfpdaa", sum := "196c1a7d041834f420b9e42b6b86b25f25a6e281fb30bd2d842c94894792e773", func := "hornbeam/hornbeamlaw01.NodeAbove", spec := "nodeAbove", apart := false }
def NodeAboveSaid : Prop := nodeAboveRow.holds Try.pinned (OpenSpec.ofChange nodeAboveSpec)

/-- ITS FALSE NEIGHBOUR: 'it returns false'. Refute it at one input. -/
def nodeAboveWrong : ChangeSpec := { name := "nodeAbove", fn := fun _ => fun
  | [d1, d2, d3] => { results := [.lit (.bool false)], args := [d1, d2, d3] }
  | _ => none }
def NodeAboveWrongFalsely : Prop := nodeAboveRow.holds Try.pinned (OpenSpec.ofChange nodeAboveWrong)

/-- 'hornbeamlaw01.NodeLinks': WHATEVER THE INPUT: true; the input reads as it did. -/
def nodeLinksSpec : ChangeSpec := { name := "nodeLinks", fn := fun _ => fun
  | [d] => { results := [.lit (.bool true)], args := [d] }
  | _ => none }
def nodeLinksRow : OpenClaim := { program := "ytnolpajggmfpdaa", sum := "196c1a7d041834f420b9e42b6b86b25f25a6e281fb30bd2d842c94894792e773", func := "hornbeam/hornbeamlaw01.NodeLinks", spec := "nodeLinks", unfollowed := true, recurses := true, apart := false }
def NodeLinksSaid : Prop := nodeLinksRow.holds Try.pinned (OpenSpec.ofChange nodeLinksSpec)

/-- ITS FALSE NEIGHBOUR: 'it returns false'. Refute it at one input. -/
def nodeLinksWrong : ChangeSpec := { name := "nodeLinks", fn := fun _ => fun
  | [d] => { results := [.lit (.bool false)], args := [d] }
  | _ => none }
def NodeLinksWrongFalsely : Prop := nodeLinksRow.holds Try.pinned (OpenSpec.ofChange nodeLinksWrong)

/-- 'hornbeamlaw01.NodePlays': WHATEVER THE INPUT: true; the input reads as it did. -/
def nodePlaysSpec : ChangeSpec := { name := "nodePlays", fn := fun _ => fun
  | [d] => { results := [.lit (.bool true)], args := [d] }
  | _ => none }
def nodePlaysRow : OpenClaim := { program := "ytnolpajggmfpdaa", sum := "196c1a7d041834f420b9e42b6b86b25f25a6e281fb30bd2d842c94894792e773", func := "hornbeam/hornbeamlaw01.NodePlays", spec := "nodePlays", unfollowed := true, recurses := true, apart := false }
def NodePlaysSaid : Prop := nodePlaysRow.holds Try.pinned (OpenSpec.ofChange nodePlaysSpec)

/-- ITS FALSE NEIGHBOUR: 'it returns false'. Refute it at one input. -/
def nodePlaysWrong : ChangeSpec := { name := "nodePlays", fn := fun _ => fun
  | [d] => { results := [.lit (.bool false)], args := [d] }
  | _ => none }
def NodePlaysWrongFalsely : Prop := nodePlaysRow.holds Try.pinned (OpenSpec.ofChange nodePlaysWrong)

/-- 'hornbeamlaw01.NodeZero': WHATEVER THE INPUT: true; the input reads as it did. -/
def nodeZeroSpec : ChangeSpec := { name := "nodeZero", fn := fun _ => fun
  | [d1, d2] => { results := [.lit (.bool true)], args := [d1, d2] }
  | _ => none }
def nodeZeroRow : OpenClaim := { program := "ytnolpajggmfpdaa", sum := "196c1a7d041834f420b9e42b6b86b25f25a6e281fb30bd2d842c94894792e773", func := "hornbeam/hornbeamlaw01.NodeZero", spec := "nodeZero", unfollowed := true, recurses := true, apart := false }
def NodeZeroSaid : Prop := nodeZeroRow.holds Try.pinned (OpenSpec.ofChange nodeZeroSpec)

/-- ITS FALSE NEIGHBOUR: 'it returns false'. Refute it at one input. -/
def nodeZeroWrong : ChangeSpec := { name := "nodeZero", fn := fun _ => fun
  | [d1, d2] => { results := [.lit (.bool false)], args := [d1, d2] }
  | _ => none }
def NodeZeroWrongFalsely : Prop := nodeZeroRow.holds Try.pinned (OpenSpec.ofChange nodeZeroWrong)

/-- 'hornbeamlaw01.NodeCopies': WHATEVER THE INPUT: true; the input reads as it did. -/
def nodeCopiesSpec : ChangeSpec := { name := "nodeCopies", fn := fun _ => fun
  | [d1, d2] => { results := [.lit (.bool true)], args := [d1, d2] }
  | _ => none }
def nodeCopiesRow : OpenClaim := { program := "ytnolpajggmfpdaa", sum := "196c1a7d041834f420b9e42b6b86b25f25a6e281fb30bd2d842c94894792e773", func := "hornbeam/hornbeamlaw01.NodeCopies", spec := "nodeCopies", unfollowed := true, recurses := true, apart := false }
def NodeCopiesSaid : Prop := nodeCopiesRow.holds Try.pinned (OpenSpec.ofChange nodeCopiesSpec)

/-- ITS FALSE NEIGHBOUR: 'it returns false'. Refute it at one input. -/
def nodeCopiesWrong : ChangeSpec := { name := "nodeCopies", fn := fun _ => fun
  | [d1, d2] => { results := [.lit (.bool false)], args := [d1, d2] }
  | _ => none }
def NodeCopiesWrongFalsely : Prop := nodeCopiesRow.holds Try.pinned (OpenSpec.ofChange nodeCopiesWrong)

/- THE SECOND FORM. 'bulk': how many values and letters a reading holds, each counted each time it is reached (what is shared counts as often as it is met; a slice's spare places count too). A statement '..UptoSaid' is the law's where the arguments, and the package variables that the reading takes, are together of bulk at most 1048576: NARROWER than '..Said'. Prove '..Said' where nothing that the law and all that it calls make is longer than what came in: it says more and counts as full. Else prove '..UptoSaid'. A law counts once. -/
mutual
def uptoBulk {H : Type} : DataW H → Nat
  | .lit (.string bytes) => bytes.length + 1
  | .lit _ => 1
  | .nil => 1
  | .ptr d => uptoBulk d + 1
  | .slice elems spare => uptoBulkAll elems + uptoBulkAll spare + 1
  | .agg parts => uptoBulkAll parts + 1
  | .iface _ d => uptoBulk d + 1
  | .map entries => uptoBulkEntries entries + 1
  | .held _ => 1
def uptoBulkAll {H : Type} : List (DataW H) → Nat
  | [] => 0
  | d :: r => uptoBulk d + uptoBulkAll r
def uptoBulkEntries {H : Type} : List (Lit × DataW H) → Nat
  | [] => 0
  | x :: r => uptoBulkEntry x + uptoBulkEntries r
def uptoBulkEntry {H : Type} : Lit × DataW H → Nat
  | (.string bytes, d) => bytes.length + uptoBulk d + 1
  | (_, d) => uptoBulk d + 1
 end
def uptoSmall : (H : Type) → List (DataW H) → Bool := fun _ ds => decide (uptoBulkAll ds ≤ 1048576)
def OpenSpec.upto (s : _root_.Go.ChangeSpec) : _root_.Go.OpenSpec := { _root_.Go.OpenSpec.ofChange s with cond := some uptoSmall }

/-- 'hornbeamlaw01.NodeAttrs', WHERE WHAT IT READS IS OF BULK AT MOST 1048576: true; the input reads as it did. -/
def nodeAttrsUptoRow : OpenClaim := { program := "ytnolpajggmfpdaa", sum := "196c1a7d041834f420b9e42b6b86b25f25a6e281fb30bd2d842c94894792e773", func := "hornbeam/hornbeamlaw01.NodeAttrs", spec := "nodeAttrs", apart := false, narrowed := true }
def NodeAttrsUptoSaid : Prop := nodeAttrsUptoRow.holds Try.pinned (OpenSpec.upto nodeAttrsSpec)

/-- 'hornbeamlaw01.NodeTemplates', WHERE WHAT IT READS IS OF BULK AT MOST 1048576: true; the input reads as it did. -/
def nodeTemplatesUptoRow : OpenClaim := { program := "ytnolpajggmfpdaa", sum := "196c1a7d041834f420b9e42b6b86b25f25a6e281fb30bd2d842c94894792e773", func := "hornbeam/hornbeamlaw01.NodeTemplates", spec := "nodeTemplates", apart := false, narrowed := true }
def NodeTemplatesUptoSaid : Prop := nodeTemplatesUptoRow.holds Try.pinned (OpenSpec.upto nodeTemplatesSpec)

/-- 'hornbeamlaw01.NodeOrder', WHERE WHAT IT READS IS OF BULK AT MOST 1048576: true; the input reads as it did. -/
def nodeOrderUptoRow : OpenClaim := { program := "ytnolpajggmfpdaa", sum := "196c1a7d041834f420b9e42b6b86b25f25a6e281fb30bd2d842c94894792e773", func := "hornbeam/hornbeamlaw01.NodeOrder", spec := "nodeOrder", unfollowed := true, recurses := true, apart := false, narrowed := true }
def NodeOrderUptoSaid : Prop := nodeOrderUptoRow.holds Try.pinned (OpenSpec.upto nodeOrderSpec)

/-- 'hornbeamlaw01.NodeAbove', WHERE WHAT IT READS IS OF BULK AT MOST 1048576: true; the input reads as it did. -/
def nodeAboveUptoRow : OpenClaim := { program := "ytnolpajggmfpdaa", sum := "196c1a7d041834f420b9e42b6b86b25f25a6e281fb30bd2d842c94894792e773", func := "hornbeam/hornbeamlaw01.NodeAbove", spec := "nodeAbove", apart := false, narrowed := true }
def NodeAboveUptoSaid : Prop := nodeAboveUptoRow.holds Try.pinned (OpenSpec.upto nodeAboveSpec)

/-- 'hornbeamlaw01.NodeLinks', WHERE WHAT IT READS IS OF BULK AT MOST 1048576: true; the input reads as it did. -/
def nodeLinksUptoRow : OpenClaim := { program := "ytnolpajggmfpdaa", sum := "196c1a7d041834f420b9e42b6b86b25f25a6e281fb30bd2d842c94894792e773", func := "hornbeam/hornbeamlaw01.NodeLinks", spec := "nodeLinks", unfollowed := true, recurses := true, apart := false, narrowed := true }
def NodeLinksUptoSaid : Prop := nodeLinksUptoRow.holds Try.pinned (OpenSpec.upto nodeLinksSpec)

/-- 'hornbeamlaw01.NodePlays', WHERE WHAT IT READS IS OF BULK AT MOST 1048576: true; the input reads as it did. -/
def nodePlaysUptoRow : OpenClaim := { program := "ytnolpajggmfpdaa", sum := "196c1a7d041834f420b9e42b6b86b25f25a6e281fb30bd2d842c94894792e773", func := "hornbeam/hornbeamlaw01.NodePlays", spec := "nodePlays", unfollowed := true, recurses := true, apart := false, narrowed := true }
def NodePlaysUptoSaid : Prop := nodePlaysUptoRow.holds Try.pinned (OpenSpec.upto nodePlaysSpec)

/-- 'hornbeamlaw01.NodeZero', WHERE WHAT IT READS IS OF BULK AT MOST 1048576: true; the input reads as it did. -/
def nodeZeroUptoRow : OpenClaim := { program := "ytnolpajggmfpdaa", sum := "196c1a7d041834f420b9e42b6b86b25f25a6e281fb30bd2d842c94894792e773", func := "hornbeam/hornbeamlaw01.NodeZero", spec := "nodeZero", unfollowed := true, recurses := true, apart := false, narrowed := true }
def NodeZeroUptoSaid : Prop := nodeZeroUptoRow.holds Try.pinned (OpenSpec.upto nodeZeroSpec)

/-- 'hornbeamlaw01.NodeCopies', WHERE WHAT IT READS IS OF BULK AT MOST 1048576: true; the input reads as it did. -/
def nodeCopiesUptoRow : OpenClaim := { program := "ytnolpajggmfpdaa", sum := "196c1a7d041834f420b9e42b6b86b25f25a6e281fb30bd2d842c94894792e773", func := "hornbeam/hornbeamlaw01.NodeCopies", spec := "nodeCopies", unfollowed := true, recurses := true, apart := false, narrowed := true }
def NodeCopiesUptoSaid : Prop := nodeCopiesUptoRow.holds Try.pinned (OpenSpec.upto nodeCopiesSpec)

end Rows
end Go.Proofs.Ytnolpajggmfpdaa
