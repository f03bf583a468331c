/-
  No cell of these rows narrows 'for every input' (looked for: loops, veiled, ifaces, maps, wideKeys, modest, calm, conditions, laid).
  DERIVED. THE GIVEN ROWS OF THIS SEAT. 12 by the template 'for every input the law returns true; each argument reads behind the call as it read before'; 0 by the template 'total and deterministic' (their statements: YtbhicbpfdbnpfaaTotals.lean).
  GIVEN WITH THE SEED: the statements are not yours to turn. If you find one false, say at which input.
  Laid BY PROGRAM, IN A SANDBOX (cutbox-rows.mjs): the forced cells as the released guide's own fill.sh prints them over the translation 7d1102b71ed3c271… (all of the seat's roots in one cut). By AI agents, Wed Nov 11 2026. No macro, syntax, notation, axiom, sorry.
-/
import Derived.Test.YtbhicbpfdbnpfaaChecked
import GoSem.Claim
import GoSem.ClaimJoined
import GoSem.ClaimMapViews
import Derived.JoinedTies
import Derived.KernelRfl
namespace Go.Proofs.Ytbhicbpfdbnpfaa
/- THE CELL 'sum', in the pinned program and in every row, IS THE sha256 OF THE DUMP (.gsa) THAT YtbhicbpfdbnpfaaProg.lean LOADS. Nothing in Lean hashes anything: it is a label: what it is worth is what the hold of that sum in a sandbox is worth. -/
noncomputable def Try.pinned : Pinned := { name := "ytbhicbpfdbnpfaa", sum := "7d1102b71ed3c2711c30db1f26ca2ed52bedd7ea23ef1bab3f29f5e2c5c13860", checked := Try.checked }
namespace Rows
def none {H : Type} : Left H := { results := [], args := [] }

/-- 'hornbeamlaw12.StackOrder': WHATEVER THE INPUT: true; the input reads as it did. -/
def stackOrderSpec : ChangeSpec := { name := "stackOrder", fn := fun _ => fun
  | [d] => { results := [.lit (.bool true)], args := [d] }
  | _ => none }
def stackOrderRow : OpenClaim := { program := "ytbhicbpfdbnpfaa", sum := "7d1102b71ed3c2711c30db1f26ca2ed52bedd7ea23ef1bab3f29f5e2c5c13860", func := "hornbeam/hornbeamlaw12.StackOrder", spec := "stackOrder", apart := false }
def StackOrderSaid : Prop := stackOrderRow.holds Try.pinned (OpenSpec.ofChange stackOrderSpec)

/-- ITS FALSE NEIGHBOUR: 'it returns false'. Refute it at one input. -/
def stackOrderWrong : ChangeSpec := { name := "stackOrder", fn := fun _ => fun
  | [d] => { results := [.lit (.bool false)], args := [d] }
  | _ => none }
def StackOrderWrongFalsely : Prop := stackOrderRow.holds Try.pinned (OpenSpec.ofChange stackOrderWrong)

/-- 'hornbeamlaw12.StackPops': WHATEVER THE INPUT: true; the input reads as it did. -/
def stackPopsSpec : ChangeSpec := { name := "stackPops", fn := fun _ => fun
  | [d1, d2] => { results := [.lit (.bool true)], args := [d1, d2] }
  | _ => none }
def stackPopsRow : OpenClaim := { program := "ytbhicbpfdbnpfaa", sum := "7d1102b71ed3c2711c30db1f26ca2ed52bedd7ea23ef1bab3f29f5e2c5c13860", func := "hornbeam/hornbeamlaw12.StackPops", spec := "stackPops", unfollowed := true, recurses := true, apart := false }
def StackPopsSaid : Prop := stackPopsRow.holds Try.pinned (OpenSpec.ofChange stackPopsSpec)

/-- ITS FALSE NEIGHBOUR: 'it returns false'. Refute it at one input. -/
def stackPopsWrong : ChangeSpec := { name := "stackPops", fn := fun _ => fun
  | [d1, d2] => { results := [.lit (.bool false)], args := [d1, d2] }
  | _ => none }
def StackPopsWrongFalsely : Prop := stackPopsRow.holds Try.pinned (OpenSpec.ofChange stackPopsWrong)

/-- 'hornbeamlaw12.StackScopes': WHATEVER THE INPUT: true; the input reads as it did. -/
def stackScopesSpec : ChangeSpec := { name := "stackScopes", fn := fun _ => fun
  | [d1, d2] => { results := [.lit (.bool true)], args := [d1, d2] }
  | _ => none }
def stackScopesRow : OpenClaim := { program := "ytbhicbpfdbnpfaa", sum := "7d1102b71ed3c2711c30db1f26ca2ed52bedd7ea23ef1bab3f29f5e2c5c13860", func := "hornbeam/hornbeamlaw12.StackScopes", spec := "stackScopes", unfollowed := true, recurses := true, apart := false }
def StackScopesSaid : Prop := stackScopesRow.holds Try.pinned (OpenSpec.ofChange stackScopesSpec)

/-- ITS FALSE NEIGHBOUR: 'it returns false'. Refute it at one input. -/
def stackScopesWrong : ChangeSpec := { name := "stackScopes", fn := fun _ => fun
  | [d1, d2] => { results := [.lit (.bool false)], args := [d1, d2] }
  | _ => none }
def StackScopesWrongFalsely : Prop := stackScopesRow.holds Try.pinned (OpenSpec.ofChange stackScopesWrong)

/-- 'hornbeamlaw12.StackPlays': WHATEVER THE INPUT: true; the input reads as it did. -/
def stackPlaysSpec : ChangeSpec := { name := "stackPlays", fn := fun _ => fun
  | [d1, d2] => { results := [.lit (.bool true)], args := [d1, d2] }
  | _ => none }
def stackPlaysRow : OpenClaim := { program := "ytbhicbpfdbnpfaa", sum := "7d1102b71ed3c2711c30db1f26ca2ed52bedd7ea23ef1bab3f29f5e2c5c13860", func := "hornbeam/hornbeamlaw12.StackPlays", spec := "stackPlays", unfollowed := true, recurses := true, apart := false }
def StackPlaysSaid : Prop := stackPlaysRow.holds Try.pinned (OpenSpec.ofChange stackPlaysSpec)

/-- ITS FALSE NEIGHBOUR: 'it returns false'. Refute it at one input. -/
def stackPlaysWrong : ChangeSpec := { name := "stackPlays", fn := fun _ => fun
  | [d1, d2] => { results := [.lit (.bool false)], args := [d1, d2] }
  | _ => none }
def StackPlaysWrongFalsely : Prop := stackPlaysRow.holds Try.pinned (OpenSpec.ofChange stackPlaysWrong)

/-- 'hornbeamlaw13.ActiveClears': WHATEVER THE INPUT: true; the input reads as it did. -/
def activeClearsSpec : ChangeSpec := { name := "activeClears", fn := fun _ => fun
  | [d1, d2, d3] => { results := [.lit (.bool true)], args := [d1, d2, d3] }
  | _ => none }
def activeClearsRow : OpenClaim := { program := "ytbhicbpfdbnpfaa", sum := "7d1102b71ed3c2711c30db1f26ca2ed52bedd7ea23ef1bab3f29f5e2c5c13860", func := "hornbeam/hornbeamlaw13.ActiveClears", spec := "activeClears", unfollowed := true, recurses := true, apart := false }
def ActiveClearsSaid : Prop := activeClearsRow.holds Try.pinned (OpenSpec.ofChange activeClearsSpec)

/-- ITS FALSE NEIGHBOUR: 'it returns false'. Refute it at one input. -/
def activeClearsWrong : ChangeSpec := { name := "activeClears", fn := fun _ => fun
  | [d1, d2, d3] => { results := [.lit (.bool false)], args := [d1, d2, d3] }
  | _ => none }
def ActiveClearsWrongFalsely : Prop := activeClearsRow.holds Try.pinned (OpenSpec.ofChange activeClearsWrong)

/-- 'hornbeamlaw13.ActiveArk': WHATEVER THE INPUT: true; the input reads as it did. -/
def activeArkSpec : ChangeSpec := { name := "activeArk", fn := fun _ => fun
  | [d1, d2, d3] => { results := [.lit (.bool true)], args := [d1, d2, d3] }
  | _ => none }
def activeArkRow : OpenClaim := { program := "ytbhicbpfdbnpfaa", sum := "7d1102b71ed3c2711c30db1f26ca2ed52bedd7ea23ef1bab3f29f5e2c5c13860", func := "hornbeam/hornbeamlaw13.ActiveArk", spec := "activeArk", unfollowed := true, recurses := true, apart := false }
def ActiveArkSaid : Prop := activeArkRow.holds Try.pinned (OpenSpec.ofChange activeArkSpec)

/-- ITS FALSE NEIGHBOUR: 'it returns false'. Refute it at one input. -/
def activeArkWrong : ChangeSpec := { name := "activeArk", fn := fun _ => fun
  | [d1, d2, d3] => { results := [.lit (.bool false)], args := [d1, d2, d3] }
  | _ => none }
def ActiveArkWrongFalsely : Prop := activeArkRow.holds Try.pinned (OpenSpec.ofChange activeArkWrong)

/-- 'hornbeamlaw13.ActivePlays': WHATEVER THE INPUT: true; the input reads as it did. -/
def activePlaysSpec : ChangeSpec := { name := "activePlays", fn := fun _ => fun
  | [d1, d2] => { results := [.lit (.bool true)], args := [d1, d2] }
  | _ => none }
def activePlaysRow : OpenClaim := { program := "ytbhicbpfdbnpfaa", sum := "7d1102b71ed3c2711c30db1f26ca2ed52bedd7ea23ef1bab3f29f5e2c5c13860", func := "hornbeam/hornbeamlaw13.ActivePlays", spec := "activePlays", unfollowed := true, recurses := true, apart := false }
def ActivePlaysSaid : Prop := activePlaysRow.holds Try.pinned (OpenSpec.ofChange activePlaysSpec)

/-- ITS FALSE NEIGHBOUR: 'it returns false'. Refute it at one input. -/
def activePlaysWrong : ChangeSpec := { name := "activePlays", fn := fun _ => fun
  | [d1, d2] => { results := [.lit (.bool false)], args := [d1, d2] }
  | _ => none }
def ActivePlaysWrongFalsely : Prop := activePlaysRow.holds Try.pinned (OpenSpec.ofChange activePlaysWrong)

/-- 'hornbeamlaw14.PlaceText': WHATEVER THE INPUT: true; the input reads as it did. -/
def placeTextSpec : ChangeSpec := { name := "placeText", fn := fun _ => fun
  | [d] => { results := [.lit (.bool true)], args := [d] }
  | _ => none }
def placeTextRow : OpenClaim := { program := "ytbhicbpfdbnpfaa", sum := "7d1102b71ed3c2711c30db1f26ca2ed52bedd7ea23ef1bab3f29f5e2c5c13860", func := "hornbeam/hornbeamlaw14.PlaceText", spec := "placeText", unfollowed := true, recurses := true, apart := false }
def PlaceTextSaid : Prop := placeTextRow.holds Try.pinned (OpenSpec.ofChange placeTextSpec)

/-- ITS FALSE NEIGHBOUR: 'it returns false'. Refute it at one input. -/
def placeTextWrong : ChangeSpec := { name := "placeText", fn := fun _ => fun
  | [d] => { results := [.lit (.bool false)], args := [d] }
  | _ => none }
def PlaceTextWrongFalsely : Prop := placeTextRow.holds Try.pinned (OpenSpec.ofChange placeTextWrong)

/-- 'hornbeamlaw14.PlaceSpots': WHATEVER THE INPUT: true; the input reads as it did. -/
def placeSpotsSpec : ChangeSpec := { name := "placeSpots", fn := fun _ => fun
  | [d1, d2, d3] => { results := [.lit (.bool true)], args := [d1, d2, d3] }
  | _ => none }
def placeSpotsRow : OpenClaim := { program := "ytbhicbpfdbnpfaa", sum := "7d1102b71ed3c2711c30db1f26ca2ed52bedd7ea23ef1bab3f29f5e2c5c13860", func := "hornbeam/hornbeamlaw14.PlaceSpots", spec := "placeSpots", apart := false }
def PlaceSpotsSaid : Prop := placeSpotsRow.holds Try.pinned (OpenSpec.ofChange placeSpotsSpec)

/-- ITS FALSE NEIGHBOUR: 'it returns false'. Refute it at one input. -/
def placeSpotsWrong : ChangeSpec := { name := "placeSpots", fn := fun _ => fun
  | [d1, d2, d3] => { results := [.lit (.bool false)], args := [d1, d2, d3] }
  | _ => none }
def PlaceSpotsWrongFalsely : Prop := placeSpotsRow.holds Try.pinned (OpenSpec.ofChange placeSpotsWrong)

/-- 'hornbeamlaw14.PlaceEnds': WHATEVER THE INPUT: true; the input reads as it did. -/
def placeEndsSpec : ChangeSpec := { name := "placeEnds", fn := fun _ => fun
  | [d1, d2, d3] => { results := [.lit (.bool true)], args := [d1, d2, d3] }
  | _ => none }
def placeEndsRow : OpenClaim := { program := "ytbhicbpfdbnpfaa", sum := "7d1102b71ed3c2711c30db1f26ca2ed52bedd7ea23ef1bab3f29f5e2c5c13860", func := "hornbeam/hornbeamlaw14.PlaceEnds", spec := "placeEnds", apart := false }
def PlaceEndsSaid : Prop := placeEndsRow.holds Try.pinned (OpenSpec.ofChange placeEndsSpec)

/-- ITS FALSE NEIGHBOUR: 'it returns false'. Refute it at one input. -/
def placeEndsWrong : ChangeSpec := { name := "placeEnds", fn := fun _ => fun
  | [d1, d2, d3] => { results := [.lit (.bool false)], args := [d1, d2, d3] }
  | _ => none }
def PlaceEndsWrongFalsely : Prop := placeEndsRow.holds Try.pinned (OpenSpec.ofChange placeEndsWrong)

/-- 'hornbeamlaw17.WriteNested': WHATEVER THE INPUT: true; the input reads as it did. -/
def writeNestedSpec : ChangeSpec := { name := "writeNested", fn := fun _ => fun
  | [d1, d2] => { results := [.lit (.bool true)], args := [d1, d2] }
  | _ => none }
def writeNestedRow : OpenClaim := { program := "ytbhicbpfdbnpfaa", sum := "7d1102b71ed3c2711c30db1f26ca2ed52bedd7ea23ef1bab3f29f5e2c5c13860", func := "hornbeam/hornbeamlaw17.WriteNested", spec := "writeNested", inPlace := ["internal/abi.NoEscape"], unfollowed := true, recurses := true, apart := false }
def WriteNestedSaid : Prop := writeNestedRow.holds Try.pinned (OpenSpec.ofChange writeNestedSpec)

/-- ITS FALSE NEIGHBOUR: 'it returns false'. Refute it at one input. -/
def writeNestedWrong : ChangeSpec := { name := "writeNested", fn := fun _ => fun
  | [d1, d2] => { results := [.lit (.bool false)], args := [d1, d2] }
  | _ => none }
def WriteNestedWrongFalsely : Prop := writeNestedRow.holds Try.pinned (OpenSpec.ofChange writeNestedWrong)

/-- 'hornbeamlaw17.WriteInners': WHATEVER THE INPUT: true; the input reads as it did. -/
def writeInnersSpec : ChangeSpec := { name := "writeInners", fn := fun _ => fun
  | [d1, d2, d3] => { results := [.lit (.bool true)], args := [d1, d2, d3] }
  | _ => none }
def writeInnersRow : OpenClaim := { program := "ytbhicbpfdbnpfaa", sum := "7d1102b71ed3c2711c30db1f26ca2ed52bedd7ea23ef1bab3f29f5e2c5c13860", func := "hornbeam/hornbeamlaw17.WriteInners", spec := "writeInners", inPlace := ["internal/abi.NoEscape"], unfollowed := true, recurses := true, apart := false }
def WriteInnersSaid : Prop := writeInnersRow.holds Try.pinned (OpenSpec.ofChange writeInnersSpec)

/-- ITS FALSE NEIGHBOUR: 'it returns false'. Refute it at one input. -/
def writeInnersWrong : ChangeSpec := { name := "writeInners", fn := fun _ => fun
  | [d1, d2, d3] => { results := [.lit (.bool false)], args := [d1, d2, d3] }
  | _ => none }
def WriteInnersWrongFalsely : Prop := writeInnersRow.holds Try.pinned (OpenSpec.ofChange writeInnersWrong)

/- THE SECOND FORM. 'bulk': how many values and letters a reading holds, each counted each time it is reached (what is shared counts as often as it is met; a slice's spare places count too). A statement '..UptoSaid' is the law's where the arguments, and the package variables that the reading takes, are together of bulk at most 1048576: NARROWER than '..Said'. Prove '..Said' where nothing that the law and all that it calls make is longer than what came in: it says more and counts as full. Else prove '..UptoSaid'. A law counts once. -/
mutual
def uptoBulk {H : Type} : DataW H → Nat
  | .lit (.string bytes) => bytes.length + 1
  | .lit _ => 1
  | .nil => 1
  | .ptr d => uptoBulk d + 1
  | .slice elems spare => uptoBulkAll elems + uptoBulkAll spare + 1
  | .agg parts => uptoBulkAll parts + 1
  | .iface _ d => uptoBulk d + 1
  | .map entries => uptoBulkEntries entries + 1
  | .held _ => 1
def uptoBulkAll {H : Type} : List (DataW H) → Nat
  | [] => 0
  | d :: r => uptoBulk d + uptoBulkAll r
def uptoBulkEntries {H : Type} : List (Lit × DataW H) → Nat
  | [] => 0
  | x :: r => uptoBulkEntry x + uptoBulkEntries r
def uptoBulkEntry {H : Type} : Lit × DataW H → Nat
  | (.string bytes, d) => bytes.length + uptoBulk d + 1
  | (_, d) => uptoBulk d + 1
 end
def uptoSmall : (H : Type) → List (DataW H) → Bool := fun _ ds => decide (uptoBulkAll ds ≤ 1048576)
def OpenSpec.upto (s : _root_.Go.ChangeSpec) : _root_.Go.OpenSpec := { _root_.Go.OpenSpec.ofChange s with cond := some uptoSmall }

/-- 'hornbeamlaw12.StackOrder', WHERE WHAT IT READS IS OF BULK AT MOST 1048576: true; the input reads as it did. -/
def stackOrderUptoRow : OpenClaim := { program := "ytbhicbpfdbnpfaa", sum := "7d1102b71ed3c2711c30db1f26ca2ed52bedd7ea23ef1bab3f29f5e2c5c13860", func := "hornbeam/hornbeamlaw12.StackOrder", spec := "stackOrder", apart := false, narrowed := true }
def StackOrderUptoSaid : Prop := stackOrderUptoRow.holds Try.pinned (OpenSpec.upto stackOrderSpec)

/-- 'hornbeamlaw12.StackPops', WHERE WHAT IT READS IS OF BULK AT MOST 1048576: true; the input reads as it did. -/
def stackPopsUptoRow : OpenClaim := { program := "ytbhicbpfdbnpfaa", sum := "7d1102b71ed3c2711c30db1f26ca2ed52bedd7ea23ef1bab3f29f5e2c5c13860", func := "hornbeam/hornbeamlaw12.StackPops", spec := "stackPops", unfollowed := true, recurses := true, apart := false, narrowed := true }
def StackPopsUptoSaid : Prop := stackPopsUptoRow.holds Try.pinned (OpenSpec.upto stackPopsSpec)

/-- 'hornbeamlaw12.StackScopes', WHERE WHAT IT READS IS OF BULK AT MOST 1048576: true; the input reads as it did. -/
def stackScopesUptoRow : OpenClaim := { program := "ytbhicbpfdbnpfaa", sum := "7d1102b71ed3c2711c30db1f26ca2ed52bedd7ea23ef1bab3f29f5e2c5c13860", func := "hornbeam/hornbeamlaw12.StackScopes", spec := "stackScopes", unfollowed := true, recurses := true, apart := false, narrowed := true }
def StackScopesUptoSaid : Prop := stackScopesUptoRow.holds Try.pinned (OpenSpec.upto stackScopesSpec)

/-- 'hornbeamlaw12.StackPlays', WHERE WHAT IT READS IS OF BULK AT MOST 1048576: true; the input reads as it did. -/
def stackPlaysUptoRow : OpenClaim := { program := "ytbhicbpfdbnpfaa", sum := "7d1102b71ed3c2711c30db1f26ca2ed52bedd7ea23ef1bab3f29f5e2c5c13860", func := "hornbeam/hornbeamlaw12.StackPlays", spec := "stackPlays", unfollowed := true, recurses := true, apart := false, narrowed := true }
def StackPlaysUptoSaid : Prop := stackPlaysUptoRow.holds Try.pinned (OpenSpec.upto stackPlaysSpec)

/-- 'hornbeamlaw13.ActiveClears', WHERE WHAT IT READS IS OF BULK AT MOST 1048576: true; the input reads as it did. -/
def activeClearsUptoRow : OpenClaim := { program := "ytbhicbpfdbnpfaa", sum := "7d1102b71ed3c2711c30db1f26ca2ed52bedd7ea23ef1bab3f29f5e2c5c13860", func := "hornbeam/hornbeamlaw13.ActiveClears", spec := "activeClears", unfollowed := true, recurses := true, apart := false, narrowed := true }
def ActiveClearsUptoSaid : Prop := activeClearsUptoRow.holds Try.pinned (OpenSpec.upto activeClearsSpec)

/-- 'hornbeamlaw13.ActiveArk', WHERE WHAT IT READS IS OF BULK AT MOST 1048576: true; the input reads as it did. -/
def activeArkUptoRow : OpenClaim := { program := "ytbhicbpfdbnpfaa", sum := "7d1102b71ed3c2711c30db1f26ca2ed52bedd7ea23ef1bab3f29f5e2c5c13860", func := "hornbeam/hornbeamlaw13.ActiveArk", spec := "activeArk", unfollowed := true, recurses := true, apart := false, narrowed := true }
def ActiveArkUptoSaid : Prop := activeArkUptoRow.holds Try.pinned (OpenSpec.upto activeArkSpec)

/-- 'hornbeamlaw13.ActivePlays', WHERE WHAT IT READS IS OF BULK AT MOST 1048576: true; the input reads as it did. -/
def activePlaysUptoRow : OpenClaim := { program := "ytbhicbpfdbnpfaa", sum := "7d1102b71ed3c2711c30db1f26ca2ed52bedd7ea23ef1bab3f29f5e2c5c13860", func := "hornbeam/hornbeamlaw13.ActivePlays", spec := "activePlays", unfollowed := true, recurses := true, apart := false, narrowed := true }
def ActivePlaysUptoSaid : Prop := activePlaysUptoRow.holds Try.pinned (OpenSpec.upto activePlaysSpec)

/-- 'hornbeamlaw14.PlaceText', WHERE WHAT IT READS IS OF BULK AT MOST 1048576: true; the input reads as it did. -/
def placeTextUptoRow : OpenClaim := { program := "ytbhicbpfdbnpfaa", sum := "7d1102b71ed3c2711c30db1f26ca2ed52bedd7ea23ef1bab3f29f5e2c5c13860", func := "hornbeam/hornbeamlaw14.PlaceText", spec := "placeText", unfollowed := true, recurses := true, apart := false, narrowed := true }
def PlaceTextUptoSaid : Prop := placeTextUptoRow.holds Try.pinned (OpenSpec.upto placeTextSpec)

/-- 'hornbeamlaw14.PlaceSpots', WHERE WHAT IT READS IS OF BULK AT MOST 1048576: true; the input reads as it did. -/
def placeSpotsUptoRow : OpenClaim := { program := "ytbhicbpfdbnpfaa", sum := "7d1102b71ed3c2711c30db1f26ca2ed52bedd7ea23ef1bab3f29f5e2c5c13860", func := "hornbeam/hornbeamlaw14.PlaceSpots", spec := "placeSpots", apart := false, narrowed := true }
def PlaceSpotsUptoSaid : Prop := placeSpotsUptoRow.holds Try.pinned (OpenSpec.upto placeSpotsSpec)

/-- 'hornbeamlaw14.PlaceEnds', WHERE WHAT IT READS IS OF BULK AT MOST 1048576: true; the input reads as it did. -/
def placeEndsUptoRow : OpenClaim := { program := "ytbhicbpfdbnpfaa", sum := "7d1102b71ed3c2711c30db1f26ca2ed52bedd7ea23ef1bab3f29f5e2c5c13860", func := "hornbeam/hornbeamlaw14.PlaceEnds", spec := "placeEnds", apart := false, narrowed := true }
def PlaceEndsUptoSaid : Prop := placeEndsUptoRow.holds Try.pinned (OpenSpec.upto placeEndsSpec)

/-- 'hornbeamlaw17.WriteNested', WHERE WHAT IT READS IS OF BULK AT MOST 1048576: true; the input reads as it did. -/
def writeNestedUptoRow : OpenClaim := { program := "ytbhicbpfdbnpfaa", sum := "7d1102b71ed3c2711c30db1f26ca2ed52bedd7ea23ef1bab3f29f5e2c5c13860", func := "hornbeam/hornbeamlaw17.WriteNested", spec := "writeNested", inPlace := ["internal/abi.NoEscape"], unfollowed := true, recurses := true, apart := false, narrowed := true }
def WriteNestedUptoSaid : Prop := writeNestedUptoRow.holds Try.pinned (OpenSpec.upto writeNestedSpec)

/-- 'hornbeamlaw17.WriteInners', WHERE WHAT IT READS IS OF BULK AT MOST 1048576: true; the input reads as it did. -/
def writeInnersUptoRow : OpenClaim := { program := "ytbhicbpfdbnpfaa", sum := "7d1102b71ed3c2711c30db1f26ca2ed52bedd7ea23ef1bab3f29f5e2c5c13860", func := "hornbeam/hornbeamlaw17.WriteInners", spec := "writeInners", inPlace := ["internal/abi.NoEscape"], unfollowed := true, recurses := true, apart := false, narrowed := true }
def WriteInnersUptoSaid : Prop := writeInnersUptoRow.holds Try.pinned (OpenSpec.upto writeInnersSpec)

end Rows
end Go.Proofs.Ytbhicbpfdbnpfaa
