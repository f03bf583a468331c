/-
  No cell of these rows narrows 'for every input' (looked for: loops, veiled, ifaces, maps, wideKeys, modest, calm, conditions, laid).
  DERIVED. THE GIVEN ROWS OF THIS SEAT. 6 by the template 'for every input the law returns true; each argument reads behind the call as it read before'; 0 by the template 'total and deterministic' (their statements: YtklomlknakhedaaTotals.lean).
  GIVEN WITH THE SEED: the statements are not yours to turn. If you find one false, say at which input.
  Laid BY PROGRAM, IN A SANDBOX (cutbox-rows.mjs): the forced cells as the released guide's own fill.sh prints them over the translation 51560c54e784474c… (all of the seat's roots in one cut). By AI agents, Wed Nov 11 2026. No macro, syntax, notation, axiom, sorry.
-/
import Derived.Test.YtklomlknakhedaaChecked
import GoSem.Claim
import GoSem.ClaimJoined
import GoSem.ClaimMapViews
import Derived.JoinedTies
import Derived.KernelRfl
namespace Go.Proofs.Ytklomlknakhedaa
/- THE CELL 'sum', in the pinned program and in every row, IS THE sha256 OF THE DUMP (.gsa) THAT YtklomlknakhedaaProg.lean LOADS. Nothing in Lean hashes anything: it is a label: what it is worth is what the hold of that sum in a sandbox is worth. -/
noncomputable def Try.pinned : Pinned := { name := "ytklomlknakhedaa", sum := "51560c54e784474cb92b3877ce76a24a3eb60f3e9b205cb32af779f9f9bc2c6a", checked := Try.checked }
namespace Rows
def none {H : Type} : Left H := { results := [], args := [] }

/-- 'hornbeamlaw08.EntityFinds': WHATEVER THE INPUT: true; the input reads as it did. -/
def entityFindsSpec : ChangeSpec := { name := "entityFinds", fn := fun _ => fun
  | [d] => { results := [.lit (.bool true)], args := [d] }
  | _ => none }
def entityFindsRow : OpenClaim := { program := "ytklomlknakhedaa", sum := "51560c54e784474cb92b3877ce76a24a3eb60f3e9b205cb32af779f9f9bc2c6a", func := "hornbeam/hornbeamlaw08.EntityFinds", spec := "entityFinds", apart := false }
def EntityFindsSaid : Prop := entityFindsRow.holds Try.pinned (OpenSpec.ofChange entityFindsSpec)

/-- ITS FALSE NEIGHBOUR: 'it returns false'. Refute it at one input. -/
def entityFindsWrong : ChangeSpec := { name := "entityFinds", fn := fun _ => fun
  | [d] => { results := [.lit (.bool false)], args := [d] }
  | _ => none }
def EntityFindsWrongFalsely : Prop := entityFindsRow.holds Try.pinned (OpenSpec.ofChange entityFindsWrong)

/-- 'hornbeamlaw08.EntityLongest': WHATEVER THE INPUT: true; the input reads as it did. -/
def entityLongestSpec : ChangeSpec := { name := "entityLongest", fn := fun _ => fun
  | [d] => { results := [.lit (.bool true)], args := [d] }
  | _ => none }
def entityLongestRow : OpenClaim := { program := "ytklomlknakhedaa", sum := "51560c54e784474cb92b3877ce76a24a3eb60f3e9b205cb32af779f9f9bc2c6a", func := "hornbeam/hornbeamlaw08.EntityLongest", spec := "entityLongest", apart := false }
def EntityLongestSaid : Prop := entityLongestRow.holds Try.pinned (OpenSpec.ofChange entityLongestSpec)

/-- ITS FALSE NEIGHBOUR: 'it returns false'. Refute it at one input. -/
def entityLongestWrong : ChangeSpec := { name := "entityLongest", fn := fun _ => fun
  | [d] => { results := [.lit (.bool false)], args := [d] }
  | _ => none }
def EntityLongestWrongFalsely : Prop := entityLongestRow.holds Try.pinned (OpenSpec.ofChange entityLongestWrong)

/-- 'hornbeamlaw08.EntityBegins': WHATEVER THE INPUT: true; the input reads as it did. -/
def entityBeginsSpec : ChangeSpec := { name := "entityBegins", fn := fun _ => fun
  | [d] => { results := [.lit (.bool true)], args := [d] }
  | _ => none }
def entityBeginsRow : OpenClaim := { program := "ytklomlknakhedaa", sum := "51560c54e784474cb92b3877ce76a24a3eb60f3e9b205cb32af779f9f9bc2c6a", func := "hornbeam/hornbeamlaw08.EntityBegins", spec := "entityBegins", apart := false }
def EntityBeginsSaid : Prop := entityBeginsRow.holds Try.pinned (OpenSpec.ofChange entityBeginsSpec)

/-- ITS FALSE NEIGHBOUR: 'it returns false'. Refute it at one input. -/
def entityBeginsWrong : ChangeSpec := { name := "entityBegins", fn := fun _ => fun
  | [d] => { results := [.lit (.bool false)], args := [d] }
  | _ => none }
def EntityBeginsWrongFalsely : Prop := entityBeginsRow.holds Try.pinned (OpenSpec.ofChange entityBeginsWrong)

/-- 'hornbeamlaw08.EntityPrefixes': WHATEVER THE INPUT: true; the input reads as it did. -/
def entityPrefixesSpec : ChangeSpec := { name := "entityPrefixes", fn := fun _ => fun
  | [d] => { results := [.lit (.bool true)], args := [d] }
  | _ => none }
def entityPrefixesRow : OpenClaim := { program := "ytklomlknakhedaa", sum := "51560c54e784474cb92b3877ce76a24a3eb60f3e9b205cb32af779f9f9bc2c6a", func := "hornbeam/hornbeamlaw08.EntityPrefixes", spec := "entityPrefixes", apart := false }
def EntityPrefixesSaid : Prop := entityPrefixesRow.holds Try.pinned (OpenSpec.ofChange entityPrefixesSpec)

/-- ITS FALSE NEIGHBOUR: 'it returns false'. Refute it at one input. -/
def entityPrefixesWrong : ChangeSpec := { name := "entityPrefixes", fn := fun _ => fun
  | [d] => { results := [.lit (.bool false)], args := [d] }
  | _ => none }
def EntityPrefixesWrongFalsely : Prop := entityPrefixesRow.holds Try.pinned (OpenSpec.ofChange entityPrefixesWrong)

/-- 'hornbeamlaw08.EntityNumbers': WHATEVER THE INPUT: true; the input reads as it did. -/
def entityNumbersSpec : ChangeSpec := { name := "entityNumbers", fn := fun _ => fun
  | [d] => { results := [.lit (.bool true)], args := [d] }
  | _ => none }
def entityNumbersRow : OpenClaim := { program := "ytklomlknakhedaa", sum := "51560c54e784474cb92b3877ce76a24a3eb60f3e9b205cb32af779f9f9bc2c6a", func := "hornbeam/hornbeamlaw08.EntityNumbers", spec := "entityNumbers", apart := false }
def EntityNumbersSaid : Prop := entityNumbersRow.holds Try.pinned (OpenSpec.ofChange entityNumbersSpec)

/-- ITS FALSE NEIGHBOUR: 'it returns false'. Refute it at one input. -/
def entityNumbersWrong : ChangeSpec := { name := "entityNumbers", fn := fun _ => fun
  | [d] => { results := [.lit (.bool false)], args := [d] }
  | _ => none }
def EntityNumbersWrongFalsely : Prop := entityNumbersRow.holds Try.pinned (OpenSpec.ofChange entityNumbersWrong)

/-- 'hornbeamlaw08.EntityRight': WHATEVER THE INPUT: true; the input reads as it did. -/
def entityRightSpec : ChangeSpec := { name := "entityRight", fn := fun _ => fun
  | [d] => { results := [.lit (.bool true)], args := [d] }
  | _ => none }
def entityRightRow : OpenClaim := { program := "ytklomlknakhedaa", sum := "51560c54e784474cb92b3877ce76a24a3eb60f3e9b205cb32af779f9f9bc2c6a", func := "hornbeam/hornbeamlaw08.EntityRight", spec := "entityRight", apart := false }
def EntityRightSaid : Prop := entityRightRow.holds Try.pinned (OpenSpec.ofChange entityRightSpec)

/-- ITS FALSE NEIGHBOUR: 'it returns false'. Refute it at one input. -/
def entityRightWrong : ChangeSpec := { name := "entityRight", fn := fun _ => fun
  | [d] => { results := [.lit (.bool false)], args := [d] }
  | _ => none }
def EntityRightWrongFalsely : Prop := entityRightRow.holds Try.pinned (OpenSpec.ofChange entityRightWrong)

/- THE SECOND FORM. 'bulk': how many values and letters a reading holds, each counted each time it is reached (what is shared counts as often as it is met; a slice's spare places count too). A statement '..UptoSaid' is the law's where the arguments, and the package variables that the reading takes, are together of bulk at most 1048576: NARROWER than '..Said'. Prove '..Said' where nothing that the law and all that it calls make is longer than what came in: it says more and counts as full. Else prove '..UptoSaid'. A law counts once. -/
mutual
def uptoBulk {H : Type} : DataW H → Nat
  | .lit (.string bytes) => bytes.length + 1
  | .lit _ => 1
  | .nil => 1
  | .ptr d => uptoBulk d + 1
  | .slice elems spare => uptoBulkAll elems + uptoBulkAll spare + 1
  | .agg parts => uptoBulkAll parts + 1
  | .iface _ d => uptoBulk d + 1
  | .map entries => uptoBulkEntries entries + 1
  | .held _ => 1
def uptoBulkAll {H : Type} : List (DataW H) → Nat
  | [] => 0
  | d :: r => uptoBulk d + uptoBulkAll r
def uptoBulkEntries {H : Type} : List (Lit × DataW H) → Nat
  | [] => 0
  | x :: r => uptoBulkEntry x + uptoBulkEntries r
def uptoBulkEntry {H : Type} : Lit × DataW H → Nat
  | (.string bytes, d) => bytes.length + uptoBulk d + 1
  | (_, d) => uptoBulk d + 1
 end
def uptoSmall : (H : Type) → List (DataW H) → Bool := fun _ ds => decide (uptoBulkAll ds ≤ 1048576)
def OpenSpec.upto (s : _root_.Go.ChangeSpec) : _root_.Go.OpenSpec := { _root_.Go.OpenSpec.ofChange s with cond := some uptoSmall }

/-- 'hornbeamlaw08.EntityFinds', WHERE WHAT IT READS IS OF BULK AT MOST 1048576: true; the input reads as it did. -/
def entityFindsUptoRow : OpenClaim := { program := "ytklomlknakhedaa", sum := "51560c54e784474cb92b3877ce76a24a3eb60f3e9b205cb32af779f9f9bc2c6a", func := "hornbeam/hornbeamlaw08.EntityFinds", spec := "entityFinds", apart := false, narrowed := true }
def EntityFindsUptoSaid : Prop := entityFindsUptoRow.holds Try.pinned (OpenSpec.upto entityFindsSpec)

/-- 'hornbeamlaw08.EntityLongest', WHERE WHAT IT READS IS OF BULK AT MOST 1048576: true; the input reads as it did. -/
def entityLongestUptoRow : OpenClaim := { program := "ytklomlknakhedaa", sum := "51560c54e784474cb92b3877ce76a24a3eb60f3e9b205cb32af779f9f9bc2c6a", func := "hornbeam/hornbeamlaw08.EntityLongest", spec := "entityLongest", apart := false, narrowed := true }
def EntityLongestUptoSaid : Prop := entityLongestUptoRow.holds Try.pinned (OpenSpec.upto entityLongestSpec)

/-- 'hornbeamlaw08.EntityBegins', WHERE WHAT IT READS IS OF BULK AT MOST 1048576: true; the input reads as it did. -/
def entityBeginsUptoRow : OpenClaim := { program := "ytklomlknakhedaa", sum := "51560c54e784474cb92b3877ce76a24a3eb60f3e9b205cb32af779f9f9bc2c6a", func := "hornbeam/hornbeamlaw08.EntityBegins", spec := "entityBegins", apart := false, narrowed := true }
def EntityBeginsUptoSaid : Prop := entityBeginsUptoRow.holds Try.pinned (OpenSpec.upto entityBeginsSpec)

/-- 'hornbeamlaw08.EntityPrefixes', WHERE WHAT IT READS IS OF BULK AT MOST 1048576: true; the input reads as it did. -/
def entityPrefixesUptoRow : OpenClaim := { program := "ytklomlknakhedaa", sum := "51560c54e784474cb92b3877ce76a24a3eb60f3e9b205cb32af779f9f9bc2c6a", func := "hornbeam/hornbeamlaw08.EntityPrefixes", spec := "entityPrefixes", apart := false, narrowed := true }
def EntityPrefixesUptoSaid : Prop := entityPrefixesUptoRow.holds Try.pinned (OpenSpec.upto entityPrefixesSpec)

/-- 'hornbeamlaw08.EntityNumbers', WHERE WHAT IT READS IS OF BULK AT MOST 1048576: true; the input reads as it did. -/
def entityNumbersUptoRow : OpenClaim := { program := "ytklomlknakhedaa", sum := "51560c54e784474cb92b3877ce76a24a3eb60f3e9b205cb32af779f9f9bc2c6a", func := "hornbeam/hornbeamlaw08.EntityNumbers", spec := "entityNumbers", apart := false, narrowed := true }
def EntityNumbersUptoSaid : Prop := entityNumbersUptoRow.holds Try.pinned (OpenSpec.upto entityNumbersSpec)

/-- 'hornbeamlaw08.EntityRight', WHERE WHAT IT READS IS OF BULK AT MOST 1048576: true; the input reads as it did. -/
def entityRightUptoRow : OpenClaim := { program := "ytklomlknakhedaa", sum := "51560c54e784474cb92b3877ce76a24a3eb60f3e9b205cb32af779f9f9bc2c6a", func := "hornbeam/hornbeamlaw08.EntityRight", spec := "entityRight", apart := false, narrowed := true }
def EntityRightUptoSaid : Prop := entityRightUptoRow.holds Try.pinned (OpenSpec.upto entityRightSpec)

end Rows
end Go.Proofs.Ytklomlknakhedaa
