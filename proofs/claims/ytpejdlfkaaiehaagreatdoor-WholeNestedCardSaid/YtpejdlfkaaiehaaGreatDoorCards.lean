/-
  DERIVED. GIVEN WITH THE SEED: THE CARDS: each row of YtpejdlfkaaiehaaGreatDoorRows.lean that lists a variable, with what it lists TIED to the program's text (the seventh form; the later family's looks); each row that meets fmt, with fmt's text TOLD by the authors' own Lean function (tested against real Go, not proved from fmt's source: count such statements apart). THE CARD IS WHAT COUNTS. Prove the row's statement (the work); the ties are given (YtpejdlfkaaiehaaGreatDoorTie.lean); close each card by the builder's one call (the guide's Derived/Test/ToyasCard.lean, 'card_holds'). Laid BY PROGRAM, IN A SANDBOX (cutbox-door.mjs). By AI agents, Wed Nov 11 2026. No macro, syntax, notation, axiom, sorry.
-/
import Derived.Test.YtpejdlfkaaiehaaGreatDoorRows
import GoSem.ClaimSeven
namespace Go.Proofs.YtpejdlfkaaiehaaGreatDoor
namespace Rows

/-- THE TIED CARD OF 'hornbeamtop.WholeArk'. -/
def wholeArkCard : Claim7 := { stood := { row := wholeArkRow, standIns := [], harness := (true, "aaa0af636891742ec8c6e900e1efa65b953574c6ddf8e32042fae9062f7e77fb"), looks := false }, kinds := [], alts := [], laidByText := true, laidKinds := [.data, .data, .data, .pinned, .pinned], laidTests := true, laidLooks := .later }
def WholeArkCardSaid : Prop := Claim7.holds Tryz.pinned (.plain (OpenSpec.ofChange wholeArkSpec)) wholeArkCard

/-- THE TIED CARD OF 'hornbeamtop.WholeNested'. -/
def wholeNestedCard : Claim7 := { stood := { row := wholeNestedRow, standIns := [], harness := (true, "aaa0af636891742ec8c6e900e1efa65b953574c6ddf8e32042fae9062f7e77fb"), looks := false }, kinds := [], alts := [], laidByText := true, laidKinds := [.data, .data, .data, .pinned, .pinned], laidTests := true, laidLooks := .later }
def WholeNestedCardSaid : Prop := Claim7.holds Tryz.pinned (.plain (OpenSpec.ofChange wholeNestedSpec)) wholeNestedCard

/-- THE SECOND FORM's CARD OF 'hornbeamtop.WholeArk'. -/
def wholeArkUptoCard : Claim7 := { stood := { row := wholeArkUptoRow, standIns := [], harness := (true, "aaa0af636891742ec8c6e900e1efa65b953574c6ddf8e32042fae9062f7e77fb"), looks := false }, kinds := [], alts := [], laidByText := true, laidKinds := [.data, .data, .data, .pinned, .pinned], laidTests := true, laidLooks := .later }
def WholeArkUptoCardSaid : Prop := Claim7.holds Tryz.pinned (.plain (OpenSpec.upto wholeArkSpec)) wholeArkUptoCard

/-- THE SECOND FORM's CARD OF 'hornbeamtop.WholeNested'. -/
def wholeNestedUptoCard : Claim7 := { stood := { row := wholeNestedUptoRow, standIns := [], harness := (true, "aaa0af636891742ec8c6e900e1efa65b953574c6ddf8e32042fae9062f7e77fb"), looks := false }, kinds := [], alts := [], laidByText := true, laidKinds := [.data, .data, .data, .pinned, .pinned], laidTests := true, laidLooks := .later }
def WholeNestedUptoCardSaid : Prop := Claim7.holds Tryz.pinned (.plain (OpenSpec.upto wholeNestedSpec)) wholeNestedUptoCard
end Rows
end Go.Proofs.YtpejdlfkaaiehaaGreatDoor
