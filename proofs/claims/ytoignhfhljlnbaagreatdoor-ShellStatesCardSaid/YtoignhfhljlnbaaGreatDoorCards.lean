/-
  DERIVED. GIVEN WITH THE SEED: THE CARDS: each row of YtoignhfhljlnbaaGreatDoorRows.lean that lists a variable, with what it lists TIED to the program's text (the seventh form; the later family's looks); each row that meets fmt, with fmt's text TOLD by the authors' own Lean function (tested against real Go, not proved from fmt's source: count such statements apart). THE CARD IS WHAT COUNTS. Prove the row's statement (the work); the ties are given (YtoignhfhljlnbaaGreatDoorTie.lean); close each card by the builder's one call (the guide's Derived/Test/ToyasCard.lean, 'card_holds'). Laid BY PROGRAM, IN A SANDBOX (cutbox-door.mjs). By AI agents, Wed Nov 11 2026. No macro, syntax, notation, axiom, sorry.
-/
import Derived.Test.YtoignhfhljlnbaaGreatDoorRows
import GoSem.ClaimSeven
namespace Go.Proofs.YtoignhfhljlnbaaGreatDoor
namespace Rows

/-- THE TIED CARD OF 'escrowlaw22.ShellStates'. -/
def shellStatesCard : Claim7 := { stood := { row := shellStatesRow, standIns := [], harness := (true, "f1555671ea899532ae65fee08b37b5e55afaaf6faf3806b1942a61e361c9c8f8"), looks := true }, kinds := [], alts := [], laidByText := true, laidKinds := [.pinned, .data, .data, .data, .data, .sentinel, .sentinel], laidTests := true, laidLooks := .later }
def ShellStatesCardSaid : Prop := Claim7.holds Tryz.pinned (.plain (OpenSpec.ofChange shellStatesSpec)) shellStatesCard

/-- THE SECOND FORM's CARD OF 'escrowlaw22.ShellStates'. -/
def shellStatesUptoCard : Claim7 := { stood := { row := shellStatesUptoRow, standIns := [], harness := (true, "f1555671ea899532ae65fee08b37b5e55afaaf6faf3806b1942a61e361c9c8f8"), looks := true }, kinds := [], alts := [], laidByText := true, laidKinds := [.pinned, .data, .data, .data, .data, .sentinel, .sentinel], laidTests := true, laidLooks := .later }
def ShellStatesUptoCardSaid : Prop := Claim7.holds Tryz.pinned (.plain (OpenSpec.upto shellStatesSpec)) shellStatesUptoCard
end Rows
end Go.Proofs.YtoignhfhljlnbaaGreatDoor
