/-
  DERIVED. GIVEN WITH THE SEED: THE CARDS: each row of YtciofnpmlgbdaaaGreatDoorRows.lean that lists a variable, with what it lists TIED to the program's text (the seventh form; the later family's looks); each row that meets fmt, with fmt's text TOLD by the authors' own Lean function (tested against real Go, not proved from fmt's source: count such statements apart). THE CARD IS WHAT COUNTS. Prove the row's statement (the work); the ties are given (YtciofnpmlgbdaaaGreatDoorTie.lean); close each card by the builder's one call (the guide's Derived/Test/ToyasCard.lean, 'card_holds'). Laid BY PROGRAM, IN A SANDBOX (cutbox-door.mjs). By AI agents, Wed Nov 11 2026. No macro, syntax, notation, axiom, sorry.
-/
import Derived.Test.YtciofnpmlgbdaaaGreatDoorRows
import GoSem.ClaimSeven
namespace Go.Proofs.YtciofnpmlgbdaaaGreatDoor
namespace Rows

/-- THE TIED CARD OF 'escrowlaw22.ShellWords'. -/
def shellWordsCard : Claim7 := { stood := { row := shellWordsRow, standIns := [], harness := (true, "f8bfd456c8a6647379299a2842fc7a4ff53b2218d58db61a3f0ccba8e3e9c3e1"), looks := true }, kinds := [], alts := [], laidByText := true, laidKinds := [.pinned, .data, .data, .data, .data, .sentinel, .sentinel], laidTests := true, laidLooks := .later }
def ShellWordsCardSaid : Prop := Claim7.holds Tryz.pinned (.plain (OpenSpec.ofChange shellWordsSpec)) shellWordsCard

/-- THE TIED CARD OF 'escrowlaw22.ShellQuotes'. -/
def shellQuotesCard : Claim7 := { stood := { row := shellQuotesRow, standIns := [], harness := (true, "f8bfd456c8a6647379299a2842fc7a4ff53b2218d58db61a3f0ccba8e3e9c3e1"), looks := true }, kinds := [], alts := [], laidByText := true, laidKinds := [.pinned, .data, .data, .data, .data, .sentinel, .sentinel], laidTests := true, laidLooks := .later }
def ShellQuotesCardSaid : Prop := Claim7.holds Tryz.pinned (.plain (OpenSpec.ofChange shellQuotesSpec)) shellQuotesCard

/-- THE SECOND FORM's CARD OF 'escrowlaw22.ShellWords'. -/
def shellWordsUptoCard : Claim7 := { stood := { row := shellWordsUptoRow, standIns := [], harness := (true, "f8bfd456c8a6647379299a2842fc7a4ff53b2218d58db61a3f0ccba8e3e9c3e1"), looks := true }, kinds := [], alts := [], laidByText := true, laidKinds := [.pinned, .data, .data, .data, .data, .sentinel, .sentinel], laidTests := true, laidLooks := .later }
def ShellWordsUptoCardSaid : Prop := Claim7.holds Tryz.pinned (.plain (OpenSpec.upto shellWordsSpec)) shellWordsUptoCard

/-- THE SECOND FORM's CARD OF 'escrowlaw22.ShellQuotes'. -/
def shellQuotesUptoCard : Claim7 := { stood := { row := shellQuotesUptoRow, standIns := [], harness := (true, "f8bfd456c8a6647379299a2842fc7a4ff53b2218d58db61a3f0ccba8e3e9c3e1"), looks := true }, kinds := [], alts := [], laidByText := true, laidKinds := [.pinned, .data, .data, .data, .data, .sentinel, .sentinel], laidTests := true, laidLooks := .later }
def ShellQuotesUptoCardSaid : Prop := Claim7.holds Tryz.pinned (.plain (OpenSpec.upto shellQuotesSpec)) shellQuotesUptoCard
end Rows
end Go.Proofs.YtciofnpmlgbdaaaGreatDoor
