/-
  DERIVED. GIVEN WITH THE SEED: THE CARDS: each row of YtldbgpadimkeeaaGreatDoorRows.lean that lists a variable, with what it lists TIED to the program's text (the seventh form; the later family's looks); each row that meets fmt, with fmt's text TOLD by the authors' own Lean function (tested against real Go, not proved from fmt's source: count such statements apart). THE CARD IS WHAT COUNTS. Prove the row's statement (the work); the ties are given (YtldbgpadimkeeaaGreatDoorTie.lean); close each card by the builder's one call (the guide's Derived/Test/ToyasCard.lean, 'card_holds'). Laid BY PROGRAM, IN A SANDBOX (cutbox-door.mjs). By AI agents, Wed Nov 11 2026. No macro, syntax, notation, axiom, sorry.
-/
import Derived.Test.YtldbgpadimkeeaaGreatDoorRows
import GoSem.ClaimSeven
namespace Go.Proofs.YtldbgpadimkeeaaGreatDoor
namespace Rows

/-- THE TIED CARD OF 'confluencelaw26.ShellReads'. -/
def shellReadsCard : Claim7 := { stood := { row := shellReadsRow, standIns := [], harness := (true, "9e1ab7704a21855be79189e7beebfb0792500ace87ed66341dcfa8d65b485245"), looks := true }, kinds := [], alts := [], laidByText := true, laidKinds := [.sentinel, .sentinel, .data, .data, .data], laidTests := true, laidLooks := .later }
def ShellReadsCardSaid : Prop := Claim7.holds Tryz.pinned (.plain (OpenSpec.ofChange shellReadsSpec)) shellReadsCard

/-- THE SECOND FORM's CARD OF 'confluencelaw26.ShellReads'. -/
def shellReadsUptoCard : Claim7 := { stood := { row := shellReadsUptoRow, standIns := [], harness := (true, "9e1ab7704a21855be79189e7beebfb0792500ace87ed66341dcfa8d65b485245"), looks := true }, kinds := [], alts := [], laidByText := true, laidKinds := [.sentinel, .sentinel, .data, .data, .data], laidTests := true, laidLooks := .later }
def ShellReadsUptoCardSaid : Prop := Claim7.holds Tryz.pinned (.plain (OpenSpec.upto shellReadsSpec)) shellReadsUptoCard
end Rows
end Go.Proofs.YtldbgpadimkeeaaGreatDoor
