/-
  DERIVED. GIVEN WITH THE SEED: THE CARDS: each row of YtkagkfknfennmaaGreatDoorRows.lean that lists a variable, with what it lists TIED to the program's text (the seventh form; the later family's looks); each row that meets fmt, with fmt's text TOLD by the authors' own Lean function (tested against real Go, not proved from fmt's source: count such statements apart). THE CARD IS WHAT COUNTS. Prove the row's statement (the work); the ties are given (YtkagkfknfennmaaGreatDoorTie.lean); close each card by the builder's one call (the guide's Derived/Test/ToyasCard.lean, 'card_holds'). Laid BY PROGRAM, IN A SANDBOX (cutbox-door.mjs). By AI agents, Wed Nov 11 2026. No macro, syntax, notation, axiom, sorry.
-/
import Derived.Test.YtkagkfknfennmaaGreatDoorRows
import GoSem.ClaimSeven
namespace Go.Proofs.YtkagkfknfennmaaGreatDoor
namespace Rows

/-- THE TIED CARD OF 'confluencelaw26.ShellWrites'. -/
def shellWritesCard : Claim7 := { stood := { row := shellWritesRow, standIns := [], harness := (true, "dd24321dfb2a47279d2b08bbd5dfa73d802f4089d38d2a2722d3c8e07cf96cac"), looks := true }, kinds := [], alts := [], laidByText := true, laidKinds := [.sentinel, .sentinel, .data, .data, .data], laidTests := true, laidLooks := .later }
def ShellWritesCardSaid : Prop := Claim7.holds Tryz.pinned (.plain (OpenSpec.ofChange shellWritesSpec)) shellWritesCard

/-- THE SECOND FORM's CARD OF 'confluencelaw26.ShellWrites'. -/
def shellWritesUptoCard : Claim7 := { stood := { row := shellWritesUptoRow, standIns := [], harness := (true, "dd24321dfb2a47279d2b08bbd5dfa73d802f4089d38d2a2722d3c8e07cf96cac"), looks := true }, kinds := [], alts := [], laidByText := true, laidKinds := [.sentinel, .sentinel, .data, .data, .data], laidTests := true, laidLooks := .later }
def ShellWritesUptoCardSaid : Prop := Claim7.holds Tryz.pinned (.plain (OpenSpec.upto shellWritesSpec)) shellWritesUptoCard
end Rows
end Go.Proofs.YtkagkfknfennmaaGreatDoor
