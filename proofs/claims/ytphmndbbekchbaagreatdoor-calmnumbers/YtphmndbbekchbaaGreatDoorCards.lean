/-
  DERIVED. GIVEN WITH THE SEED: THE CARDS: each row of YtphmndbbekchbaaGreatDoorRows.lean that lists a variable, with what it lists TIED to the program's text (the seventh form; the later family's looks); each row that meets fmt, with fmt's text TOLD by the authors' own Lean function (tested against real Go, not proved from fmt's source: count such statements apart). THE CARD IS WHAT COUNTS. Prove the row's statement (the work); the ties are given (YtphmndbbekchbaaGreatDoorTie.lean); close each card by the builder's one call (the guide's Derived/Test/ToyasCard.lean, 'card_holds'). Laid BY PROGRAM, IN A SANDBOX (cutbox-door.mjs). By AI agents, Wed Nov 11 2026. No macro, syntax, notation, axiom, sorry.
-/
import Derived.Test.YtphmndbbekchbaaGreatDoorRows
import GoSem.ClaimSeven
namespace Go.Proofs.YtphmndbbekchbaaGreatDoor
namespace Rows

/-- THE TIED CARD OF 'confluencelaw25.CalmNumbers'. -/
def calmNumbersCard : Claim7 := { stood := { row := calmNumbersRow, standIns := [], harness := (true, "715231547d2e679063c596a3dc2a01162bffdc77881a3b16b7d4b72e31269b17"), looks := true }, kinds := [], alts := [], laidByText := true, laidKinds := [.sentinel, .sentinel, .data, .data, .data], laidTests := true, laidLooks := .later }
def CalmNumbersCardSaid : Prop := Claim7.holds Tryz.pinned (.plain (OpenSpec.ofChange calmNumbersSpec)) calmNumbersCard

/-- THE SECOND FORM's CARD OF 'confluencelaw25.CalmNumbers'. -/
def calmNumbersUptoCard : Claim7 := { stood := { row := calmNumbersUptoRow, standIns := [], harness := (true, "715231547d2e679063c596a3dc2a01162bffdc77881a3b16b7d4b72e31269b17"), looks := true }, kinds := [], alts := [], laidByText := true, laidKinds := [.sentinel, .sentinel, .data, .data, .data], laidTests := true, laidLooks := .later }
def CalmNumbersUptoCardSaid : Prop := Claim7.holds Tryz.pinned (.plain (OpenSpec.upto calmNumbersSpec)) calmNumbersUptoCard
end Rows
end Go.Proofs.YtphmndbbekchbaaGreatDoor
