/-
  DERIVED. GIVEN WITH THE SEED: THE CARDS: each row of YtfikinbodiohiaaGreatDoorRows.lean that lists a variable, with what it lists TIED to the program's text (the seventh form; the later family's looks); each row that meets fmt, with fmt's text TOLD by the authors' own Lean function (tested against real Go, not proved from fmt's source: count such statements apart). THE CARD IS WHAT COUNTS. Prove the row's statement (the work); the ties are given (YtfikinbodiohiaaGreatDoorTie.lean); close each card by the builder's one call (the guide's Derived/Test/ToyasCard.lean, 'card_holds'). Laid BY PROGRAM, IN A SANDBOX (cutbox-door.mjs). By AI agents, Wed Nov 11 2026. No macro, syntax, notation, axiom, sorry.
-/
import Derived.Test.YtfikinbodiohiaaGreatDoorRows
import GoSem.ClaimSeven
namespace Go.Proofs.YtfikinbodiohiaaGreatDoor
namespace Rows

/-- THE TIED CARD OF 'confluencelaw14.FlowNumbers'. -/
def flowNumbersCard : Claim7 := { stood := { row := flowNumbersRow, standIns := [], harness := (true, "d2d28bba40149e68a6ca5e2bf787d87b18e527208148b73cb84fa43cee036323"), looks := true }, kinds := [], alts := [], laidByText := true, laidKinds := [.data, .data, .data, .sentinel, .sentinel], laidTests := true, laidLooks := .later }
def FlowNumbersCardSaid : Prop := Claim7.holds Tryz.pinned (.plain (OpenSpec.ofChange flowNumbersSpec)) flowNumbersCard

/-- THE SECOND FORM's CARD OF 'confluencelaw14.FlowNumbers'. -/
def flowNumbersUptoCard : Claim7 := { stood := { row := flowNumbersUptoRow, standIns := [], harness := (true, "d2d28bba40149e68a6ca5e2bf787d87b18e527208148b73cb84fa43cee036323"), looks := true }, kinds := [], alts := [], laidByText := true, laidKinds := [.data, .data, .data, .sentinel, .sentinel], laidTests := true, laidLooks := .later }
def FlowNumbersUptoCardSaid : Prop := Claim7.holds Tryz.pinned (.plain (OpenSpec.upto flowNumbersSpec)) flowNumbersUptoCard
end Rows
end Go.Proofs.YtfikinbodiohiaaGreatDoor
