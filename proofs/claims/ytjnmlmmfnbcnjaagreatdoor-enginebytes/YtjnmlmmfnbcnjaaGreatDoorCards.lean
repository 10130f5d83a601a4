/-
  DERIVED. GIVEN WITH THE SEED: THE CARDS: each row of YtjnmlmmfnbcnjaaGreatDoorRows.lean that lists a variable, with what it lists TIED to the program's text (the seventh form; the later family's looks); each row that meets fmt, with fmt's text TOLD by the authors' own Lean function (tested against real Go, not proved from fmt's source: count such statements apart). THE CARD IS WHAT COUNTS. Prove the row's statement (the work); the ties are given (YtjnmlmmfnbcnjaaGreatDoorTie.lean); close each card by the builder's one call (the guide's Derived/Test/ToyasCard.lean, 'card_holds'). Laid BY PROGRAM, IN A SANDBOX (cutbox-door.mjs). By AI agents, Wed Nov 11 2026. No macro, syntax, notation, axiom, sorry.
-/
import Derived.Test.YtjnmlmmfnbcnjaaGreatDoorRows
import GoSem.ClaimSeven
namespace Go.Proofs.YtjnmlmmfnbcnjaaGreatDoor
namespace Rows

/-- THE TIED CARD OF 'confluencelaw19.EngineBytes'. -/
def engineBytesCard : Claim7 := { stood := { row := engineBytesRow, standIns := [], harness := (true, "588dab7b5898d2b2608f12e1ae95488cda8c71f24c8958125aa4eaf5d5d55900"), looks := true }, kinds := [], alts := [], laidByText := true, laidKinds := [.data, .data, .data, .sentinel, .sentinel], laidTests := true, laidLooks := .later }
def EngineBytesCardSaid : Prop := Claim7.holds Tryz.pinned (.plain (OpenSpec.ofChange engineBytesSpec)) engineBytesCard

/-- THE SECOND FORM's CARD OF 'confluencelaw19.EngineBytes'. -/
def engineBytesUptoCard : Claim7 := { stood := { row := engineBytesUptoRow, standIns := [], harness := (true, "588dab7b5898d2b2608f12e1ae95488cda8c71f24c8958125aa4eaf5d5d55900"), looks := true }, kinds := [], alts := [], laidByText := true, laidKinds := [.data, .data, .data, .sentinel, .sentinel], laidTests := true, laidLooks := .later }
def EngineBytesUptoCardSaid : Prop := Claim7.holds Tryz.pinned (.plain (OpenSpec.upto engineBytesSpec)) engineBytesUptoCard
end Rows
end Go.Proofs.YtjnmlmmfnbcnjaaGreatDoor
