/-
  DERIVED. GIVEN WITH THE SEED: THE CARDS: each row of YtajgibhgkfombaaGreatDoorRows.lean that lists a variable, with what it lists TIED to the program's text (the seventh form; the later family's looks); each row that meets fmt, with fmt's text TOLD by the authors' own Lean function (tested against real Go, not proved from fmt's source: count such statements apart). THE CARD IS WHAT COUNTS. Prove the row's statement (the work); the ties are given (YtajgibhgkfombaaGreatDoorTie.lean); close each card by the builder's one call (the guide's Derived/Test/ToyasCard.lean, 'card_holds'). Laid BY PROGRAM, IN A SANDBOX (cutbox-door.mjs). By AI agents, Wed Nov 11 2026. No macro, syntax, notation, axiom, sorry.
-/
import Derived.Test.YtajgibhgkfombaaGreatDoorRows
import GoSem.ClaimSeven
namespace Go.Proofs.YtajgibhgkfombaaGreatDoor
namespace Rows

/-- THE TIED CARD OF 'confluencelaw25.CalmIdle'. -/
def calmIdleCard : Claim7 := { stood := { row := calmIdleRow, standIns := [], harness := (true, "5cd94151f9ffe448294b0c478baea43b6d17f53e964f0bcad77893722f084f6b"), looks := true }, kinds := [], alts := [], laidByText := true, laidKinds := [.sentinel, .sentinel, .data, .data, .data], laidTests := true, laidLooks := .later }
def CalmIdleCardSaid : Prop := Claim7.holds Tryz.pinned (.plain (OpenSpec.ofChange calmIdleSpec)) calmIdleCard

/-- THE SECOND FORM's CARD OF 'confluencelaw25.CalmIdle'. -/
def calmIdleUptoCard : Claim7 := { stood := { row := calmIdleUptoRow, standIns := [], harness := (true, "5cd94151f9ffe448294b0c478baea43b6d17f53e964f0bcad77893722f084f6b"), looks := true }, kinds := [], alts := [], laidByText := true, laidKinds := [.sentinel, .sentinel, .data, .data, .data], laidTests := true, laidLooks := .later }
def CalmIdleUptoCardSaid : Prop := Claim7.holds Tryz.pinned (.plain (OpenSpec.upto calmIdleSpec)) calmIdleUptoCard
end Rows
end Go.Proofs.YtajgibhgkfombaaGreatDoor
