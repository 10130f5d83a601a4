/-
  DERIVED. GIVEN WITH THE SEED: THE CARDS: each row of YtphjcbegmaekbaaGreatDoorRows.lean that lists a variable, with what it lists TIED to the program's text (the seventh form; the later family's looks); each row that meets fmt, with fmt's text TOLD by the authors' own Lean function (tested against real Go, not proved from fmt's source: count such statements apart). THE CARD IS WHAT COUNTS. Prove the row's statement (the work); the ties are given (YtphjcbegmaekbaaGreatDoorTie.lean); close each card by the builder's one call (the guide's Derived/Test/ToyasCard.lean, 'card_holds'). Laid BY PROGRAM, IN A SANDBOX (cutbox-door.mjs). By AI agents, Wed Nov 11 2026. No macro, syntax, notation, axiom, sorry.
-/
import Derived.Test.YtphjcbegmaekbaaGreatDoorRows
import GoSem.ClaimSeven
namespace Go.Proofs.YtphjcbegmaekbaaGreatDoor
namespace Rows

/-- THE TIED CARD OF 'confluencelaw19.EngineNumbers'. -/
def engineNumbersCard : Claim7 := { stood := { row := engineNumbersRow, standIns := [], harness := (true, "4973083c1bf9a217d7d0e56c06dadcc18f8cfd9dcada5daa77eeb03e9f73a8ea"), looks := true }, kinds := [], alts := [], laidByText := true, laidKinds := [.sentinel, .sentinel, .data, .data, .data], laidTests := true, laidLooks := .later }
def EngineNumbersCardSaid : Prop := Claim7.holds Tryz.pinned (.plain (OpenSpec.ofChange engineNumbersSpec)) engineNumbersCard

/-- THE SECOND FORM's CARD OF 'confluencelaw19.EngineNumbers'. -/
def engineNumbersUptoCard : Claim7 := { stood := { row := engineNumbersUptoRow, standIns := [], harness := (true, "4973083c1bf9a217d7d0e56c06dadcc18f8cfd9dcada5daa77eeb03e9f73a8ea"), looks := true }, kinds := [], alts := [], laidByText := true, laidKinds := [.sentinel, .sentinel, .data, .data, .data], laidTests := true, laidLooks := .later }
def EngineNumbersUptoCardSaid : Prop := Claim7.holds Tryz.pinned (.plain (OpenSpec.upto engineNumbersSpec)) engineNumbersUptoCard
end Rows
end Go.Proofs.YtphjcbegmaekbaaGreatDoor
