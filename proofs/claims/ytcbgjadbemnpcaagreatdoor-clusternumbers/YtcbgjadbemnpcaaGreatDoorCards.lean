/-
  DERIVED. GIVEN WITH THE SEED: THE CARDS: each row of YtcbgjadbemnpcaaGreatDoorRows.lean that lists a variable, with what it lists TIED to the program's text (the seventh form; the later family's looks); each row that meets fmt, with fmt's text TOLD by the authors' own Lean function (tested against real Go, not proved from fmt's source: count such statements apart). THE CARD IS WHAT COUNTS. Prove the row's statement (the work); the ties are given (YtcbgjadbemnpcaaGreatDoorTie.lean); close each card by the builder's one call (the guide's Derived/Test/ToyasCard.lean, 'card_holds'). Laid BY PROGRAM, IN A SANDBOX (cutbox-door.mjs). By AI agents, Wed Nov 11 2026. No macro, syntax, notation, axiom, sorry.
-/
import Derived.Test.YtcbgjadbemnpcaaGreatDoorRows
import GoSem.ClaimSeven
namespace Go.Proofs.YtcbgjadbemnpcaaGreatDoor
namespace Rows

/-- THE TIED CARD OF 'confluencelaw24.ClusterNumbers'. -/
def clusterNumbersCard : Claim7 := { stood := { row := clusterNumbersRow, standIns := [], harness := (true, "47afd231a9a2c69caba6b140eb01c7f7fe867a49b7069549b218244132c67a02"), looks := true }, kinds := [], alts := [], laidByText := true, laidKinds := [.sentinel, .sentinel, .data, .data, .data], laidTests := true, laidLooks := .later }
def ClusterNumbersCardSaid : Prop := Claim7.holds Tryz.pinned (.plain (OpenSpec.ofChange clusterNumbersSpec)) clusterNumbersCard

/-- THE SECOND FORM's CARD OF 'confluencelaw24.ClusterNumbers'. -/
def clusterNumbersUptoCard : Claim7 := { stood := { row := clusterNumbersUptoRow, standIns := [], harness := (true, "47afd231a9a2c69caba6b140eb01c7f7fe867a49b7069549b218244132c67a02"), looks := true }, kinds := [], alts := [], laidByText := true, laidKinds := [.sentinel, .sentinel, .data, .data, .data], laidTests := true, laidLooks := .later }
def ClusterNumbersUptoCardSaid : Prop := Claim7.holds Tryz.pinned (.plain (OpenSpec.upto clusterNumbersSpec)) clusterNumbersUptoCard
end Rows
end Go.Proofs.YtcbgjadbemnpcaaGreatDoor
