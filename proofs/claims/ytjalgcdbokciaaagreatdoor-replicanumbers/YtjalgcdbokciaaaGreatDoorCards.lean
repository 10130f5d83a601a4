/-
  DERIVED. GIVEN WITH THE SEED: THE CARDS: each row of YtjalgcdbokciaaaGreatDoorRows.lean that lists a variable, with what it lists TIED to the program's text (the seventh form; the later family's looks); each row that meets fmt, with fmt's text TOLD by the authors' own Lean function (tested against real Go, not proved from fmt's source: count such statements apart). THE CARD IS WHAT COUNTS. Prove the row's statement (the work); the ties are given (YtjalgcdbokciaaaGreatDoorTie.lean); close each card by the builder's one call (the guide's Derived/Test/ToyasCard.lean, 'card_holds'). Laid BY PROGRAM, IN A SANDBOX (cutbox-door.mjs). By AI agents, Wed Nov 11 2026. No macro, syntax, notation, axiom, sorry.
-/
import Derived.Test.YtjalgcdbokciaaaGreatDoorRows
import GoSem.ClaimSeven
namespace Go.Proofs.YtjalgcdbokciaaaGreatDoor
namespace Rows

/-- THE TIED CARD OF 'confluencelaw23.ReplicaNumbers'. -/
def replicaNumbersCard : Claim7 := { stood := { row := replicaNumbersRow, standIns := [], harness := (true, "e0540cb88c371fb874152a65ce68648ba924cce7416e9a598545a733466fdc4f"), looks := true }, kinds := [], alts := [], laidByText := true, laidKinds := [.data, .data, .data, .sentinel, .sentinel], laidTests := true, laidLooks := .later }
def ReplicaNumbersCardSaid : Prop := Claim7.holds Tryz.pinned (.plain (OpenSpec.ofChange replicaNumbersSpec)) replicaNumbersCard

/-- THE SECOND FORM's CARD OF 'confluencelaw23.ReplicaNumbers'. -/
def replicaNumbersUptoCard : Claim7 := { stood := { row := replicaNumbersUptoRow, standIns := [], harness := (true, "e0540cb88c371fb874152a65ce68648ba924cce7416e9a598545a733466fdc4f"), looks := true }, kinds := [], alts := [], laidByText := true, laidKinds := [.data, .data, .data, .sentinel, .sentinel], laidTests := true, laidLooks := .later }
def ReplicaNumbersUptoCardSaid : Prop := Claim7.holds Tryz.pinned (.plain (OpenSpec.upto replicaNumbersSpec)) replicaNumbersUptoCard
end Rows
end Go.Proofs.YtjalgcdbokciaaaGreatDoor
