/- Closed facts of the row. Nothing is asked. -/
import Derived.Test.YtjalgcdbokciaaaGreatDoorRows
import Derived.Test.YtjalgcdbokciaaaGreatDoorCards
import Derived.SevenTiedAt
import Derived.KernelRfl
set_option linter.all false
namespace Go.Proofs.YtjalgcdbokciaaaGreatDoor.replicaNumbers
open Go
set_option maxRecDepth 100000
theorem t1 : Rows.replicaNumbersRow.wfByText (OpenSpec.ofChange Rows.replicaNumbersSpec) = true := by kernel_rfl
theorem t2 : Tryz.prog.mainIs = some (((true, "e0540cb88c371fb874152a65ce68648ba924cce7416e9a598545a733466fdc4f") : Bool × String).1, ((true, "e0540cb88c371fb874152a65ce68648ba924cce7416e9a598545a733466fdc4f") : Bool × String).2.toList) := by kernel_rfl
theorem t3 : true = Tryz.prog.looks [] := by kernel_rfl
end Go.Proofs.YtjalgcdbokciaaaGreatDoor.replicaNumbers
