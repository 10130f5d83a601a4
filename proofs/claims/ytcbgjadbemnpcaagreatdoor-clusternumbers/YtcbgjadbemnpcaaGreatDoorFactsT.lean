/- Closed facts of the row. Nothing is asked. -/
import Derived.Test.YtcbgjadbemnpcaaGreatDoorRows
import Derived.Test.YtcbgjadbemnpcaaGreatDoorCards
import Derived.SevenTiedAt
import Derived.KernelRfl
set_option linter.all false
namespace Go.Proofs.YtcbgjadbemnpcaaGreatDoor.clusterNumbers
open Go
set_option maxRecDepth 100000
theorem t1 : Rows.clusterNumbersRow.wfByText (OpenSpec.ofChange Rows.clusterNumbersSpec) = true := by kernel_rfl
theorem t2 : Tryz.prog.mainIs = some (((true, "47afd231a9a2c69caba6b140eb01c7f7fe867a49b7069549b218244132c67a02") : Bool × String).1, ((true, "47afd231a9a2c69caba6b140eb01c7f7fe867a49b7069549b218244132c67a02") : Bool × String).2.toList) := by kernel_rfl
theorem t3 : true = Tryz.prog.looks [] := by kernel_rfl
end Go.Proofs.YtcbgjadbemnpcaaGreatDoor.clusterNumbers
