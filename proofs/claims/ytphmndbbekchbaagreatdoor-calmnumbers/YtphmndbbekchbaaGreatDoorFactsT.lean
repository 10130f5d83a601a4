/- Closed facts of the row. Nothing is asked. -/
import Derived.Test.YtphmndbbekchbaaGreatDoorRows
import Derived.Test.YtphmndbbekchbaaGreatDoorCards
import Derived.SevenTiedAt
import Derived.KernelRfl
set_option linter.all false
namespace Go.Proofs.YtphmndbbekchbaaGreatDoor.calmNumbers
open Go
set_option maxRecDepth 100000
theorem t1 : Rows.calmNumbersRow.wfByText (OpenSpec.ofChange Rows.calmNumbersSpec) = true := by kernel_rfl
theorem t2 : Tryz.prog.mainIs = some (((true, "715231547d2e679063c596a3dc2a01162bffdc77881a3b16b7d4b72e31269b17") : Bool × String).1, ((true, "715231547d2e679063c596a3dc2a01162bffdc77881a3b16b7d4b72e31269b17") : Bool × String).2.toList) := by kernel_rfl
theorem t3 : true = Tryz.prog.looks [] := by kernel_rfl
end Go.Proofs.YtphmndbbekchbaaGreatDoor.calmNumbers
