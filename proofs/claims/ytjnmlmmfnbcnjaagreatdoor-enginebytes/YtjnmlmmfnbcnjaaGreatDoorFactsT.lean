/- Closed facts of the row. Nothing is asked. -/
import Derived.Test.YtjnmlmmfnbcnjaaGreatDoorRows
import Derived.Test.YtjnmlmmfnbcnjaaGreatDoorCards
import Derived.SevenTiedAt
import Derived.KernelRfl
set_option linter.all false
namespace Go.Proofs.YtjnmlmmfnbcnjaaGreatDoor.engineBytes
open Go
set_option maxRecDepth 100000
theorem t1 : Rows.engineBytesUptoRow.wfByText (Rows.OpenSpec.upto Rows.engineBytesSpec) = true := by kernel_rfl
theorem t2 : Tryz.prog.mainIs = some (((true, "588dab7b5898d2b2608f12e1ae95488cda8c71f24c8958125aa4eaf5d5d55900") : Bool × String).1, ((true, "588dab7b5898d2b2608f12e1ae95488cda8c71f24c8958125aa4eaf5d5d55900") : Bool × String).2.toList) := by kernel_rfl
theorem t3 : true = Tryz.prog.looks [] := by kernel_rfl
end Go.Proofs.YtjnmlmmfnbcnjaaGreatDoor.engineBytes
