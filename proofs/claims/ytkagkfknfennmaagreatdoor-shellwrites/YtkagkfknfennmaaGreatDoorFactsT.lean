/- Closed facts of the row. Nothing is asked. -/
import Derived.Test.YtkagkfknfennmaaGreatDoorRows
import Derived.Test.YtkagkfknfennmaaGreatDoorCards
import Derived.SevenTiedAt
import Derived.KernelRfl
set_option linter.all false
namespace Go.Proofs.YtkagkfknfennmaaGreatDoor.shellWrites
open Go
set_option maxRecDepth 100000
theorem t1 : Rows.shellWritesUptoRow.wfByText (Rows.OpenSpec.upto Rows.shellWritesSpec) = true := by kernel_rfl
theorem t2 : Tryz.prog.mainIs = some (((true, "dd24321dfb2a47279d2b08bbd5dfa73d802f4089d38d2a2722d3c8e07cf96cac") : Bool × String).1, ((true, "dd24321dfb2a47279d2b08bbd5dfa73d802f4089d38d2a2722d3c8e07cf96cac") : Bool × String).2.toList) := by kernel_rfl
theorem t3 : true = Tryz.prog.looks [] := by kernel_rfl
end Go.Proofs.YtkagkfknfennmaaGreatDoor.shellWrites
