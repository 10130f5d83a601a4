/- Closed facts of the row. Nothing is asked. -/
import Derived.Test.YtajgibhgkfombaaGreatDoorRows
import Derived.Test.YtajgibhgkfombaaGreatDoorCards
import Derived.SevenTiedAt
import Derived.KernelRfl
set_option linter.all false
namespace Go.Proofs.YtajgibhgkfombaaGreatDoor.calmIdle
open Go
set_option maxRecDepth 100000
theorem t1 : Rows.calmIdleRow.wfByText (OpenSpec.ofChange Rows.calmIdleSpec) = true := by kernel_rfl
theorem t2 : Tryz.prog.mainIs = some (((true, "5cd94151f9ffe448294b0c478baea43b6d17f53e964f0bcad77893722f084f6b") : Bool × String).1, ((true, "5cd94151f9ffe448294b0c478baea43b6d17f53e964f0bcad77893722f084f6b") : Bool × String).2.toList) := by kernel_rfl
theorem t3 : true = Tryz.prog.looks [] := by kernel_rfl
end Go.Proofs.YtajgibhgkfombaaGreatDoor.calmIdle
