/- Closed facts of the row. Nothing is asked. -/
import Derived.Test.YtlbakkmjljnbdaaGreatDoorRows
import Derived.Test.YtlbakkmjljnbdaaGreatDoorCards
import Derived.SevenTiedAt
import Derived.KernelRfl
set_option linter.all false
namespace Go.Proofs.YtlbakkmjljnbdaaGreatDoor.shellNumbers
open Go
set_option maxRecDepth 100000
theorem t1 : Rows.shellNumbersRow.wfByText (OpenSpec.ofChange Rows.shellNumbersSpec) = true := by kernel_rfl
theorem t2 : Tryz.prog.mainIs = some (((true, "218026bfe02469248057e901e9b5e5d98ffb9a228c3d3688063fb59fd8654cce") : Bool × String).1, ((true, "218026bfe02469248057e901e9b5e5d98ffb9a228c3d3688063fb59fd8654cce") : Bool × String).2.toList) := by kernel_rfl
theorem t3 : true = Tryz.prog.looks [] := by kernel_rfl
end Go.Proofs.YtlbakkmjljnbdaaGreatDoor.shellNumbers
