/- Closed facts of the row. Nothing is asked. -/
import Derived.Test.YtldbgpadimkeeaaGreatDoorRows
import Derived.Test.YtldbgpadimkeeaaGreatDoorCards
import Derived.SevenTiedAt
import Derived.KernelRfl
set_option linter.all false
namespace Go.Proofs.YtldbgpadimkeeaaGreatDoor.shellReads
open Go
set_option maxRecDepth 100000
theorem t1 : Rows.shellReadsUptoRow.wfByText (Rows.OpenSpec.upto Rows.shellReadsSpec) = true := by kernel_rfl
theorem t2 : Tryz.prog.mainIs = some (((true, "9e1ab7704a21855be79189e7beebfb0792500ace87ed66341dcfa8d65b485245") : Bool × String).1, ((true, "9e1ab7704a21855be79189e7beebfb0792500ace87ed66341dcfa8d65b485245") : Bool × String).2.toList) := by kernel_rfl
theorem t3 : true = Tryz.prog.looks [] := by kernel_rfl
end Go.Proofs.YtldbgpadimkeeaaGreatDoor.shellReads
