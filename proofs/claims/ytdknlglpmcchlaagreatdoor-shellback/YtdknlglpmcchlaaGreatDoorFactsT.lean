/- Closed facts of the row. Nothing is asked. -/
import Derived.Test.YtdknlglpmcchlaaGreatDoorRows
import Derived.Test.YtdknlglpmcchlaaGreatDoorCards
import Derived.SevenTiedAt
import Derived.KernelRfl
set_option linter.all false
namespace Go.Proofs.YtdknlglpmcchlaaGreatDoor.shellBack
open Go
set_option maxRecDepth 100000
theorem t1 : Rows.shellBackUptoRow.wfByText (Rows.OpenSpec.upto Rows.shellBackSpec) = true := by kernel_rfl
theorem t2 : Tryz.prog.mainIs = some (((true, "d67ede3d7de1cbf0dfcad3de0ca6af7b771f6d8abf8ece302d036c74bf51e801") : Bool × String).1, ((true, "d67ede3d7de1cbf0dfcad3de0ca6af7b771f6d8abf8ece302d036c74bf51e801") : Bool × String).2.toList) := by kernel_rfl
theorem t3 : true = Tryz.prog.looks [] := by kernel_rfl
end Go.Proofs.YtdknlglpmcchlaaGreatDoor.shellBack
