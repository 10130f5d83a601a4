/- Closed facts of the row. Nothing is asked. -/
import Derived.Test.YtphjcbegmaekbaaGreatDoorRows
import Derived.Test.YtphjcbegmaekbaaGreatDoorCards
import Derived.SevenTiedAt
import Derived.KernelRfl
set_option linter.all false
namespace Go.Proofs.YtphjcbegmaekbaaGreatDoor.engineNumbers
open Go
set_option maxRecDepth 100000
theorem t1:Rows.engineNumbersRow.wfByText (OpenSpec.ofChange Rows.engineNumbersSpec)=true:=by kernel_rfl
theorem t2:Tryz.prog.mainIs=some (((true, "4973083c1bf9a217d7d0e56c06dadcc18f8cfd9dcada5daa77eeb03e9f73a8ea"):Bool×String).1,((true, "4973083c1bf9a217d7d0e56c06dadcc18f8cfd9dcada5daa77eeb03e9f73a8ea"):Bool×String).2.toList):=by kernel_rfl
theorem t3:true=Tryz.prog.looks []:=by kernel_rfl
end Go.Proofs.YtphjcbegmaekbaaGreatDoor.engineNumbers
