/- Closed facts of the row. Nothing is asked. -/
import Derived.Test.YtpagaimbdhmegaaGreatDoorRows
import Derived.Test.YtpagaimbdhmegaaGreatDoorCards
import Derived.SevenTiedAt
import Derived.KernelRfl
set_option linter.all false
namespace Go.Proofs.YtpagaimbdhmegaaGreatDoor.modelNumbers
open Go
set_option maxRecDepth 100000
theorem t1:Rows.modelNumbersRow.wfByText (OpenSpec.ofChange Rows.modelNumbersSpec)=true:=by kernel_rfl
theorem t2:Tryz.prog.mainIs=some (((true, "a9c75a0b72107a60fbe6db576c4eeddc189c1c3969378c6cd7521955eae168d2"):Bool×String).1,((true, "a9c75a0b72107a60fbe6db576c4eeddc189c1c3969378c6cd7521955eae168d2"):Bool×String).2.toList):=by kernel_rfl
theorem t3:true=Tryz.prog.looks []:=by kernel_rfl
end Go.Proofs.YtpagaimbdhmegaaGreatDoor.modelNumbers
