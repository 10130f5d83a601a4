/- Closed facts of the row. Nothing is asked. -/
import Derived.Test.YtfikinbodiohiaaGreatDoorRows
import Derived.Test.YtfikinbodiohiaaGreatDoorCards
import Derived.SevenTiedAt
import Derived.KernelRfl
set_option linter.all false
namespace Go.Proofs.YtfikinbodiohiaaGreatDoor.flowNumbers
open Go
set_option maxRecDepth 100000
theorem t1:Rows.flowNumbersRow.wfByText (OpenSpec.ofChange Rows.flowNumbersSpec)=true:=by kernel_rfl
theorem t2:Tryz.prog.mainIs=some (((true, "d2d28bba40149e68a6ca5e2bf787d87b18e527208148b73cb84fa43cee036323"):Bool×String).1,((true, "d2d28bba40149e68a6ca5e2bf787d87b18e527208148b73cb84fa43cee036323"):Bool×String).2.toList):=by kernel_rfl
theorem t3:true=Tryz.prog.looks []:=by kernel_rfl
end Go.Proofs.YtfikinbodiohiaaGreatDoor.flowNumbers
