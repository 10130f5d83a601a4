/- Closed facts of the row. Nothing is asked. -/
import Derived.Test.YtfikinbodiohiaaGreatDoorRows
import Derived.JoinedOf
import Derived.KernelRfl
set_option linter.all false
namespace Go.Proofs.YtfikinbodiohiaaGreatDoor.flowNumbers
open Go
set_option maxRecDepth 100000
theorem j19:Tryz.f3.resultTypes.all (fun t=>Tryz.prog.readableRec t&&decide (t < Tryz.prog.types.size))=true:=by kernel_rfl
theorem j20:(Rows.flowNumbersRow.ifacesOut == Tryz.f3.resultTypes.toList.any (Tryz.prog.ifacesRec ·))=true:=by kernel_rfl
theorem j21:(Rows.flowNumbersRow.loopsOut == Tryz.f3.resultTypes.toList.any (Tryz.prog.loopsFrom ·))=true:=by kernel_rfl
theorem j22:(Rows.flowNumbersRow.plainKeys == Tryz.prog.plainKeys)=true:=by kernel_rfl
theorem j23:Rows.flowNumbersRow.shortTexts.isNone=true:=by kernel_rfl
theorem j24:Tryz.prog.stopsHeard=true:=by kernel_rfl
theorem j25:Tryz.prog.mayEnter=true:=by kernel_rfl
theorem j26:(Rows.flowNumbersRow.lifted == Tryz.prog.liftsFinal)=true:=by kernel_rfl
theorem j27:(Tryz.prog.make == some Rows.flowNumbersRow.make)=true:=by kernel_rfl
theorem j28:(Rows.flowNumbersRow.kinds == (if Rows.flowNumbersRow.domain.isEmpty then [] else Tryz.f3.params.toList.map fun t=>match Tryz.prog.underlying t with|some (.int k)=>some k|_=>none))=true:=by kernel_rfl
theorem j29:(Rows.flowNumbersRow.pinned == Rows.flowNumbersRow.pinnedBy)=true:=by kernel_rfl
theorem j30:(Rows.flowNumbersRow.veiled == (Tryz.f3.params.toList ++ Rows.flowNumbersSpec.plain.varTypes Tryz.prog ++ Tryz.f3.resultTypes.toList).any (Tryz.prog.veiledRec ·))=true:=by kernel_rfl
theorem j31:Rows.flowNumbersRow.veiledFits Tryz.prog Tryz.f3.params.toList (Tryz.f3.params.toList ++ Rows.flowNumbersSpec.plain.varTypes Tryz.prog ++ Tryz.f3.resultTypes.toList)=true:=by kernel_rfl
end Go.Proofs.YtfikinbodiohiaaGreatDoor.flowNumbers
