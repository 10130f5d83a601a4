/- Closed facts of the row. Nothing is asked. -/
import Derived.Test.YtphjcbegmaekbaaGreatDoorRows
import Derived.JoinedOf
import Derived.KernelRfl
set_option linter.all false
namespace Go.Proofs.YtphjcbegmaekbaaGreatDoor.engineNumbers
open Go
set_option maxRecDepth 100000
theorem j19:Tryz.f3.resultTypes.all (fun t=>Tryz.prog.readableRec t&&decide (t < Tryz.prog.types.size))=true:=by kernel_rfl
theorem j20:(Rows.engineNumbersRow.ifacesOut == Tryz.f3.resultTypes.toList.any (Tryz.prog.ifacesRec ·))=true:=by kernel_rfl
theorem j21:(Rows.engineNumbersRow.loopsOut == Tryz.f3.resultTypes.toList.any (Tryz.prog.loopsFrom ·))=true:=by kernel_rfl
theorem j22:(Rows.engineNumbersRow.plainKeys == Tryz.prog.plainKeys)=true:=by kernel_rfl
theorem j23:Rows.engineNumbersRow.shortTexts.isNone=true:=by kernel_rfl
theorem j24:Tryz.prog.stopsHeard=true:=by kernel_rfl
theorem j25:Tryz.prog.mayEnter=true:=by kernel_rfl
theorem j26:(Rows.engineNumbersRow.lifted == Tryz.prog.liftsFinal)=true:=by kernel_rfl
theorem j27:(Tryz.prog.make == some Rows.engineNumbersRow.make)=true:=by kernel_rfl
theorem j28:(Rows.engineNumbersRow.kinds == (if Rows.engineNumbersRow.domain.isEmpty then [] else Tryz.f3.params.toList.map fun t=>match Tryz.prog.underlying t with|some (.int k)=>some k|_=>none))=true:=by kernel_rfl
theorem j29:(Rows.engineNumbersRow.pinned == Rows.engineNumbersRow.pinnedBy)=true:=by kernel_rfl
theorem j30:(Rows.engineNumbersRow.veiled == (Tryz.f3.params.toList ++ Rows.engineNumbersSpec.plain.varTypes Tryz.prog ++ Tryz.f3.resultTypes.toList).any (Tryz.prog.veiledRec ·))=true:=by kernel_rfl
theorem j31:Rows.engineNumbersRow.veiledFits Tryz.prog Tryz.f3.params.toList (Tryz.f3.params.toList ++ Rows.engineNumbersSpec.plain.varTypes Tryz.prog ++ Tryz.f3.resultTypes.toList)=true:=by kernel_rfl
end Go.Proofs.YtphjcbegmaekbaaGreatDoor.engineNumbers
