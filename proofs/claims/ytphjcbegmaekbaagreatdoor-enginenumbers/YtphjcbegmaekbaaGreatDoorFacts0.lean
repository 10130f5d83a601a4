/- Closed facts of the row. Nothing is asked. -/
import Derived.Test.YtphjcbegmaekbaaGreatDoorRows
import Derived.JoinedOf
import Derived.KernelRfl
set_option linter.all false
namespace Go.Proofs.YtphjcbegmaekbaaGreatDoor.engineNumbers
open Go
set_option maxRecDepth 100000
theorem j0:Rows.engineNumbersRow.wf (OpenSpec.ofChange Rows.engineNumbersSpec)=true:=by kernel_rfl
theorem j2:mapsRowed Tryz.prog=true:=by kernel_rfl
theorem j3:Tryz.f3.params.all (Tryz.prog.readableRec ·)=true:=by kernel_rfl
theorem j4:namedTie Tryz.prog Rows.engineNumbersRow.named Rows.engineNumbersSpec.vars=true:=by kernel_rfl
theorem j5:(Rows.engineNumbersRow.stops == [])=true:=by kernel_rfl
theorem j6:(Tryz.prog.stops == [])=true:=by kernel_rfl
theorem j7:(Rows.engineNumbersRow.knobs == [])=true:=by kernel_rfl
theorem j8:(Tryz.prog.stopKnobs == [])=true:=by kernel_rfl
theorem j13:(Rows.engineNumbersRow.maps == (Tryz.f3.params.toList ++ Rows.engineNumbersSpec.plain.varTypes Tryz.prog).any (Tryz.prog.mapsRec ·))=true:=by kernel_rfl
theorem j14:(Rows.engineNumbersRow.ifaces == (Tryz.f3.params.toList ++ Rows.engineNumbersSpec.plain.varTypes Tryz.prog).any (Tryz.prog.ifacesRec ·))=true:=by kernel_rfl
theorem j15:(Rows.engineNumbersRow.mapsOut == Tryz.prog.mapsAmong Tryz.f3.resultTypes.toList)=true:=by kernel_rfl
theorem j16:(Rows.engineNumbersRow.loops == (Tryz.f3.params.toList ++ Rows.engineNumbersSpec.plain.varTypes Tryz.prog).any (Tryz.prog.loopsFrom ·))=true:=by kernel_rfl
theorem j17:(Rows.engineNumbersRow.wideKeys == (Tryz.f3.params.toList ++ Rows.engineNumbersSpec.plain.varTypes Tryz.prog ++ Tryz.f3.resultTypes.toList).any (Tryz.prog.wideKeysFrom ·))=true:=by kernel_rfl
theorem j18:Rows.engineNumbersSpec.vars.all (Tryz.prog.varReadable ·)=true:=by kernel_rfl
end Go.Proofs.YtphjcbegmaekbaaGreatDoor.engineNumbers
