/- Closed facts of the row. Nothing is asked. -/
import Derived.Test.YtphmndbbekchbaaGreatDoorRows
import Derived.JoinedOf
import Derived.KernelRfl
set_option linter.all false
namespace Go.Proofs.YtphmndbbekchbaaGreatDoor.calmNumbers
open Go
set_option maxRecDepth 100000
theorem j0 : Rows.calmNumbersRow.wf (OpenSpec.ofChange Rows.calmNumbersSpec) = true := by kernel_rfl
theorem j2 : mapsRowed Tryz.prog = true := by kernel_rfl
theorem j3 : Tryz.f3.params.all (Tryz.prog.readableRec ·) = true := by kernel_rfl
theorem j4 : namedTie Tryz.prog Rows.calmNumbersRow.named Rows.calmNumbersSpec.vars = true := by kernel_rfl
theorem j5 : (Rows.calmNumbersRow.stops == []) = true := by kernel_rfl
theorem j6 : (Tryz.prog.stops == []) = true := by kernel_rfl
theorem j7 : (Rows.calmNumbersRow.knobs == []) = true := by kernel_rfl
theorem j8 : (Tryz.prog.stopKnobs == []) = true := by kernel_rfl
theorem j13 : (Rows.calmNumbersRow.maps == (Tryz.f3.params.toList ++ Rows.calmNumbersSpec.plain.varTypes Tryz.prog).any (Tryz.prog.mapsRec ·)) = true := by kernel_rfl
theorem j14 : (Rows.calmNumbersRow.ifaces == (Tryz.f3.params.toList ++ Rows.calmNumbersSpec.plain.varTypes Tryz.prog).any (Tryz.prog.ifacesRec ·)) = true := by kernel_rfl
theorem j15 : (Rows.calmNumbersRow.mapsOut == Tryz.prog.mapsAmong Tryz.f3.resultTypes.toList) = true := by kernel_rfl
theorem j16 : (Rows.calmNumbersRow.loops == (Tryz.f3.params.toList ++ Rows.calmNumbersSpec.plain.varTypes Tryz.prog).any (Tryz.prog.loopsFrom ·)) = true := by kernel_rfl
theorem j17 : (Rows.calmNumbersRow.wideKeys == (Tryz.f3.params.toList ++ Rows.calmNumbersSpec.plain.varTypes Tryz.prog ++ Tryz.f3.resultTypes.toList).any (Tryz.prog.wideKeysFrom ·)) = true := by kernel_rfl
theorem j18 : Rows.calmNumbersSpec.vars.all (Tryz.prog.varReadable ·) = true := by kernel_rfl
end Go.Proofs.YtphmndbbekchbaaGreatDoor.calmNumbers
