/- Closed facts of the row. Nothing is asked. -/
import Derived.Test.YtldbgpadimkeeaaGreatDoorRows
import Derived.JoinedOf
import Derived.KernelRfl
set_option linter.all false
namespace Go.Proofs.YtldbgpadimkeeaaGreatDoor.shellReads
open Go
set_option maxRecDepth 100000
theorem j0 : Rows.shellReadsUptoRow.wf (OpenSpec.ofChange Rows.shellReadsSpec) = true := by kernel_rfl
theorem j2 : mapsRowed Tryz.prog = true := by kernel_rfl
theorem j3 : Tryz.f3.params.all (Tryz.prog.readableRec ·) = true := by kernel_rfl
theorem j4 : namedTie Tryz.prog Rows.shellReadsUptoRow.named Rows.shellReadsSpec.vars = true := by kernel_rfl
theorem j5 : (Rows.shellReadsUptoRow.stops == []) = true := by kernel_rfl
theorem j6 : (Tryz.prog.stops == []) = true := by kernel_rfl
theorem j7 : (Rows.shellReadsUptoRow.knobs == []) = true := by kernel_rfl
theorem j8 : (Tryz.prog.stopKnobs == []) = true := by kernel_rfl
theorem j13 : (Rows.shellReadsUptoRow.maps == (Tryz.f3.params.toList ++ Rows.shellReadsSpec.plain.varTypes Tryz.prog).any (Tryz.prog.mapsRec ·)) = true := by kernel_rfl
theorem j14 : (Rows.shellReadsUptoRow.ifaces == (Tryz.f3.params.toList ++ Rows.shellReadsSpec.plain.varTypes Tryz.prog).any (Tryz.prog.ifacesRec ·)) = true := by kernel_rfl
theorem j15 : (Rows.shellReadsUptoRow.mapsOut == Tryz.prog.mapsAmong Tryz.f3.resultTypes.toList) = true := by kernel_rfl
theorem j16 : (Rows.shellReadsUptoRow.loops == (Tryz.f3.params.toList ++ Rows.shellReadsSpec.plain.varTypes Tryz.prog).any (Tryz.prog.loopsFrom ·)) = true := by kernel_rfl
theorem j17 : (Rows.shellReadsUptoRow.wideKeys == (Tryz.f3.params.toList ++ Rows.shellReadsSpec.plain.varTypes Tryz.prog ++ Tryz.f3.resultTypes.toList).any (Tryz.prog.wideKeysFrom ·)) = true := by kernel_rfl
theorem j18 : Rows.shellReadsSpec.vars.all (Tryz.prog.varReadable ·) = true := by kernel_rfl
end Go.Proofs.YtldbgpadimkeeaaGreatDoor.shellReads
