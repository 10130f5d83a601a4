/- Pieces of the closed run, whatever ways they may go. Nothing is asked. -/
import Derived.Test.YtfikinbodiohiaaGreatDoorStates
import Derived.Test.YtfikinbodiohiaaGreatDoorPure
set_option linter.all false
namespace Go.Am.Seat
set_option maxRecDepth 1000000
noncomputable section
theorem Wg:aB 7 (.nm Pf Ky) (rounds 3 (exec pg 1000000 dY) Pe (aN ue))=true:=by decide +kernel
theorem Wh:aB 7 (.nm Ph zT) (rounds 2 (exec pg 1000000 dY) Pf (aN Ky))=true:=by decide +kernel
theorem Wi:aB 7 (.nm Pj zT) (rounds 4 (exec pg 1000000 dY) Ph (aN zT))=true:=by decide +kernel
end
end Go.Am.Seat
