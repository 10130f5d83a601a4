/- Pieces of the closed run, whatever ways they may go. Nothing is asked. -/
import Derived.Test.YtfikinbodiohiaaGreatDoorStates
import Derived.Test.YtfikinbodiohiaaGreatDoorPure
set_option linter.all false
namespace Go.Am.Seat
set_option maxRecDepth 1000000
noncomputable section
theorem WM:aB 7 (.nm Qi zV) (rounds 3 (exec pg 1000000 dY) Qh (aN KI))=true:=by decide +kernel
theorem WN:aB 7 (.nm Qj zV) (rounds 4 (exec pg 1000000 dY) Qi (aN zV))=true:=by decide +kernel
end
end Go.Am.Seat
