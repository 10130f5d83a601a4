/- Pieces of the closed run, whatever ways they may go. Nothing is asked. -/
import Derived.Test.YtpagaimbdhmegaaGreatDoorStates
import Derived.Test.YtpagaimbdhmegaaGreatDoorFast2
set_option linter.all false
namespace Go.Am.Seat
set_option maxRecDepth 1000000
noncomputable section
theorem RD:cD 7 (.nm Le FY) (rounds 2 (exec pg 1000000 oA) Lf (aY FZ))=true:=by decide +kernel
end
end Go.Am.Seat
