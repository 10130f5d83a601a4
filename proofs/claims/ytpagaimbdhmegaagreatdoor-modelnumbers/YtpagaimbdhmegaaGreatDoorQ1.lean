/- Pieces of the closed run, whatever ways they may go. Nothing is asked. -/
import Derived.Test.YtpagaimbdhmegaaGreatDoorStates
import Derived.Test.YtpagaimbdhmegaaGreatDoorFast2
set_option linter.all false
namespace Go.Am.Seat
set_option maxRecDepth 1000000
noncomputable section
theorem VC:cD 7 (.nm WL Wi) (rounds 1 (exec pg 1000000 oA) WK (aY Wh))=true:=by decide +kernel
theorem VD:cD 7 (.nm Ln Gc) (rounds 1 (exec pg 1000000 oA) WL (aY Wi))=true:=by decide +kernel
end
end Go.Am.Seat
