/- Pieces of the closed run, whatever ways they may go. Nothing is asked. -/
import Derived.Test.YtpagaimbdhmegaaGreatDoorStates
import Derived.Test.YtpagaimbdhmegaaGreatDoorFast2
set_option linter.all false
namespace Go.Am.Seat
set_option maxRecDepth 1000000
noncomputable section
theorem TN:cD 7 (.nm Li Ga) (rounds 1 (exec pg 1000000 oA) Ln (aY Gc))=true:=by decide +kernel
end
end Go.Am.Seat
