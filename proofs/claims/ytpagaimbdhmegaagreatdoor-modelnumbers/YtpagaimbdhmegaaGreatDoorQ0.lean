/- Pieces of the closed run, whatever ways they may go. Nothing is asked. -/
import Derived.Test.YtpagaimbdhmegaaGreatDoorStates
import Derived.Test.YtpagaimbdhmegaaGreatDoorFast2
set_option linter.all false
namespace Go.Am.Seat
set_option maxRecDepth 1000000
noncomputable section
theorem Xk:cD 7 (.nm WB Ll) (exec pg 1000000 Yd .nil (Kl 7 1 (Eu 474 .u64 Cc)))=true:=by decide +kernel
theorem Xl:cD 7 (.nm WC We) (exec pg 1000000 Ye WB (aY Ll))=true:=by decide +kernel
theorem Xm:cD 7 (.nm WD Lm) (exec pg 1000000 Yf WC (aY We))=true:=by decide +kernel
theorem Xn:cD 7 (.nm WE Lm) (exec pg 1000000 Yg WD (aY Lm))=true:=by decide +kernel
theorem Xo:cD 7 (.nm WG Rq) (exec pg 1000000 Yh WE (aY Lm))=true:=by decide +kernel
theorem Xp:cD 7 (.nm WH Rq) (exec pg 1000000 Yi WG (aY Rq))=true:=by decide +kernel
theorem Xq:cD 7 (.nm WI Wf) (rounds 6 (exec pg 1000000 oA) WH (aY Rq))=true:=by decide +kernel
theorem Xr:cD 7 (.nm WJ Wg) (rounds 1 (exec pg 1000000 oA) WI (aY Wf))=true:=by decide +kernel
theorem Xs:cD 7 (.nm WK Wh) (rounds 1 (exec pg 1000000 oA) WJ (aY Wg))=true:=by decide +kernel
end
end Go.Am.Seat
