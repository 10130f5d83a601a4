/- Pieces of the closed run, whatever ways they may go. Nothing is asked. -/
import Derived.Test.YtphjcbegmaekbaaGreatDoorStates
import Derived.Test.YtphjcbegmaekbaaGreatDoorPure
set_option linter.all false
namespace Go.Am.Seat
set_option maxRecDepth 1000000
noncomputable section
theorem KX:fC pg SQ=true:=by decide +kernel
theorem KY:fC pg SR=true:=by decide +kernel
theorem KZ:fC pg SS=true:=by decide +kernel
theorem La:fC pg SU=true:=by decide +kernel
theorem Lb:fC pg SV=true:=by decide +kernel
theorem Lc:fC pg SX=true:=by decide +kernel
theorem Ld:fC pg SY=true:=by decide +kernel
theorem Le:fC pg SZ=true:=by decide +kernel
theorem Lf:fC pg Ta=true:=by decide +kernel
def ahv:Pg:=(bq 41 (.fn (aQ (gK Tb) (aQ (gK SR) (aQ (gK SU) (aQ (gK SX) (gK SZ)))))) (bq 34 (.fn (gK Tc)) (bq 33 (.fn (gK Td)) (bq 78 (.fn (aQ (gK Te) (aQ (gK Tf) (aQ (gK Th) (aQ (gK Ti) (aQ (gK Tj) (aQ (gK SQ) (aQ (gK SS) (aQ (gK SV) (aQ (gK SY) (gK Ta))))))))))) (bq 138 (.fn (gK Tk)) (bq 96 (.fn (aQ (gK Tl) (aQ (gK Tm) (aQ (gK Tn) (aQ (gK Tp) (gK Tq)))))) (bq 50 (.fn (gK Tr)) (bq 123 (.fn (gK Ts)) pg))))))))
theorem anA:dt 7 (.nm ahw ahx) (rounds 1 (exec ahv 1000000 lL) ahy (fK ahz))=true:=by decide +kernel
theorem Lh:fC pg Tt=true:=by decide +kernel
theorem Li:fC pg Tu=true:=by decide +kernel
theorem Lj:fC pg Tv=true:=by decide +kernel
theorem Lk:fC pg Tw=true:=by decide +kernel
theorem Ll:fC pg Tx=true:=by decide +kernel
theorem Lm:fC pg Ty=true:=by decide +kernel
end
end Go.Am.Seat
