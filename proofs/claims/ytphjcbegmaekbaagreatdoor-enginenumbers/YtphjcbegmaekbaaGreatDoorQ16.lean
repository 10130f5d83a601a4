/- Pieces of the closed run, whatever ways they may go. Nothing is asked. -/
import Derived.Test.YtphjcbegmaekbaaGreatDoorStates
import Derived.Test.YtphjcbegmaekbaaGreatDoorPure
set_option linter.all false
namespace Go.Am.Seat
set_option maxRecDepth 1000000
noncomputable section
theorem PU:fC pg Xc=true:=by decide +kernel
theorem PV:fC pg Xd=true:=by decide +kernel
theorem PX:fC pg Xe=true:=by decide +kernel
theorem PY:fC pg Xf=true:=by decide +kernel
theorem PW:fC pg Xg=true:=by decide +kernel
theorem PZ:fC pg Xh=true:=by decide +kernel
def ajS:Pg:=(bq 41 (.fn (gK Xh)) (bq 50 (.fn (gK Xf)) (bq 123 (.fn (gK Xe)) (bq 96 (.fn (aQ (gK Xd) (gK Xg))) (bq 95 (.fn (gK Xc)) (bq 87 (.fn (gK VY)) (bq 18 (.fn (aQ (gK VW) (gK VX))) pg)))))))
theorem apb:dt 7 (.ret aoL Qa) (exec ajS 1000000 amK ajT (fK Qa))=true:=by decide +kernel
end
end Go.Am.Seat
