/- Pieces of the closed run, whatever ways they may go. Nothing is asked. -/
import Derived.Test.YtphjcbegmaekbaaGreatDoorStates
import Derived.Test.YtphjcbegmaekbaaGreatDoorPure
set_option linter.all false
namespace Go.Am.Seat
set_option maxRecDepth 1000000
noncomputable section
theorem MB:fC pg Wq=true:=by decide +kernel
theorem My:fC pg Wr=true:=by decide +kernel
theorem MC:fC pg Ws=true:=by decide +kernel
theorem Mz:fC pg Wt=true:=by decide +kernel
theorem MD:fC pg Wu=true:=by decide +kernel
theorem MA:fC pg Wv=true:=by decide +kernel
def ajL:Pg:=(bq 41 (.fn (aQ (gK Sx) (aQ (gK Sz) (aQ (gK Wq) (aQ (gK Ws) (gK Wu)))))) (bq 34 (.fn (gK Sw)) (bq 33 (.fn (gK Sv)) (bq 78 (.fn (aQ (gK anx) (aQ (gK anz) (aQ (gK Sq) (aQ (gK Ss) (aQ (gK Su) (aQ (gK Sy) (aQ (gK SA) (aQ (gK Wr) (aQ (gK Wt) (gK Wv))))))))))) (bq 138 (.fn (gK anw)) (bq 96 (.fn (aQ (gK anr) (aQ (gK ans) (aQ (gK ant) (aQ (gK anu) (gK anv)))))) (bq 50 (.fn (gK anq)) (bq 123 (.fn (gK anp)) pg))))))))
theorem aoS:dt 7 (.nm aka akb) (rounds 1 (exec ajL 1000000 lL) ahh (fK ahi))=true:=by decide +kernel
theorem ME:fC pg UZ=true:=by decide +kernel
theorem MF:fC pg UY=true:=by decide +kernel
theorem MG:fC pg US=true:=by decide +kernel
theorem MH:fC pg UT=true:=by decide +kernel
theorem MI:fC pg UU=true:=by decide +kernel
theorem MJ:fC pg UW=true:=by decide +kernel
theorem MK:fC pg UX=true:=by decide +kernel
theorem ML:fC pg UR=true:=by decide +kernel
theorem MM:fC pg UM=true:=by decide +kernel
theorem MN:fC pg UN=true:=by decide +kernel
theorem MO:fC pg UO=true:=by decide +kernel
theorem MP:fC pg UP=true:=by decide +kernel
theorem MQ:fC pg UQ=true:=by decide +kernel
theorem MX:fC pg UL=true:=by decide +kernel
end
end Go.Am.Seat
