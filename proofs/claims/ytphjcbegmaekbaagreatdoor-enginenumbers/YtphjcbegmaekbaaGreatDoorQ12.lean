/- Pieces of the closed run, whatever ways they may go. Nothing is asked. -/
import Derived.Test.YtphjcbegmaekbaaGreatDoorStates
import Derived.Test.YtphjcbegmaekbaaGreatDoorPure
set_option linter.all false
namespace Go.Am.Seat
set_option maxRecDepth 1000000
noncomputable section
theorem Oq:fC pg XA=true:=by decide +kernel
theorem OE:fC pg XB=true:=by decide +kernel
theorem Ot:fC pg XC=true:=by decide +kernel
theorem OG:fC pg XD=true:=by decide +kernel
theorem Ou:fC pg XE=true:=by decide +kernel
theorem OH:fC pg XF=true:=by decide +kernel
theorem Ov:fC pg XG=true:=by decide +kernel
theorem OJ:fC pg XH=true:=by decide +kernel
def ajP:Pg:=(bq 96 (.fn (aQ (gK SC) (aQ (gK SD) (aQ (gK SE) (gK SF))))) (bq 50 (.fn (gK SB)) (bq 78 (.fn (aQ (gK Xq) (aQ (gK Xs) (aQ (gK Xu) (aQ (gK Xw) (aQ (gK Xy) (aQ (gK SH) (aQ (gK SI) (aQ (gK SJ) (aQ (gK SL) (aQ (gK SP) (aQ (gK XB) (aQ (gK XD) (aQ (gK XF) (gK XH))))))))))))))) (bq 41 (.fn (aQ (gK Xp) (aQ (gK Xr) (aQ (gK Xt) (aQ (gK Xv) (aQ (gK Xx) (aQ (gK SO) (aQ (gK XA) (aQ (gK XC) (aQ (gK XE) (gK XG))))))))))) (bq 34 (.fn (aQ (gK Xo) (gK SN))) (bq 33 (.fn (aQ (gK Xn) (gK SM))) (bq 138 (.fn (aQ (gK Xm) (gK SG))) (bq 123 (.fn (aQ (gK Xl) (gK Xz))) pg))))))))
theorem aoW:dt 7 (.nm akg akh) (rounds 2 (exec ajP 1000000 lL) ake (fK akf))=true:=by decide +kernel
theorem OK:fC pg WX=true:=by decide +kernel
theorem OO:fC pg WW=true:=by decide +kernel
theorem OQ:fC pg WS=true:=by decide +kernel
theorem OT:fC pg WT=true:=by decide +kernel
theorem OU:fC pg WU=true:=by decide +kernel
theorem OV:fC pg WV=true:=by decide +kernel
theorem OW:fC pg WR=true:=by decide +kernel
end
end Go.Am.Seat
