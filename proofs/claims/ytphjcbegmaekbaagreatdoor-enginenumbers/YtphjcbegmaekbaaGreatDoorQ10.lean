/- Pieces of the closed run, whatever ways they may go. Nothing is asked. -/
import Derived.Test.YtphjcbegmaekbaaGreatDoorStates
import Derived.Test.YtphjcbegmaekbaaGreatDoorPure
set_option linter.all false
namespace Go.Am.Seat
set_option maxRecDepth 1000000
noncomputable section
theorem Oa:fC pg Xi=true:=by decide +kernel
theorem Oc:fC pg Xj=true:=by decide +kernel
theorem Ob:fC pg Xk=true:=by decide +kernel
def ajO:Pg:=(bq 41 (.fn (aQ (gK Ur) (aQ (gK Ut) (aQ (gK Uv) (aQ (gK Ux) (gK Xj)))))) (bq 34 (.fn (gK Uq)) (bq 33 (.fn (gK Up)) (bq 78 (.fn (aQ (gK Uk) (aQ (gK Ul) (aQ (gK Um) (aQ (gK Un) (aQ (gK Uo) (aQ (gK Us) (aQ (gK Uu) (aQ (gK Uw) (aQ (gK Xi) (gK Xk))))))))))) (bq 138 (.fn (gK Uj)) (bq 96 (.fn (aQ (gK Tv) (aQ (gK Tw) (aQ (gK Tx) (aQ (gK Ty) (gK Ui)))))) (bq 50 (.fn (gK Tu)) (bq 123 (.fn (gK Tt)) pg))))))))
theorem aoV:dt 7 (.nm ake akf) (rounds 1 (exec ajO 1000000 lL) ahw (fK ahx))=true:=by decide +kernel
theorem Od:fC pg Xl=true:=by decide +kernel
theorem Og:fC pg Xm=true:=by decide +kernel
theorem Oh:fC pg Xn=true:=by decide +kernel
theorem Oi:fC pg Xo=true:=by decide +kernel
theorem Oj:fC pg Xp=true:=by decide +kernel
theorem Ow:fC pg Xq=true:=by decide +kernel
theorem Ok:fC pg Xr=true:=by decide +kernel
theorem Ox:fC pg Xs=true:=by decide +kernel
theorem Ol:fC pg Xt=true:=by decide +kernel
theorem Oy:fC pg Xu=true:=by decide +kernel
theorem Om:fC pg Xv=true:=by decide +kernel
theorem Oz:fC pg Xw=true:=by decide +kernel
theorem Oo:fC pg Xx=true:=by decide +kernel
theorem OD:fC pg Xy=true:=by decide +kernel
theorem Oe:fC pg Xz=true:=by decide +kernel
end
end Go.Am.Seat
