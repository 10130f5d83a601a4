/- Pieces of the closed run, whatever ways they may go. Nothing is asked. -/
import Derived.Test.YtphjcbegmaekbaaGreatDoorStates
import Derived.Test.YtphjcbegmaekbaaGreatDoorPure
set_option linter.all false
namespace Go.Am.Seat
set_option maxRecDepth 1000000
noncomputable section
theorem Nn:fC pg Wy=true:=by decide +kernel
theorem Np:fC pg Wz=true:=by decide +kernel
theorem Nq:fC pg WA=true:=by decide +kernel
theorem Nr:fC pg WB=true:=by decide +kernel
theorem Ns:fC pg WC=true:=by decide +kernel
theorem Ny:fC pg WD=true:=by decide +kernel
theorem Nz:fC pg WE=true:=by decide +kernel
theorem NA:fC pg WG=true:=by decide +kernel
theorem Nt:fC pg WH=true:=by decide +kernel
theorem NC:fC pg WI=true:=by decide +kernel
theorem Nu:fC pg WJ=true:=by decide +kernel
theorem ND:fC pg WK=true:=by decide +kernel
theorem Nv:fC pg WL=true:=by decide +kernel
theorem NF:fC pg WM=true:=by decide +kernel
theorem Nw:fC pg WN=true:=by decide +kernel
theorem NG:fC pg WO=true:=by decide +kernel
theorem Nx:fC pg WQ=true:=by decide +kernel
def ajN:Pg:=(bq 41 (.fn (aQ (gK WG) (aQ (gK WI) (aQ (gK WK) (aQ (gK WM) (gK WO)))))) (bq 34 (.fn (gK WE)) (bq 33 (.fn (gK WD)) (bq 78 (.fn (aQ (gK Wy) (aQ (gK Wz) (aQ (gK WA) (aQ (gK WB) (aQ (gK WC) (aQ (gK WH) (aQ (gK WJ) (aQ (gK WL) (aQ (gK WN) (gK WQ))))))))))) (bq 138 (.fn (gK Vh)) (bq 96 (.fn (aQ (gK Vc) (aQ (gK Vd) (aQ (gK Ve) (aQ (gK Vf) (gK Vg)))))) (bq 50 (.fn (gK Vb)) (bq 123 (.fn (gK Va)) pg))))))))
theorem aoU:dt 7 (.nm ahy ahz) (rounds 1 (exec ajN 1000000 lL) akc (fK akd))=true:=by decide +kernel
end
end Go.Am.Seat
