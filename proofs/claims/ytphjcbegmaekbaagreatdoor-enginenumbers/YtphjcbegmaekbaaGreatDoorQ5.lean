/- Pieces of the closed run, whatever ways they may go. Nothing is asked. -/
import Derived.Test.YtphjcbegmaekbaaGreatDoorStates
import Derived.Test.YtphjcbegmaekbaaGreatDoorPure
set_option linter.all false
namespace Go.Am.Seat
set_option maxRecDepth 1000000
noncomputable section
theorem MY:fC pg Uz=true:=by decide +kernel
theorem MZ:fC pg UA=true:=by decide +kernel
theorem MS:fC pg UB=true:=by decide +kernel
theorem Na:fC pg UC=true:=by decide +kernel
theorem MT:fC pg UD=true:=by decide +kernel
theorem Nb:fC pg UE=true:=by decide +kernel
theorem MU:fC pg UF=true:=by decide +kernel
theorem Nc:fC pg UG=true:=by decide +kernel
theorem MV:fC pg UH=true:=by decide +kernel
theorem Nd:fC pg UI=true:=by decide +kernel
theorem MW:fC pg UJ=true:=by decide +kernel
def ajM:Pg:=(bq 41 (.fn (aQ (gK UA) (aQ (gK UC) (aQ (gK UE) (aQ (gK UG) (gK UI)))))) (bq 34 (.fn (gK Uz)) (bq 33 (.fn (gK UL)) (bq 78 (.fn (aQ (gK UM) (aQ (gK UN) (aQ (gK UO) (aQ (gK UP) (aQ (gK UQ) (aQ (gK UB) (aQ (gK UD) (aQ (gK UF) (aQ (gK UH) (gK UJ))))))))))) (bq 138 (.fn (gK UR)) (bq 96 (.fn (aQ (gK US) (aQ (gK UT) (aQ (gK UU) (aQ (gK UW) (gK UX)))))) (bq 50 (.fn (gK UY)) (bq 123 (.fn (gK UZ)) pg))))))))
theorem aoT:dt 7 (.nm akc akd) (rounds 1 (exec ajM 1000000 lL) aka (fK akb))=true:=by decide +kernel
theorem Nf:fC pg Va=true:=by decide +kernel
theorem Ng:fC pg Vb=true:=by decide +kernel
theorem Nh:fC pg Vc=true:=by decide +kernel
theorem Ni:fC pg Vd=true:=by decide +kernel
theorem Nj:fC pg Ve=true:=by decide +kernel
theorem Nk:fC pg Vf=true:=by decide +kernel
theorem Nl:fC pg Vg=true:=by decide +kernel
theorem Nm:fC pg Vh=true:=by decide +kernel
end
end Go.Am.Seat
