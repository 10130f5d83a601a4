/- Pieces of the closed run, whatever ways they may go. Nothing is asked. -/
import Derived.Test.YtphjcbegmaekbaaGreatDoorStates
import Derived.Test.YtphjcbegmaekbaaGreatDoorPure
set_option linter.all false
namespace Go.Am.Seat
set_option maxRecDepth 1000000
noncomputable section
def ajQ:Pg:=(bq 41 (.fn (aQ (gK TY) (aQ (gK Ua) (aQ (gK Uc) (aQ (gK Ue) (gK Ug)))))) (bq 34 (.fn (gK TX)) (bq 33 (.fn (gK TW)) (bq 78 (.fn (aQ (gK TS) (aQ (gK TT) (aQ (gK TU) (aQ (gK TV) (aQ (gK TZ) (aQ (gK Ub) (aQ (gK Ud) (aQ (gK Uf) (gK Uh)))))))))) (bq 138 (.fn (gK WR)) (bq 96 (.fn (aQ (gK WS) (aQ (gK WT) (aQ (gK WU) (gK WV))))) (bq 50 (.fn (gK WW)) (bq 123 (.fn (gK WX)) pg))))))))
theorem aoX:dt 7 (.nm aki akj) (rounds 1 (exec ajQ 1000000 lL) akg (fK akh))=true:=by decide +kernel
theorem OX:fC pg VU=true:=by decide +kernel
theorem Pb:fC pg VS=true:=by decide +kernel
theorem Pe:fC pg VJ=true:=by decide +kernel
theorem Pu:fC pg VB=true:=by decide +kernel
theorem Pf:fC pg VK=true:=by decide +kernel
theorem Pv:fC pg VC=true:=by decide +kernel
theorem Ph:fC pg VL=true:=by decide +kernel
theorem Pw:fC pg VD=true:=by decide +kernel
theorem Pj:fC pg VM=true:=by decide +kernel
theorem Px:fC pg VE=true:=by decide +kernel
theorem PJ:fC pg VA=true:=by decide +kernel
theorem PL:fC pg Vz=true:=by decide +kernel
theorem PM:fC pg Vy=true:=by decide +kernel
theorem PN:fC pg Vx=true:=by decide +kernel
theorem Py:fC pg VF=true:=by decide +kernel
theorem OY:fC pg VV=true:=by decide +kernel
theorem Pc:fC pg VT=true:=by decide +kernel
theorem Pk:fC pg VN=true:=by decide +kernel
theorem Pz:fC pg VG=true:=by decide +kernel
theorem Pl:fC pg VO=true:=by decide +kernel
theorem PA:fC pg VH=true:=by decide +kernel
theorem Pm:fC pg VP=true:=by decide +kernel
theorem PB:fC pg VI=true:=by decide +kernel
theorem Pn:fC pg VQ=true:=by decide +kernel
end
end Go.Am.Seat
