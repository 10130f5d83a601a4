/- Pieces of the closed run, whatever ways they may go. Nothing is asked. -/
import Derived.Test.YtphjcbegmaekbaaGreatDoorStates
import Derived.Test.YtphjcbegmaekbaaGreatDoorPure
set_option linter.all false
namespace Go.Am.Seat
set_option maxRecDepth 1000000
noncomputable section
theorem PC:fC pg Vi=true:=by decide +kernel
theorem Po:fC pg Vj=true:=by decide +kernel
theorem PD:fC pg Vk=true:=by decide +kernel
theorem OZ:fC pg Vl=true:=by decide +kernel
theorem Pd:fC pg Vm=true:=by decide +kernel
theorem Pp:fC pg Vn=true:=by decide +kernel
theorem PE:fC pg Vo=true:=by decide +kernel
theorem Pq:fC pg Vp=true:=by decide +kernel
theorem PF:fC pg Vq=true:=by decide +kernel
theorem Pr:fC pg Vr=true:=by decide +kernel
theorem PG:fC pg Vs=true:=by decide +kernel
theorem Ps:fC pg Vt=true:=by decide +kernel
theorem PH:fC pg Vu=true:=by decide +kernel
theorem Pt:fC pg Vv=true:=by decide +kernel
theorem PI:fC pg Vw=true:=by decide +kernel
def ajR:Pg:=(bq 77 (.fn (gK Vx)) (bq 96 (.fn (gK Vy)) (bq 95 (.fn (gK Vz)) (bq 87 (.fn (gK VA)) (bq 78 (.fn (aQ (gK VB) (aQ (gK VC) (aQ (gK VD) (aQ (gK VE) (aQ (gK VF) (aQ (gK VG) (aQ (gK VH) (aQ (gK VI) (aQ (gK Vi) (aQ (gK Vk) (aQ (gK Vo) (aQ (gK Vq) (aQ (gK Vs) (aQ (gK Vu) (gK Vw)))))))))))))))) (bq 41 (.fn (aQ (gK VJ) (aQ (gK VK) (aQ (gK VL) (aQ (gK VM) (aQ (gK VN) (aQ (gK VO) (aQ (gK VP) (aQ (gK VQ) (aQ (gK Vj) (aQ (gK Vn) (aQ (gK Vp) (aQ (gK Vr) (aQ (gK Vt) (gK Vv))))))))))))))) (bq 34 (.fn (aQ (gK VS) (aQ (gK VT) (gK Vm)))) (bq 33 (.fn (aQ (gK VU) (aQ (gK VV) (gK Vl)))) pg))))))))
theorem aoY:dt 7 (.nm akk akl) (rounds 3 (exec ajR 1000000 lL) aki (fK akj))=true:=by decide +kernel
theorem aoZ:dt 7 (.ex 2 ajT Qa) (exec pg 1000000 lL akk (fK akl))=true:=by decide +kernel
theorem PO:fC pg VW=true:=by decide +kernel
theorem PQ:fC pg VX=true:=by decide +kernel
theorem PT:fC pg VY=true:=by decide +kernel
end
end Go.Am.Seat
