/- Pieces of the closed run, whatever ways they may go. Nothing is asked. -/
import Derived.Test.YtphjcbegmaekbaaGreatDoorStates
import Derived.Test.YtphjcbegmaekbaaGreatDoorPure
set_option linter.all false
namespace Go.Am.Seat
set_option maxRecDepth 1000000
noncomputable section
theorem ahc:fC pg amN=true:=by decide +kernel
theorem ahd:fC pg amO=true:=by decide +kernel
theorem ahe:fC pg amP=true:=by decide +kernel
theorem ahf:fC pg amQ=true:=by decide +kernel
def ahg:Pg:=(bq 41 (.fn (aQ (gK amR) (aQ (gK amS) (aQ (gK amT) (aQ (gK amN) (gK amP)))))) (bq 34 (.fn (gK amU)) (bq 33 (.fn (gK amV)) (bq 78 (.fn (aQ (gK amW) (aQ (gK amX) (aQ (gK amY) (aQ (gK amZ) (aQ (gK ana) (aQ (gK anb) (aQ (gK anc) (aQ (gK anf) (aQ (gK amO) (gK amQ))))))))))) (bq 138 (.fn (gK ang)) (bq 96 (.fn (aQ (gK anh) (aQ (gK ani) (aQ (gK anj) (aQ (gK ank) (gK anl)))))) (bq 50 (.fn (gK anm)) (bq 123 (.fn (gK ann)) pg))))))))
theorem ano:dt 7 (.nm ahh ahi) (rounds 1 (exec ahg 1000000 lL) ahj (fK ahk))=true:=by decide +kernel
theorem ahl:fC pg anp=true:=by decide +kernel
theorem ahm:fC pg anq=true:=by decide +kernel
theorem ahn:fC pg anr=true:=by decide +kernel
theorem aho:fC pg ans=true:=by decide +kernel
theorem ahp:fC pg ant=true:=by decide +kernel
theorem ahq:fC pg anu=true:=by decide +kernel
theorem ahr:fC pg anv=true:=by decide +kernel
theorem ahs:fC pg anw=true:=by decide +kernel
theorem aht:fC pg anx=true:=by decide +kernel
theorem ahu:fC pg anz=true:=by decide +kernel
theorem Kv:fC pg Sq=true:=by decide +kernel
theorem Kw:fC pg Ss=true:=by decide +kernel
theorem Kx:fC pg Su=true:=by decide +kernel
theorem Ky:fC pg Sv=true:=by decide +kernel
theorem Kz:fC pg Sw=true:=by decide +kernel
theorem KA:fC pg Sx=true:=by decide +kernel
theorem KB:fC pg Sy=true:=by decide +kernel
theorem KC:fC pg Sz=true:=by decide +kernel
theorem KD:fC pg SA=true:=by decide +kernel
end
end Go.Am.Seat
