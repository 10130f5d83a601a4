/- Pieces of the closed run, whatever ways they may go. Nothing is asked. -/
import Derived.Test.YtphjcbegmaekbaaGreatDoorStates
import Derived.Test.YtphjcbegmaekbaaGreatDoorPure
set_option linter.all false
namespace Go.Am.Seat
set_option maxRecDepth 1000000
noncomputable section
theorem ajl:fC pg ape=true:=by decide +kernel
theorem ajm:fC pg apf=true:=by decide +kernel
theorem ajn:fC pg apg=true:=by decide +kernel
theorem ajo:fC pg aph=true:=by decide +kernel
theorem ajp:fC pg api=true:=by decide +kernel
theorem aju:fC pg apj=true:=by decide +kernel
theorem ajv:fC pg apk=true:=by decide +kernel
theorem ajw:fC pg apl=true:=by decide +kernel
theorem ajq:fC pg apm=true:=by decide +kernel
theorem ajx:fC pg apn=true:=by decide +kernel
theorem ajr:fC pg apo=true:=by decide +kernel
theorem ajy:fC pg apq=true:=by decide +kernel
theorem ajs:fC pg apr=true:=by decide +kernel
theorem ajz:fC pg aps=true:=by decide +kernel
theorem ajt:fC pg apt=true:=by decide +kernel
def ajk:Pg:=(bq 41 (.fn (aQ (gK apl) (aQ (gK apn) (aQ (gK apq) (gK aps))))) (bq 34 (.fn (gK apk)) (bq 33 (.fn (gK apj)) (bq 78 (.fn (aQ (gK api) (aQ (gK apm) (aQ (gK apo) (aQ (gK apr) (gK apt)))))) (bq 77 (.fn (gK aph)) (bq 96 (.fn (gK apg)) (bq 95 (.fn (gK apf)) (bq 87 (.fn (gK ape)) pg))))))))
theorem aoR:dt 7 (.nm aio aip) (rounds 1 (exec ajk 1000000 lL) ajY (fK ajZ))=true:=by decide +kernel
theorem ajA:fC pg aol=true:=by decide +kernel
theorem ajB:fC pg aok=true:=by decide +kernel
theorem ajC:fC pg aoj=true:=by decide +kernel
theorem ajD:fC pg aoi=true:=by decide +kernel
theorem ajE:fC pg aof=true:=by decide +kernel
theorem ajH:fC pg aoe=true:=by decide +kernel
theorem ajI:fC pg aod=true:=by decide +kernel
theorem ajJ:fC pg aob=true:=by decide +kernel
theorem ajF:fC pg aog=true:=by decide +kernel
theorem ajK:fC pg aoc=true:=by decide +kernel
theorem ajG:fC pg aoh=true:=by decide +kernel
end
end Go.Am.Seat
