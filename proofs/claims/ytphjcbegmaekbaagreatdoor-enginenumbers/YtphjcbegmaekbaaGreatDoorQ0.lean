/- Pieces of the closed run, whatever ways they may go. Nothing is asked. -/
import Derived.Test.YtphjcbegmaekbaaGreatDoorStates
import Derived.Test.YtphjcbegmaekbaaGreatDoorPure
set_option linter.all false
namespace Go.Am.Seat
set_option maxRecDepth 1000000
noncomputable section
theorem auC:dt 7 (.nm Rg0 Qa) (exec pg 1000000 xq0 .nil (CU 7 1 (Gu 555 .u64 Gv)))=true:=by decide +kernel
theorem auG:dt 7 (.nm Rg1 Lo1) (exec pg 1000000 xq1 Rg0 (fK Qa))=true:=by decide +kernel
theorem auJ:dt 7 (.nm Rg2 Lo2) (exec pg 1000000 xq2 Rg1 (fK Lo1))=true:=by decide +kernel
theorem auM:dt 7 (.nm Rg3 Lo2) (exec pg 1000000 xq3 Rg2 (fK Lo2))=true:=by decide +kernel
theorem auP:dt 7 (.nm Rg4 Lo4) (exec pg 1000000 xq4 Rg3 (fK Lo2))=true:=by decide +kernel
theorem auT:dt 7 (.nm Rg5 Lo4) (exec pg 1000000 xq5 Rg4 (fK Lo4))=true:=by decide +kernel
theorem auV:dt 7 (.nm Rg6 Lo6) (rounds 6 (exec pg 1000000 xq6) Rg5 (fK Lo4))=true:=by decide +kernel
theorem auW:dt 7 (.ex 0 Rg7 Lo6) (exec pg 1000000 xq6 Rg6 (fK Lo6))=true:=by decide +kernel
theorem auZ:dt 7 (.nm Rg8 Lo8) (exec pg 1000000 xq8 Rg7 (fK Lo6))=true:=by decide +kernel
theorem aoN:dt 7 (.nm Rg9 Lo8) (exec pg 1000000 xq9 Rg8 (fK Lo8))=true:=by decide +kernel
theorem aoO:dt 7 (.nm ajU ajV) (rounds 2 (exec pg 1000000 lL) Rg9 (fK Lo8))=true:=by decide +kernel
theorem aoo:fC pg Fr0=true:=by decide +kernel
theorem aoq:fC pg Fr1=true:=by decide +kernel
theorem aor:fC pg Fr2=true:=by decide +kernel
theorem aos:fC pg Fr3=true:=by decide +kernel
theorem aot:fC pg Fr4=true:=by decide +kernel
theorem aov:fC pg Fr5=true:=by decide +kernel
theorem aow:fC pg Fr6=true:=by decide +kernel
theorem aox:fC pg Fr7=true:=by decide +kernel
theorem aou:fC pg Fr8=true:=by decide +kernel
theorem aop:fC pg Fr9=true:=by decide +kernel
theorem aiM:fC pg aqn=true:=by decide +kernel
theorem aiN:fC pg aqo=true:=by decide +kernel
theorem aiO:fC pg aqp=true:=by decide +kernel
theorem aiP:fC pg aqq=true:=by decide +kernel
theorem aiS:fC pg aqr=true:=by decide +kernel
theorem aiT:fC pg aqs=true:=by decide +kernel
theorem aiU:fC pg aqt=true:=by decide +kernel
theorem aiQ:fC pg aqu=true:=by decide +kernel
theorem aiV:fC pg aqv=true:=by decide +kernel
theorem aiR:fC pg aqw=true:=by decide +kernel
def aiL:Pg:=(bq 41 (.fn (aQ (gK Fr7) (aQ (gK aqt) (gK aqv)))) (bq 34 (.fn (aQ (gK Fr6) (gK aqs))) (bq 33 (.fn (aQ (gK Fr5) (gK aqr))) (bq 78 (.fn (aQ (gK Fr4) (aQ (gK Fr8) (aQ (gK aqq) (aQ (gK aqu) (gK aqw)))))) (bq 77 (.fn (aQ (gK Fr3) (gK aqp))) (bq 96 (.fn (aQ (gK Fr2) (gK aqo))) (bq 95 (.fn (aQ (gK Fr1) (gK aqn))) (bq 87 (.fn (aQ (gK Fr0) (gK Fr9))) pg))))))))
theorem aoP:dt 7 (.nm ajW ajX) (rounds 2 (exec aiL 1000000 lL) ajU (fK ajV))=true:=by decide +kernel
theorem aiX:fC pg aqx=true:=by decide +kernel
theorem aiY:fC pg aqy=true:=by decide +kernel
theorem aiZ:fC pg aqz=true:=by decide +kernel
theorem aja:fC pg aqA=true:=by decide +kernel
theorem ajb:fC pg aqB=true:=by decide +kernel
theorem ajf:fC pg aqC=true:=by decide +kernel
theorem ajg:fC pg aqD=true:=by decide +kernel
theorem ajh:fC pg aqE=true:=by decide +kernel
theorem ajc:fC pg aqF=true:=by decide +kernel
theorem aji:fC pg aqG=true:=by decide +kernel
theorem ajd:fC pg aqH=true:=by decide +kernel
theorem ajj:fC pg aqI=true:=by decide +kernel
theorem aje:fC pg aqJ=true:=by decide +kernel
def aiW:Pg:=(bq 41 (.fn (aQ (gK aqE) (aQ (gK aqG) (gK aqI)))) (bq 34 (.fn (gK aqD)) (bq 33 (.fn (gK aqC)) (bq 78 (.fn (aQ (gK aqB) (aQ (gK aqF) (aQ (gK aqH) (gK aqJ))))) (bq 77 (.fn (gK aqA)) (bq 96 (.fn (gK aqz)) (bq 95 (.fn (gK aqy)) (bq 87 (.fn (gK aqx)) pg))))))))
theorem aoQ:dt 7 (.nm ajY ajZ) (rounds 1 (exec aiW 1000000 lL) ajW (fK ajX))=true:=by decide +kernel
end
end Go.Am.Seat
