/- Pieces of the closed run, whatever ways they may go. Nothing is asked. -/
import Derived.Test.YtpagaimbdhmegaaGreatDoorStates
import Derived.Test.YtpagaimbdhmegaaGreatDoorFast2
set_option linter.all false
namespace Go.Am.Seat
set_option maxRecDepth 1000000
noncomputable section
theorem Oa:aM GP.length (.agg [(pi 13),i0,(.str [106])]) Md (aj pg (exec pg 1000000) 8 Sw (aY GP))=true:=by decide +kernel
theorem Ob:aM GQ.length (.agg [(pi 13),i0,(.str [106])]) Me (aj pg (exec pg 1000000) 9 Sx (aY GQ))=true:=by decide +kernel
theorem Oc:aM GR.length (.aW [(.aH (.mk .h0 .h6 .h7 .ha) 0 5 2),(.bool true)]) Mf (aj pg (exec pg 1000000) 37 Sy (aY GR))=true:=by decide +kernel
theorem Od:aM GS.length (.aW [(.aH (.mk .h0 .h6 .h8 .h0) 0 5 2),(.bool true)]) Mg (aj pg (exec pg 1000000) 39 Sz (aY GS))=true:=by decide +kernel
theorem Oe:aM GU.length (.aW [(.aH (.mk .h0 .h6 .h8 .h7) 0 1 2),(.bool true)]) Mh (aj pg (exec pg 1000000) 37 SA (aY GU))=true:=by decide +kernel
theorem Og:aM GV.length (.aW [(.aH (.mk .h0 .h6 .h8 .h9) 0 1 2),(.bool true)]) Mi (aj pg (exec pg 1000000) 39 SB (aY GV))=true:=by decide +kernel
theorem Oh:aM GW.length (.aW [(.aH (.mk .h0 .h6 .h8 .hc) 0 2 2),(.bool true)]) Mj (aj pg (exec pg 1000000) 37 SC (aY GW))=true:=by decide +kernel
theorem Oi:aM GX.length (.aW [(.aH (.mk .h0 .h6 .h8 .hf) 0 2 2),(.bool true)]) SD (aj pg (exec pg 1000000) 39 SE (aY GX))=true:=by decide +kernel
def Oj:Pg:=(fG 39 (.fn (fx (aD Sz GS (.aW [(.aH (.mk .h0 .h6 .h8 .h0) 0 5 2),(.bool true)]) Mg) (fx (aD SB GV (.aW [(.aH (.mk .h0 .h6 .h8 .h9) 0 1 2),(.bool true)]) Mi) (aD SE GX (.aW [(.aH (.mk .h0 .h6 .h8 .hf) 0 2 2),(.bool true)]) SD)))) (fG 37 (.fn (fx (aD Sy GR (.aW [(.aH (.mk .h0 .h6 .h7 .ha) 0 5 2),(.bool true)]) Mf) (fx (aD SA GU (.aW [(.aH (.mk .h0 .h6 .h8 .h7) 0 1 2),(.bool true)]) Mh) (aD SC GW (.aW [(.aH (.mk .h0 .h6 .h8 .hc) 0 2 2),(.bool true)]) Mj)))) (fG 9 (.fn (aD Sx GQ (.agg [(pi 13),i0,(.str [106])]) Me)) (fG 8 (.fn (aD Sw GP (.agg [(pi 13),i0,(.str [106])]) Md)) pg))))
theorem Ul:cD 7 (.nm Mc Cj) (rounds 1 (exec Oj 1000000 oA) LU (aY Ci))=true:=by decide +kernel
theorem Ok:aM GY.length (.agg [(pi 13),i0,(.str [106])]) Ml (aj pg (exec pg 1000000) 8 SF (aY GY))=true:=by decide +kernel
theorem Ol:aM GZ.length (.agg [(pi 13),i0,(.str [106])]) Mm (aj pg (exec pg 1000000) 9 SG (aY GZ))=true:=by decide +kernel
end
end Go.Am.Seat
