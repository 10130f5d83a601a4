/- Pieces of the closed run, whatever ways they may go. Nothing is asked. -/
import Derived.Test.YtpagaimbdhmegaaGreatDoorStates
import Derived.Test.YtpagaimbdhmegaaGreatDoorFast2
set_option linter.all false
namespace Go.Am.Seat
set_option maxRecDepth 1000000
noncomputable section
theorem PW:aM Hv.length (.aW [(.aH (.mk .h0 .h6 .h8 .hc) 0 2 2),(.bool true)]) MH (aj pg (exec pg 1000000) 37 Tf (aY Hv))=true:=by decide +kernel
theorem PX:aM Hw.length (.aW [(.aH (.mk .h0 .h6 .h8 .hf) 0 2 2),(.bool true)]) Th (aj pg (exec pg 1000000) 39 Ti (aY Hw))=true:=by decide +kernel
def PY:Pg:=(fG 39 (.fn (fx (aD Tc Hs (.aW [(.aH (.mk .h0 .h6 .h8 .h0) 0 5 2),(.bool true)]) ME) (fx (aD Te Hu (.aW [(.aH (.mk .h0 .h6 .h8 .h9) 0 1 2),(.bool true)]) MG) (aD Ti Hw (.aW [(.aH (.mk .h0 .h6 .h8 .hf) 0 2 2),(.bool true)]) Th)))) (fG 37 (.fn (fx (aD Tb Hr (.aW [(.aH (.mk .h0 .h6 .h7 .ha) 0 5 2),(.bool true)]) MD) (fx (aD Td Ht (.aW [(.aH (.mk .h0 .h6 .h8 .h7) 0 1 2),(.bool true)]) MF) (aD Tf Hv (.aW [(.aH (.mk .h0 .h6 .h8 .hc) 0 2 2),(.bool true)]) MH)))) (fG 9 (.fn (aD Ta Hq (.agg [(pi 13),i0,(.str [106])]) MC)) (fG 8 (.fn (aD SZ Ho (.agg [(pi 13),i0,(.str [106])]) MB)) pg))))
theorem Vi:cD 7 (.nm MA Cn) (rounds 1 (exec PY 1000000 oA) Ms (aY Cm))=true:=by decide +kernel
theorem PZ:aM Hy.length (.agg [(pi 13),i0,(.str [106])]) MJ (aj pg (exec pg 1000000) 8 Tj (aY Hy))=true:=by decide +kernel
theorem Qa:aM Hz.length (.agg [(pi 13),i0,(.str [106])]) MK (aj pg (exec pg 1000000) 9 Tk (aY Hz))=true:=by decide +kernel
theorem Qb:aM HB.length (.aW [(.aH (.mk .h0 .h6 .h7 .ha) 0 5 2),(.bool true)]) ML (aj pg (exec pg 1000000) 37 Tl (aY HB))=true:=by decide +kernel
theorem Qc:aM HC.length (.aW [(.aH (.mk .h0 .h6 .h8 .h0) 0 5 2),(.bool true)]) MM (aj pg (exec pg 1000000) 39 Tm (aY HC))=true:=by decide +kernel
theorem Qd:aM HD.length (.aW [(.aH (.mk .h0 .h6 .h8 .h7) 0 1 2),(.bool true)]) MN (aj pg (exec pg 1000000) 37 Tn (aY HD))=true:=by decide +kernel
theorem Qe:aM HE.length (.aW [(.aH (.mk .h0 .h6 .h8 .h9) 0 1 2),(.bool true)]) MO (aj pg (exec pg 1000000) 39 Tp (aY HE))=true:=by decide +kernel
theorem Qf:aM HF.length (.aW [(.aH (.mk .h0 .h6 .h8 .hc) 0 2 2),(.bool true)]) MP (aj pg (exec pg 1000000) 37 Tq (aY HF))=true:=by decide +kernel
theorem Qg:aM HG.length (.aW [(.aH (.mk .h0 .h6 .h8 .hf) 0 2 2),(.bool true)]) Tr (aj pg (exec pg 1000000) 39 Ts (aY HG))=true:=by decide +kernel
end
end Go.Am.Seat
