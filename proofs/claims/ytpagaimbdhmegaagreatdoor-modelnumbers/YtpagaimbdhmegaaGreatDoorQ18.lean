/- Pieces of the closed run, whatever ways they may go. Nothing is asked. -/
import Derived.Test.YtpagaimbdhmegaaGreatDoorStates
import Derived.Test.YtpagaimbdhmegaaGreatDoorFast2
set_option linter.all false
namespace Go.Am.Seat
set_option maxRecDepth 1000000
noncomputable section
theorem Pw:aM HS.length (.agg [(pi 13),i0,(.str [106])]) Nb (aj pg (exec pg 1000000) 9 TD (aY HS))=true:=by decide +kernel
theorem Px:aM HT.length (.aW [(.aH (.mk .h0 .h6 .h7 .ha) 0 5 2),(.bool true)]) Nc (aj pg (exec pg 1000000) 37 TE (aY HT))=true:=by decide +kernel
theorem Py:aM HU.length (.aW [(.aH (.mk .h0 .h6 .h8 .h0) 0 5 2),(.bool true)]) Nd (aj pg (exec pg 1000000) 39 TF (aY HU))=true:=by decide +kernel
theorem Pz:aM HV.length (.aW [(.aH (.mk .h0 .h6 .h8 .h7) 0 1 2),(.bool true)]) Nf (aj pg (exec pg 1000000) 37 TG (aY HV))=true:=by decide +kernel
theorem PA:aM HW.length (.aW [(.aH (.mk .h0 .h6 .h8 .h9) 0 1 2),(.bool true)]) Ng (aj pg (exec pg 1000000) 39 TH (aY HW))=true:=by decide +kernel
theorem PB:aM HX.length (.aW [(.aH (.mk .h0 .h6 .h8 .hc) 0 2 2),(.bool true)]) Nh (aj pg (exec pg 1000000) 37 TI (aY HX))=true:=by decide +kernel
theorem PC:aM HY.length (.aW [(.aH (.mk .h0 .h6 .h8 .hf) 0 2 2),(.bool true)]) TJ (aj pg (exec pg 1000000) 39 TL (aY HY))=true:=by decide +kernel
def PD:Pg:=(fG 39 (.fn (fx (aD TF HU (.aW [(.aH (.mk .h0 .h6 .h8 .h0) 0 5 2),(.bool true)]) Nd) (fx (aD TH HW (.aW [(.aH (.mk .h0 .h6 .h8 .h9) 0 1 2),(.bool true)]) Ng) (aD TL HY (.aW [(.aH (.mk .h0 .h6 .h8 .hf) 0 2 2),(.bool true)]) TJ)))) (fG 37 (.fn (fx (aD TE HT (.aW [(.aH (.mk .h0 .h6 .h7 .ha) 0 5 2),(.bool true)]) Nc) (fx (aD TG HV (.aW [(.aH (.mk .h0 .h6 .h8 .h7) 0 1 2),(.bool true)]) Nf) (aD TI HX (.aW [(.aH (.mk .h0 .h6 .h8 .hc) 0 2 2),(.bool true)]) Nh)))) (fG 9 (.fn (aD TD HS (.agg [(pi 13),i0,(.str [106])]) Nb)) (fG 8 (.fn (aD TC HQ (.agg [(pi 13),i0,(.str [106])]) Na)) pg))))
theorem UP:cD 7 (.nm MZ AE) (rounds 1 (exec PD 1000000 oA) MQ (aY Cp))=true:=by decide +kernel
theorem UQ:cD 7 (.ex 0 Ni AE) (exec pg 1000000 oA MZ (aY AE))=true:=by decide +kernel
theorem UR:cD 7 (.ret TM Ll) (exec pg 1000000 UL Ni (aY AE))=true:=by decide +kernel
end
end Go.Am.Seat
