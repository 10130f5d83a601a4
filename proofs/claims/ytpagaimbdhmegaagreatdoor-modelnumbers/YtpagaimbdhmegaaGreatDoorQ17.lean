/- Pieces of the closed run, whatever ways they may go. Nothing is asked. -/
import Derived.Test.YtpagaimbdhmegaaGreatDoorStates
import Derived.Test.YtpagaimbdhmegaaGreatDoorFast2
set_option linter.all false
namespace Go.Am.Seat
set_option maxRecDepth 1000000
noncomputable section
def QB:Pg:=(fG 39 (.fn (fx (aD Tm HC (.aW [(.aH (.mk .h0 .h6 .h8 .h0) 0 5 2),(.bool true)]) MM) (fx (aD Tp HE (.aW [(.aH (.mk .h0 .h6 .h8 .h9) 0 1 2),(.bool true)]) MO) (aD Ts HG (.aW [(.aH (.mk .h0 .h6 .h8 .hf) 0 2 2),(.bool true)]) Tr)))) (fG 37 (.fn (fx (aD Tl HB (.aW [(.aH (.mk .h0 .h6 .h7 .ha) 0 5 2),(.bool true)]) ML) (fx (aD Tn HD (.aW [(.aH (.mk .h0 .h6 .h8 .h7) 0 1 2),(.bool true)]) MN) (aD Tq HF (.aW [(.aH (.mk .h0 .h6 .h8 .hc) 0 2 2),(.bool true)]) MP)))) (fG 9 (.fn (aD Tk Hz (.agg [(pi 13),i0,(.str [106])]) MK)) (fG 8 (.fn (aD Tj Hy (.agg [(pi 13),i0,(.str [106])]) MJ)) pg))))
theorem Vy:cD 7 (.nm MI Co) (rounds 1 (exec QB 1000000 oA) MA (aY Cn))=true:=by decide +kernel
theorem QC:aM HI.length (.agg [(pi 13),i0,(.str [106])]) MS (aj pg (exec pg 1000000) 8 Tt (aY HI))=true:=by decide +kernel
theorem QD:aM HJ.length (.agg [(pi 13),i0,(.str [106])]) MT (aj pg (exec pg 1000000) 9 Tu (aY HJ))=true:=by decide +kernel
theorem QE:aM HK.length (.aW [(.aH (.mk .h0 .h6 .h7 .ha) 0 5 2),(.bool true)]) MU (aj pg (exec pg 1000000) 37 Tv (aY HK))=true:=by decide +kernel
theorem QF:aM HL.length (.aW [(.aH (.mk .h0 .h6 .h8 .h0) 0 5 2),(.bool true)]) MV (aj pg (exec pg 1000000) 39 Tw (aY HL))=true:=by decide +kernel
theorem QG:aM HM.length (.aW [(.aH (.mk .h0 .h6 .h8 .h7) 0 1 2),(.bool true)]) MW (aj pg (exec pg 1000000) 37 Tx (aY HM))=true:=by decide +kernel
theorem QH:aM HN.length (.aW [(.aH (.mk .h0 .h6 .h8 .h9) 0 1 2),(.bool true)]) MX (aj pg (exec pg 1000000) 39 Ty (aY HN))=true:=by decide +kernel
theorem QI:aM HO.length (.aW [(.aH (.mk .h0 .h6 .h8 .hc) 0 2 2),(.bool true)]) MY (aj pg (exec pg 1000000) 37 Tz (aY HO))=true:=by decide +kernel
theorem QJ:aM HP.length (.aW [(.aH (.mk .h0 .h6 .h8 .hf) 0 2 2),(.bool true)]) TA (aj pg (exec pg 1000000) 39 TB (aY HP))=true:=by decide +kernel
def QK:Pg:=(fG 39 (.fn (fx (aD Tw HL (.aW [(.aH (.mk .h0 .h6 .h8 .h0) 0 5 2),(.bool true)]) MV) (fx (aD Ty HN (.aW [(.aH (.mk .h0 .h6 .h8 .h9) 0 1 2),(.bool true)]) MX) (aD TB HP (.aW [(.aH (.mk .h0 .h6 .h8 .hf) 0 2 2),(.bool true)]) TA)))) (fG 37 (.fn (fx (aD Tv HK (.aW [(.aH (.mk .h0 .h6 .h7 .ha) 0 5 2),(.bool true)]) MU) (fx (aD Tx HM (.aW [(.aH (.mk .h0 .h6 .h8 .h7) 0 1 2),(.bool true)]) MW) (aD Tz HO (.aW [(.aH (.mk .h0 .h6 .h8 .hc) 0 2 2),(.bool true)]) MY)))) (fG 9 (.fn (aD Tu HJ (.agg [(pi 13),i0,(.str [106])]) MT)) (fG 8 (.fn (aD Tt HI (.agg [(pi 13),i0,(.str [106])]) MS)) pg))))
theorem Vz:cD 7 (.nm MQ Cp) (rounds 1 (exec QK 1000000 oA) MI (aY Co))=true:=by decide +kernel
theorem QL:aM HQ.length (.agg [(pi 13),i0,(.str [106])]) Na (aj pg (exec pg 1000000) 8 TC (aY HQ))=true:=by decide +kernel
end
end Go.Am.Seat
