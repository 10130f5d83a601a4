/- Pieces of the closed run, whatever ways they may go. Nothing is asked. -/
import Derived.Test.YtpagaimbdhmegaaGreatDoorStates
import Derived.Test.YtpagaimbdhmegaaGreatDoorFast2
set_option linter.all false
namespace Go.Am.Seat
set_option maxRecDepth 1000000
noncomputable section
theorem QY:aM Ha.length (.aW [(.aH (.mk .h0 .h6 .h7 .ha) 0 5 2),(.bool true)]) Mn (aj pg (exec pg 1000000) 37 SH (aY Ha))=true:=by decide +kernel
theorem QZ:aM Hb.length (.aW [(.aH (.mk .h0 .h6 .h8 .h0) 0 5 2),(.bool true)]) Mo (aj pg (exec pg 1000000) 39 SI (aY Hb))=true:=by decide +kernel
theorem Ra:aM Hc.length (.aW [(.aH (.mk .h0 .h6 .h8 .h7) 0 1 2),(.bool true)]) Mp (aj pg (exec pg 1000000) 37 SJ (aY Hc))=true:=by decide +kernel
theorem Rb:aM Hd.length (.aW [(.aH (.mk .h0 .h6 .h8 .h9) 0 1 2),(.bool true)]) Mq (aj pg (exec pg 1000000) 39 SK (aY Hd))=true:=by decide +kernel
theorem Rc:aM He.length (.aW [(.aH (.mk .h0 .h6 .h8 .hc) 0 2 2),(.bool true)]) Mr (aj pg (exec pg 1000000) 37 SL (aY He))=true:=by decide +kernel
theorem Re:aM Hf.length (.aW [(.aH (.mk .h0 .h6 .h8 .hf) 0 2 2),(.bool true)]) SM (aj pg (exec pg 1000000) 39 SN (aY Hf))=true:=by decide +kernel
def Rf:Pg:=(fG 39 (.fn (fx (aD SI Hb (.aW [(.aH (.mk .h0 .h6 .h8 .h0) 0 5 2),(.bool true)]) Mo) (fx (aD SK Hd (.aW [(.aH (.mk .h0 .h6 .h8 .h9) 0 1 2),(.bool true)]) Mq) (aD SN Hf (.aW [(.aH (.mk .h0 .h6 .h8 .hf) 0 2 2),(.bool true)]) SM)))) (fG 37 (.fn (fx (aD SH Ha (.aW [(.aH (.mk .h0 .h6 .h7 .ha) 0 5 2),(.bool true)]) Mn) (fx (aD SJ Hc (.aW [(.aH (.mk .h0 .h6 .h8 .h7) 0 1 2),(.bool true)]) Mp) (aD SL He (.aW [(.aH (.mk .h0 .h6 .h8 .hc) 0 2 2),(.bool true)]) Mr)))) (fG 9 (.fn (aD SG GZ (.agg [(pi 13),i0,(.str [106])]) Mm)) (fG 8 (.fn (aD SF GY (.agg [(pi 13),i0,(.str [106])]) Ml)) pg))))
theorem VB:cD 7 (.nm Mk Ck) (rounds 1 (exec Rf 1000000 oA) Mc (aY Cj))=true:=by decide +kernel
theorem Rg:aM Hg.length (.agg [(pi 13),i0,(.str [106])]) Mt (aj pg (exec pg 1000000) 8 SO (aY Hg))=true:=by decide +kernel
theorem Rh:aM Hh.length (.agg [(pi 13),i0,(.str [106])]) Mu (aj pg (exec pg 1000000) 9 SP (aY Hh))=true:=by decide +kernel
theorem Ri:aM Hi.length (.aW [(.aH (.mk .h0 .h6 .h7 .ha) 0 5 2),(.bool true)]) Mv (aj pg (exec pg 1000000) 37 SQ (aY Hi))=true:=by decide +kernel
theorem Rj:aM Hj.length (.aW [(.aH (.mk .h0 .h6 .h8 .h0) 0 5 2),(.bool true)]) Mw (aj pg (exec pg 1000000) 39 SR (aY Hj))=true:=by decide +kernel
end
end Go.Am.Seat
