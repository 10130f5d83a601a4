/- Pieces of the closed run, whatever ways they may go. Nothing is asked. -/
import Derived.Test.YtpagaimbdhmegaaGreatDoorStates
import Derived.Test.YtpagaimbdhmegaaGreatDoorFast2
set_option linter.all false
namespace Go.Am.Seat
set_option maxRecDepth 1000000
noncomputable section
theorem Oo:aM Gu.length (.aW [(.aH (.mk .h0 .h6 .h7 .h5) 0 1 2),(.bool true)]) LJ (aj pg (exec pg 1000000) 39 RY (aY Gu))=true:=by decide +kernel
theorem Oq:aM Gv.length (.aW [(.aH (.mk .h0 .h6 .h7 .h8) 0 1 2),(.bool true)]) LK (aj pg (exec pg 1000000) 37 RZ (aY Gv))=true:=by decide +kernel
theorem Ot:aM Gw.length (.aW [(.aH (.mk .h0 .h6 .h7 .ha) 0 1 2),(.bool true)]) Sa (aj pg (exec pg 1000000) 39 Sb (aY Gw))=true:=by decide +kernel
def Ou:Pg:=(fG 39 (.fn (fx (aD RW Gs (.aW [(.aH (.mk .h0 .h6 .h7 .h0) 0 1 2),(.bool true)]) LH) (fx (aD RY Gu (.aW [(.aH (.mk .h0 .h6 .h7 .h5) 0 1 2),(.bool true)]) LJ) (aD Sb Gw (.aW [(.aH (.mk .h0 .h6 .h7 .ha) 0 1 2),(.bool true)]) Sa)))) (fG 37 (.fn (fx (aD RU Gr (.aW [(.aH (.mk .h0 .h6 .h6 .he) 0 1 2),(.bool true)]) LG) (fx (aD RX Gt (.aW [(.aH (.mk .h0 .h6 .h7 .h3) 0 1 2),(.bool true)]) LI) (aD RZ Gv (.aW [(.aH (.mk .h0 .h6 .h7 .h8) 0 1 2),(.bool true)]) LK)))) (fG 9 (.fn (aD RR Gq (.agg [i0,i0,iS]) LF)) (fG 8 (.fn (aD RQ Gp (.agg [i0,i0,iS]) LD)) pg))))
theorem Un:cD 7 (.nm LC Cg) (rounds 1 (exec Ou 1000000 oA) LB (aY Ce))=true:=by decide +kernel
theorem Ov:aM Gx.length (.agg [i0,i0,iS]) LM (aj pg (exec pg 1000000) 8 Sc (aY Gx))=true:=by decide +kernel
theorem Ow:aM Gy.length (.agg [i0,i0,iS]) LN (aj pg (exec pg 1000000) 9 Se (aY Gy))=true:=by decide +kernel
theorem Ox:aM Gz.length (.aW [(.aH (.mk .h0 .h6 .h7 .h9) 0 2 2),(.bool true)]) LO (aj pg (exec pg 1000000) 37 Sf (aY Gz))=true:=by decide +kernel
theorem Oy:aM GA.length (.aW [(.aH (.mk .h0 .h6 .h7 .hc) 0 2 2),(.bool true)]) LP (aj pg (exec pg 1000000) 39 Sg (aY GA))=true:=by decide +kernel
theorem Oz:aM GB.length (.aW [(.aH (.mk .h0 .h6 .h8 .h0) 0 1 2),(.bool true)]) LQ (aj pg (exec pg 1000000) 37 Sh (aY GB))=true:=by decide +kernel
theorem OD:aM GC.length (.aW [(.aH (.mk .h0 .h6 .h8 .h2) 0 1 2),(.bool true)]) LR (aj pg (exec pg 1000000) 39 Si (aY GC))=true:=by decide +kernel
theorem OE:aM GD.length (.aW [(.aH (.mk .h0 .h6 .h8 .h5) 0 2 2),(.bool true)]) LS (aj pg (exec pg 1000000) 37 Sj (aY GD))=true:=by decide +kernel
end
end Go.Am.Seat
