/- Pieces of the closed run, whatever ways they may go. Nothing is asked. -/
import Derived.Test.YtpagaimbdhmegaaGreatDoorStates
import Derived.Test.YtpagaimbdhmegaaGreatDoorFast2
set_option linter.all false
namespace Go.Am.Seat
set_option maxRecDepth 1000000
noncomputable section
theorem QN:aM Hk.length (.aW [(.aH (.mk .h0 .h6 .h8 .h7) 0 1 2),(.bool true)]) Mx (aj pg (exec pg 1000000) 37 SS (aY Hk))=true:=by decide +kernel
theorem QO:aM Hl.length (.aW [(.aH (.mk .h0 .h6 .h8 .h9) 0 1 2),(.bool true)]) My (aj pg (exec pg 1000000) 39 SU (aY Hl))=true:=by decide +kernel
theorem QP:aM Hm.length (.aW [(.aH (.mk .h0 .h6 .h8 .hc) 0 2 2),(.bool true)]) Mz (aj pg (exec pg 1000000) 37 SV (aY Hm))=true:=by decide +kernel
theorem QQ:aM Hn.length (.aW [(.aH (.mk .h0 .h6 .h8 .hf) 0 2 2),(.bool true)]) SX (aj pg (exec pg 1000000) 39 SY (aY Hn))=true:=by decide +kernel
def QR:Pg:=(fG 39 (.fn (fx (aD SR Hj (.aW [(.aH (.mk .h0 .h6 .h8 .h0) 0 5 2),(.bool true)]) Mw) (fx (aD SU Hl (.aW [(.aH (.mk .h0 .h6 .h8 .h9) 0 1 2),(.bool true)]) My) (aD SY Hn (.aW [(.aH (.mk .h0 .h6 .h8 .hf) 0 2 2),(.bool true)]) SX)))) (fG 37 (.fn (fx (aD SQ Hi (.aW [(.aH (.mk .h0 .h6 .h7 .ha) 0 5 2),(.bool true)]) Mv) (fx (aD SS Hk (.aW [(.aH (.mk .h0 .h6 .h8 .h7) 0 1 2),(.bool true)]) Mx) (aD SV Hm (.aW [(.aH (.mk .h0 .h6 .h8 .hc) 0 2 2),(.bool true)]) Mz)))) (fG 9 (.fn (aD SP Hh (.agg [(pi 13),i0,(.str [106])]) Mu)) (fG 8 (.fn (aD SO Hg (.agg [(pi 13),i0,(.str [106])]) Mt)) pg))))
theorem VA:cD 7 (.nm Ms Cm) (rounds 1 (exec QR 1000000 oA) Mk (aY Ck))=true:=by decide +kernel
theorem QS:aM Ho.length (.agg [(pi 13),i0,(.str [106])]) MB (aj pg (exec pg 1000000) 8 SZ (aY Ho))=true:=by decide +kernel
theorem QT:aM Hq.length (.agg [(pi 13),i0,(.str [106])]) MC (aj pg (exec pg 1000000) 9 Ta (aY Hq))=true:=by decide +kernel
theorem QU:aM Hr.length (.aW [(.aH (.mk .h0 .h6 .h7 .ha) 0 5 2),(.bool true)]) MD (aj pg (exec pg 1000000) 37 Tb (aY Hr))=true:=by decide +kernel
theorem QV:aM Hs.length (.aW [(.aH (.mk .h0 .h6 .h8 .h0) 0 5 2),(.bool true)]) ME (aj pg (exec pg 1000000) 39 Tc (aY Hs))=true:=by decide +kernel
theorem QW:aM Ht.length (.aW [(.aH (.mk .h0 .h6 .h8 .h7) 0 1 2),(.bool true)]) MF (aj pg (exec pg 1000000) 37 Td (aY Ht))=true:=by decide +kernel
theorem QX:aM Hu.length (.aW [(.aH (.mk .h0 .h6 .h8 .h9) 0 1 2),(.bool true)]) MG (aj pg (exec pg 1000000) 39 Te (aY Hu))=true:=by decide +kernel
end
end Go.Am.Seat
