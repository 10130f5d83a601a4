/- Pieces of the closed run, whatever ways they may go. Nothing is asked. -/
import Derived.Test.YtpagaimbdhmegaaGreatDoorStates
import Derived.Test.YtpagaimbdhmegaaGreatDoorFast2
set_option linter.all false
namespace Go.Am.Seat
set_option maxRecDepth 1000000
noncomputable section
theorem Qy:aM Gi.length (.aW [(.aH (.mk .h0 .h7 .h9 .h7) 0 1 2),(.bool true)]) Lv (aj pg (exec pg 1000000) 37 RN (aY Gi))=true:=by decide +kernel
theorem Qz:aM Gj.length (.aW [(.aH (.mk .h0 .h7 .h9 .h9) 0 1 2),(.bool true)]) RO (aj pg (exec pg 1000000) 39 RP (aY Gj))=true:=by decide +kernel
def QA:Pg:=(fG 39 (.fn (fx (aD RK Gf (.aW [(.aH (.mk .h0 .h7 .h8 .hd) 0 1 2),(.bool true)]) Ls) (fx (aD RM Gh (.aW [(.aH (.mk .h0 .h7 .h9 .h3) 0 1 2),(.bool true)]) Lu) (aD RP Gj (.aW [(.aH (.mk .h0 .h7 .h9 .h9) 0 1 2),(.bool true)]) RO)))) (fG 37 (.fn (fx (aD RJ Ge (.aW [(.aH (.mk .h0 .h7 .h8 .hb) 0 1 2),(.bool true)]) Lq) (fx (aD RL Gg (.aW [(.aH (.mk .h0 .h7 .h9 .h1) 0 1 2),(.bool true)]) Lt) (aD RN Gi (.aW [(.aH (.mk .h0 .h7 .h9 .h7) 0 1 2),(.bool true)]) Lv)))) (fG 9 (.fn (aD XQ Wo (.agg [(pi 26),i0,(.str [97])]) WR)) (fG 8 (.fn (aD XP Wn (.agg [(pi 26),i0,(.str [97])]) WQ)) pg))))
theorem Vw:cD 7 (.nm Lp Gd) (rounds 1 (exec QA 1000000 oA) Lo (aY Cd))=true:=by decide +kernel
theorem Vx:cD 7 (.nm Lw Gk) (rounds 1 (exec pg 1000000 oA) Lp (aY Gd))=true:=by decide +kernel
end
end Go.Am.Seat
