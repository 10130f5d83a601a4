/- Pieces of the closed run, whatever ways they may go. Nothing is asked. -/
import Derived.Test.YtpagaimbdhmegaaGreatDoorStates
import Derived.Test.YtpagaimbdhmegaaGreatDoorFast2
set_option linter.all false
namespace Go.Am.Seat
set_option maxRecDepth 1000000
noncomputable section
theorem VF:aM Wj.length (.aW [(.aH (.mk .h0 .h7 .h9 .h5) 0 1 2),(.bool true)]) WM (aj pg (exec pg 1000000) 37 XK (aY Wj))=true:=by decide +kernel
theorem VH:aM Wk.length (.aW [(.aH (.mk .h0 .h7 .h9 .h7) 0 1 2),(.bool true)]) WN (aj pg (exec pg 1000000) 39 XL (aY Wk))=true:=by decide +kernel
theorem VG:aM Wl.length (.aW [(.aH (.mk .h0 .h7 .h9 .hb) 0 1 2),(.bool true)]) WO (aj pg (exec pg 1000000) 37 XM (aY Wl))=true:=by decide +kernel
theorem VI:aM Wm.length (.aW [(.aH (.mk .h0 .h7 .h9 .hd) 0 1 2),(.bool true)]) XN (aj pg (exec pg 1000000) 39 XO (aY Wm))=true:=by decide +kernel
def Rk:Pg:=(fG 39 (.fn (fx (aD XJ Wc (.aW [(.aH (.mk .h0 .h7 .h9 .h1) 0 1 2),(.bool true)]) WA) (fx (aD XL Wk (.aW [(.aH (.mk .h0 .h7 .h9 .h7) 0 1 2),(.bool true)]) WN) (aD XO Wm (.aW [(.aH (.mk .h0 .h7 .h9 .hd) 0 1 2),(.bool true)]) XN)))) (fG 37 (.fn (fx (aD XI Wb (.aW [(.aH (.mk .h0 .h7 .h8 .hf) 0 1 2),(.bool true)]) Wz) (fx (aD XK Wj (.aW [(.aH (.mk .h0 .h7 .h9 .h5) 0 1 2),(.bool true)]) WM) (aD XM Wl (.aW [(.aH (.mk .h0 .h7 .h9 .hb) 0 1 2),(.bool true)]) WO)))) (fG 9 (.fn (aD XH Wa (.agg [i0,i0,iS]) Wy)) (fG 8 (.fn (aD XG VZ (.agg [i0,i0,iS]) Wx)) pg))))
theorem VX:cD 7 (.nm Lo Cd) (rounds 1 (exec Rk 1000000 oA) Lh (aY BX))=true:=by decide +kernel
theorem VK:aM Wn.length (.agg [(pi 26),i0,(.str [97])]) WQ (aj pg (exec pg 1000000) 8 XP (aY Wn))=true:=by decide +kernel
theorem VL:aM Wo.length (.agg [(pi 26),i0,(.str [97])]) WR (aj pg (exec pg 1000000) 9 XQ (aY Wo))=true:=by decide +kernel
theorem Rl:aM Ge.length (.aW [(.aH (.mk .h0 .h7 .h8 .hb) 0 1 2),(.bool true)]) Lq (aj pg (exec pg 1000000) 37 RJ (aY Ge))=true:=by decide +kernel
theorem Rn:aM Gf.length (.aW [(.aH (.mk .h0 .h7 .h8 .hd) 0 1 2),(.bool true)]) Ls (aj pg (exec pg 1000000) 39 RK (aY Gf))=true:=by decide +kernel
theorem Rm:aM Gg.length (.aW [(.aH (.mk .h0 .h7 .h9 .h1) 0 1 2),(.bool true)]) Lt (aj pg (exec pg 1000000) 37 RL (aY Gg))=true:=by decide +kernel
theorem Ro:aM Gh.length (.aW [(.aH (.mk .h0 .h7 .h9 .h3) 0 1 2),(.bool true)]) Lu (aj pg (exec pg 1000000) 39 RM (aY Gh))=true:=by decide +kernel
end
end Go.Am.Seat
