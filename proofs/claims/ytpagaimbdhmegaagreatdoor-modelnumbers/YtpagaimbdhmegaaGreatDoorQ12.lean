/- Pieces of the closed run, whatever ways they may go. Nothing is asked. -/
import Derived.Test.YtpagaimbdhmegaaGreatDoorStates
import Derived.Test.YtpagaimbdhmegaaGreatDoorFast2
set_option linter.all false
namespace Go.Am.Seat
set_option maxRecDepth 1000000
noncomputable section
theorem Qi:aM GF.length (.aW [(.aH (.mk .h0 .h6 .h8 .h8) 0 2 2),(.bool true)]) Sk (aj pg (exec pg 1000000) 39 Sl (aY GF))=true:=by decide +kernel
def Qj:Pg:=(fG 39 (.fn (fx (aD Sg GA (.aW [(.aH (.mk .h0 .h6 .h7 .hc) 0 2 2),(.bool true)]) LP) (fx (aD Si GC (.aW [(.aH (.mk .h0 .h6 .h8 .h2) 0 1 2),(.bool true)]) LR) (aD Sl GF (.aW [(.aH (.mk .h0 .h6 .h8 .h8) 0 2 2),(.bool true)]) Sk)))) (fG 37 (.fn (fx (aD Sf Gz (.aW [(.aH (.mk .h0 .h6 .h7 .h9) 0 2 2),(.bool true)]) LO) (fx (aD Sh GB (.aW [(.aH (.mk .h0 .h6 .h8 .h0) 0 1 2),(.bool true)]) LQ) (aD Sj GD (.aW [(.aH (.mk .h0 .h6 .h8 .h5) 0 2 2),(.bool true)]) LS)))) (fG 9 (.fn (aD Se Gy (.agg [i0,i0,iS]) LN)) (fG 8 (.fn (aD Sc Gx (.agg [i0,i0,iS]) LM)) pg))))
theorem Vt:cD 7 (.nm LL Ch) (rounds 1 (exec Qj 1000000 oA) LC (aY Cg))=true:=by decide +kernel
theorem Qk:aM GG.length (.agg [i0,i0,iS]) LV (aj pg (exec pg 1000000) 8 Sm (aY GG))=true:=by decide +kernel
theorem Ql:aM GH.length (.agg [i0,i0,iS]) LW (aj pg (exec pg 1000000) 9 Sn (aY GH))=true:=by decide +kernel
theorem Qm:aM GJ.length (.aW [(.aH (.mk .h0 .h6 .h8 .h3) 0 5 2),(.bool true)]) LX (aj pg (exec pg 1000000) 37 So (aY GJ))=true:=by decide +kernel
theorem Qn:aM GK.length (.aW [(.aH (.mk .h0 .h6 .h8 .h9) 0 5 2),(.bool true)]) LY (aj pg (exec pg 1000000) 39 Sp (aY GK))=true:=by decide +kernel
theorem Qo:aM GL.length (.aW [(.aH (.mk .h0 .h6 .h9 .h0) 0 1 2),(.bool true)]) LZ (aj pg (exec pg 1000000) 37 Sq (aY GL))=true:=by decide +kernel
theorem Qp:aM GM.length (.aW [(.aH (.mk .h0 .h6 .h9 .h2) 0 1 2),(.bool true)]) Ma (aj pg (exec pg 1000000) 39 Sr (aY GM))=true:=by decide +kernel
theorem Qq:aM GN.length (.aW [(.aH (.mk .h0 .h6 .h9 .h5) 0 2 2),(.bool true)]) Mb (aj pg (exec pg 1000000) 37 Ss (aY GN))=true:=by decide +kernel
theorem Qr:aM GO.length (.aW [(.aH (.mk .h0 .h6 .h9 .h8) 0 2 2),(.bool true)]) Su (aj pg (exec pg 1000000) 39 Sv (aY GO))=true:=by decide +kernel
def Qs:Pg:=(fG 39 (.fn (fx (aD Sp GK (.aW [(.aH (.mk .h0 .h6 .h8 .h9) 0 5 2),(.bool true)]) LY) (fx (aD Sr GM (.aW [(.aH (.mk .h0 .h6 .h9 .h2) 0 1 2),(.bool true)]) Ma) (aD Sv GO (.aW [(.aH (.mk .h0 .h6 .h9 .h8) 0 2 2),(.bool true)]) Su)))) (fG 37 (.fn (fx (aD So GJ (.aW [(.aH (.mk .h0 .h6 .h8 .h3) 0 5 2),(.bool true)]) LX) (fx (aD Sq GL (.aW [(.aH (.mk .h0 .h6 .h9 .h0) 0 1 2),(.bool true)]) LZ) (aD Ss GN (.aW [(.aH (.mk .h0 .h6 .h9 .h5) 0 2 2),(.bool true)]) Mb)))) (fG 9 (.fn (aD Sn GH (.agg [i0,i0,iS]) LW)) (fG 8 (.fn (aD Sm GG (.agg [i0,i0,iS]) LV)) pg))))
theorem Vu:cD 7 (.nm LU Ci) (rounds 1 (exec Qs 1000000 oA) LL (aY Ch))=true:=by decide +kernel
end
end Go.Am.Seat
