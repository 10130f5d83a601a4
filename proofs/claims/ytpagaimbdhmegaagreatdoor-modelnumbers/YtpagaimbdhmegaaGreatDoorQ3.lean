/- Pieces of the closed run, whatever ways they may go. Nothing is asked. -/
import Derived.Test.YtpagaimbdhmegaaGreatDoorStates
import Derived.Test.YtpagaimbdhmegaaGreatDoorFast2
set_option linter.all false
namespace Go.Am.Seat
set_option maxRecDepth 1000000
noncomputable section
theorem RE:cD 7 (.nm Lh BX) (rounds 1 (exec pg 1000000 oA) Li (aY Ga))=true:=by decide +kernel
theorem RF:aM VZ.length (.agg [i0,i0,iS]) Wx (aj pg (exec pg 1000000) 8 XG (aY VZ))=true:=by decide +kernel
theorem RG:aM Wa.length (.agg [i0,i0,iS]) Wy (aj pg (exec pg 1000000) 9 XH (aY Wa))=true:=by decide +kernel
theorem RH:aM Wb.length (.aW [(.aH (.mk .h0 .h7 .h8 .hf) 0 1 2),(.bool true)]) Wz (aj pg (exec pg 1000000) 37 XI (aY Wb))=true:=by decide +kernel
theorem RI:aM Wc.length (.aW [(.aH (.mk .h0 .h7 .h9 .h1) 0 1 2),(.bool true)]) WA (aj pg (exec pg 1000000) 39 XJ (aY Wc))=true:=by decide +kernel
end
end Go.Am.Seat
