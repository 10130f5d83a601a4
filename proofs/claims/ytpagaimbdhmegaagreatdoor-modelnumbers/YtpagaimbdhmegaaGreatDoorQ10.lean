/- Pieces of the closed run, whatever ways they may go. Nothing is asked. -/
import Derived.Test.YtpagaimbdhmegaaGreatDoorStates
import Derived.Test.YtpagaimbdhmegaaGreatDoorFast2
set_option linter.all false
namespace Go.Am.Seat
set_option maxRecDepth 1000000
noncomputable section
theorem Vv:cD 7 (.nm LB Ce) (rounds 2 (exec pg 1000000 oA) Le (aY FY))=true:=by decide +kernel
theorem Qt:aM Gp.length (.agg [i0,i0,iS]) LD (aj pg (exec pg 1000000) 8 RQ (aY Gp))=true:=by decide +kernel
theorem Qu:aM Gq.length (.agg [i0,i0,iS]) LF (aj pg (exec pg 1000000) 9 RR (aY Gq))=true:=by decide +kernel
theorem Qv:aM Gr.length (.aW [(.aH (.mk .h0 .h6 .h6 .he) 0 1 2),(.bool true)]) LG (aj pg (exec pg 1000000) 37 RU (aY Gr))=true:=by decide +kernel
theorem Qw:aM Gs.length (.aW [(.aH (.mk .h0 .h6 .h7 .h0) 0 1 2),(.bool true)]) LH (aj pg (exec pg 1000000) 39 RW (aY Gs))=true:=by decide +kernel
theorem Qx:aM Gt.length (.aW [(.aH (.mk .h0 .h6 .h7 .h3) 0 1 2),(.bool true)]) LI (aj pg (exec pg 1000000) 37 RX (aY Gt))=true:=by decide +kernel
end
end Go.Am.Seat
