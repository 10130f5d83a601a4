/- Pieces of the closed run, whatever ways they may go. Nothing is asked. -/
import Derived.Test.YtfikinbodiohiaaGreatDoorStates
import Derived.Test.YtfikinbodiohiaaGreatDoorPure
set_option linter.all false
namespace Go.Am.Seat
set_option maxRecDepth 1000000
noncomputable section
theorem UI:lM XJ.length (.bU [(.fX (.mk .h0 .h0 .h5 .h0) 0 2 2),i0]) Ze (aD pg (exec pg 1000000) 14 Zf (aN XJ))=true:=by decide +kernel
def QV:Pg:=(kj 14 (.fn (gY Zf XJ (.bU [(.fX (.mk .h0 .h0 .h5 .h0) 0 2 2),i0]) Ze)) pg)
theorem UJ:aB 7 (.nm PT KE) (rounds 1 (exec QV 1000000 dY) PQ (aN rW))=true:=by decide +kernel
theorem UL:aB 7 (.nm PU KG) (rounds 2 (exec pg 1000000 dY) PT (aN KE))=true:=by decide +kernel
theorem UM:aB 7 (.nm PV ug) (rounds 1 (exec pg 1000000 dY) PU (aN KG))=true:=by decide +kernel
theorem UN:aB 7 (.nm PW ug) (rounds 1 (exec pg 1000000 dY) PV (aN ug))=true:=by decide +kernel
end
end Go.Am.Seat
