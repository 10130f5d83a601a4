/- Pieces of the closed run, whatever ways they may go. Nothing is asked. -/
import Derived.Test.YtfikinbodiohiaaGreatDoorStates
import Derived.Test.YtfikinbodiohiaaGreatDoorPure
set_option linter.all false
namespace Go.Am.Seat
set_option maxRecDepth 1000000
noncomputable section
theorem Uo:lM XQ.length (.bU [(.fX (.mk .h0 .h0 .h5 .h2) 0 2 2),i0]) Zs (aD pg (exec pg 1000000) 14 Zt (aN XQ))=true:=by decide +kernel
def FU:Pg:=(kj 14 (.fn (gY Zt XQ (.bU [(.fX (.mk .h0 .h0 .h5 .h2) 0 2 2),i0]) Zs)) pg)
theorem Qs:aB 7 (.nm Fo Bs) (rounds 1 (exec FU 1000000 dY) Fm (aN kc))=true:=by decide +kernel
theorem Qt:aB 7 (.nm Fp Bt) (rounds 2 (exec pg 1000000 dY) Fo (aN Bs))=true:=by decide +kernel
theorem Qu:aB 7 (.nm Fq lR) (rounds 1 (exec pg 1000000 dY) Fp (aN Bt))=true:=by decide +kernel
theorem Qv:aB 7 (.nm Fs lR) (rounds 1 (exec pg 1000000 dY) Fq (aN lR))=true:=by decide +kernel
end
end Go.Am.Seat
