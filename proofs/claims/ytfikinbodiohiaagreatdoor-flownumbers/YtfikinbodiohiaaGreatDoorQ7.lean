/- Pieces of the closed run, whatever ways they may go. Nothing is asked. -/
import Derived.Test.YtfikinbodiohiaaGreatDoorStates
import Derived.Test.YtfikinbodiohiaaGreatDoorPure
set_option linter.all false
namespace Go.Am.Seat
set_option maxRecDepth 1000000
noncomputable section
theorem Ur:aB 7 (.nm PX ug) (rounds 3 (exec pg 1000000 dY) PW (aN ug))=true:=by decide +kernel
theorem Us:aB 7 (.nm PZ PY) (rounds 2 (exec pg 1000000 dY) PX (aN ug))=true:=by decide +kernel
theorem Ut:aB 7 (.ex 2 Qa br) (exec pg 1000000 dY PZ (aN PY))=true:=by decide +kernel
theorem Uu:aB 7 (.nm Qb br) (exec pg 1000000 lL Qa (aN br))=true:=by decide +kernel
theorem Uv:aB 7 (.nm Qc br) (exec pg 1000000 zL Qb (aN br))=true:=by decide +kernel
theorem Uw:aB 7 (.nm Qd KH) (exec pg 1000000 zM Qc (aN br))=true:=by decide +kernel
theorem Ux:aB 7 (.nm Qe rX) (exec pg 1000000 zN Qd (aN KH))=true:=by decide +kernel
theorem Uy:aB 7 (.nm Qf rX) (exec pg 1000000 zO Qe (aN rX))=true:=by decide +kernel
theorem Uz:aB 7 (.nm Qg rX) (exec pg 1000000 zP Qf (aN rX))=true:=by decide +kernel
theorem UA:lM XK.length (.bU [(.fX (.mk .h0 .h0 .h4 .h2) 0 2 2),i0]) Zg (aD pg (exec pg 1000000) 14 Zh (aN XK))=true:=by decide +kernel
def QJ:Pg:=(kj 14 (.fn (gY Zh XK (.bU [(.fX (.mk .h0 .h0 .h4 .h2) 0 2 2),i0]) Zg)) pg)
theorem UB:aB 7 (.nm Qh KI) (rounds 1 (exec QJ 1000000 dY) Qg (aN rX))=true:=by decide +kernel
end
end Go.Am.Seat
