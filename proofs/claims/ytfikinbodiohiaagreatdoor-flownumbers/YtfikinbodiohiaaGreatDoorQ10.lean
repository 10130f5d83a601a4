/- Pieces of the closed run, whatever ways they may go. Nothing is asked. -/
import Derived.Test.YtfikinbodiohiaaGreatDoorStates
import Derived.Test.YtfikinbodiohiaaGreatDoorPure
set_option linter.all false
namespace Go.Am.Seat
set_option maxRecDepth 1000000
noncomputable section
theorem Uq:lM XL.length (.bU [.ai,i0]) Zi (aD pg (exec pg 1000000) 14 Zj (aN XL))=true:=by decide +kernel
def FX:Pg:=(kj 14 (.fn (gY Zj XL (.bU [.ai,i0]) Zi)) pg)
theorem QG:aB 7 (.nm EJ Bp) (rounds 1 (exec FX 1000000 dY) EI (aN jX))=true:=by decide +kernel
theorem QH:aB 7 (.nm EK rY) (rounds 3 (exec pg 1000000 dY) EJ (aN Bp))=true:=by decide +kernel
theorem QI:aB 7 (.nm EL rY) (rounds 3 (exec pg 1000000 dY) EK (aN rY))=true:=by decide +kernel
end
end Go.Am.Seat
