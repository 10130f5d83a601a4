/- Pieces of the closed run, whatever ways they may go. Nothing is asked. -/
import Derived.Test.YtfikinbodiohiaaGreatDoorStates
import Derived.Test.YtfikinbodiohiaaGreatDoorPure
set_option linter.all false
namespace Go.Am.Seat
set_option maxRecDepth 1000000
noncomputable section
theorem Sk:aB 7 (.nm FN iD) (rounds 4 (exec pg 1000000 dY) FM (aN iD))=true:=by decide +kernel
theorem Sl:aB 7 (.nm FO uQ) (rounds 4 (exec pg 1000000 dY) FN (aN iD))=true:=by decide +kernel
theorem Sm:aB 7 (.nm FP uQ) (rounds 2 (exec pg 1000000 dY) FO (aN uQ))=true:=by decide +kernel
theorem Sn:aB 7 (.ex 2 FQ br) (exec pg 1000000 dY FP (aN uQ))=true:=by decide +kernel
theorem So:aB 7 (.nm FR br) (exec pg 1000000 lL FQ (aN br))=true:=by decide +kernel
theorem Sq:aB 7 (.ex 0 FT Kl) (exec pg 1000000 MM FR (aN br))=true:=by decide +kernel
theorem Su:aB 7 (.ret MY Kl) (exec pg 1000000 MN FT (aN Kl))=true:=by decide +kernel
end
end Go.Am.Seat
