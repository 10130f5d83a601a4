/- Pieces of the closed run, whatever ways they may go. Nothing is asked. -/
import Derived.Test.YtfikinbodiohiaaGreatDoorStates
import Derived.Test.YtfikinbodiohiaaGreatDoorPure
set_option linter.all false
namespace Go.Am.Seat
set_option maxRecDepth 1000000
noncomputable section
theorem RY:aB 7 (.nm FD np) (rounds 4 (exec pg 1000000 dY) FC (aN lS))=true:=by decide +kernel
theorem RZ:aB 7 (.nm FE np) (rounds 5 (exec pg 1000000 dY) FD (aN np))=true:=by decide +kernel
theorem Sa:aB 7 (.nm FF np) (rounds 1 (exec pg 1000000 dY) FE (aN np))=true:=by decide +kernel
theorem Sb:aB 7 (.ex 2 FG br) (exec pg 1000000 dY FF (aN np))=true:=by decide +kernel
theorem Sc:aB 7 (.nm FH br) (exec pg 1000000 lL FG (aN br))=true:=by decide +kernel
theorem Se:aB 7 (.nm FI br) (exec pg 1000000 zL FH (aN br))=true:=by decide +kernel
theorem Sf:aB 7 (.nm FJ Bv) (exec pg 1000000 zM FI (aN br))=true:=by decide +kernel
theorem Sh:aB 7 (.nm FK iD) (exec pg 1000000 zN FJ (aN Bv))=true:=by decide +kernel
theorem Si:aB 7 (.nm FL iD) (exec pg 1000000 zO FK (aN iD))=true:=by decide +kernel
theorem Sj:aB 7 (.nm FM iD) (exec pg 1000000 zP FL (aN iD))=true:=by decide +kernel
end
end Go.Am.Seat
