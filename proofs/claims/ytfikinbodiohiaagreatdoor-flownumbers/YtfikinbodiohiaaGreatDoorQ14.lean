/- Pieces of the closed run, whatever ways they may go. Nothing is asked. -/
import Derived.Test.YtfikinbodiohiaaGreatDoorStates
import Derived.Test.YtfikinbodiohiaaGreatDoorPure
set_option linter.all false
namespace Go.Am.Seat
set_option maxRecDepth 1000000
noncomputable section
theorem Qw:aB 7 (.nm Ft lR) (rounds 3 (exec pg 1000000 dY) Fs (aN lR))=true:=by decide +kernel
theorem Qx:aB 7 (.nm Fv Fu) (rounds 2 (exec pg 1000000 dY) Ft (aN lR))=true:=by decide +kernel
theorem Qy:aB 7 (.ex 2 Fw br) (exec pg 1000000 dY Fv (aN Fu))=true:=by decide +kernel
theorem Qz:aB 7 (.nm Fx br) (exec pg 1000000 lL Fw (aN br))=true:=by decide +kernel
theorem QA:aB 7 (.nm Fy br) (exec pg 1000000 zL Fx (aN br))=true:=by decide +kernel
theorem QB:aB 7 (.nm Fz Bu) (exec pg 1000000 zM Fy (aN br))=true:=by decide +kernel
theorem QC:aB 7 (.nm FA lS) (exec pg 1000000 zN Fz (aN Bu))=true:=by decide +kernel
theorem QD:aB 7 (.nm FB lS) (exec pg 1000000 zO FA (aN lS))=true:=by decide +kernel
theorem QE:aB 7 (.nm FC lS) (exec pg 1000000 zP FB (aN lS))=true:=by decide +kernel
end
end Go.Am.Seat
