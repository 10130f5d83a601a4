/- Pieces of the closed run, whatever ways they may go. Nothing is asked. -/
import Derived.Test.YtfikinbodiohiaaGreatDoorStates
import Derived.Test.YtfikinbodiohiaaGreatDoorPure
set_option linter.all false
namespace Go.Am.Seat
set_option maxRecDepth 1000000
noncomputable section
theorem VW:aB 7 (.nm Om Ol) (rounds 5 (exec pg 1000000 dY) Ok (aN Ku))=true:=by decide +kernel
theorem VX:aB 7 (.ex 2 Oo br) (exec pg 1000000 dY Om (aN Ol))=true:=by decide +kernel
theorem VY:aB 7 (.nm Oq br) (exec pg 1000000 lL Oo (aN br))=true:=by decide +kernel
theorem VZ:aB 7 (.nm Ot br) (exec pg 1000000 zL Oq (aN br))=true:=by decide +kernel
theorem Wa:aB 7 (.nm Ou Kv) (exec pg 1000000 zM Ot (aN br))=true:=by decide +kernel
theorem Wb:aB 7 (.nm Ov uc) (exec pg 1000000 zN Ou (aN Kv))=true:=by decide +kernel
theorem Wc:aB 7 (.nm Ow uc) (exec pg 1000000 zO Ov (aN uc))=true:=by decide +kernel
theorem Wd:aB 7 (.nm Ox uc) (exec pg 1000000 zP Ow (aN uc))=true:=by decide +kernel
theorem We:aB 7 (.nm Oy zR) (rounds 4 (exec pg 1000000 dY) Ox (aN uc))=true:=by decide +kernel
theorem Wf:aB 7 (.nm Oz zR) (rounds 5 (exec pg 1000000 dY) Oy (aN zR))=true:=by decide +kernel
end
end Go.Am.Seat
