/- Pieces of the closed run, whatever ways they may go. Nothing is asked. -/
import Derived.Test.YtfikinbodiohiaaGreatDoorStates
import Derived.Test.YtfikinbodiohiaaGreatDoorPure
set_option linter.all false
namespace Go.Am.Seat
set_option maxRecDepth 1000000
noncomputable section
theorem UC:aB 7 (.nm Ql Qk) (rounds 2 (exec pg 1000000 dY) Qj (aN zV))=true:=by decide +kernel
theorem UD:aB 7 (.ex 2 Qm br) (exec pg 1000000 dY Ql (aN Qk))=true:=by decide +kernel
theorem UE:aB 7 (.nm Qn br) (exec pg 1000000 lL Qm (aN br))=true:=by decide +kernel
theorem UF:aB 7 (.nm Qo br) (exec pg 1000000 zL Qn (aN br))=true:=by decide +kernel
theorem UG:aB 7 (.nm Qp KJ) (exec pg 1000000 zM Qo (aN br))=true:=by decide +kernel
theorem UH:aB 7 (.nm Qq uh) (exec pg 1000000 zN Qp (aN KJ))=true:=by decide +kernel
theorem QK:aB 7 (.nm Qr uh) (exec pg 1000000 zO Qq (aN uh))=true:=by decide +kernel
theorem QL:aB 7 (.nm Ey uh) (exec pg 1000000 zP Qr (aN uh))=true:=by decide +kernel
theorem QM:aB 7 (.nm Ez uN) (rounds 6 (exec pg 1000000 dY) Ey (aN uh))=true:=by decide +kernel
theorem QN:aB 7 (.nm EA uN) (rounds 4 (exec pg 1000000 dY) Ez (aN uN))=true:=by decide +kernel
theorem QO:aB 7 (.ex 2 EC br) (exec pg 1000000 dY EA (aN uN))=true:=by decide +kernel
theorem QP:aB 7 (.nm ED br) (exec pg 1000000 lL EC (aN br))=true:=by decide +kernel
theorem QQ:aB 7 (.nm EE br) (exec pg 1000000 zL ED (aN br))=true:=by decide +kernel
theorem QR:aB 7 (.nm EF Bo) (exec pg 1000000 zM EE (aN br))=true:=by decide +kernel
theorem QS:aB 7 (.nm EG jX) (exec pg 1000000 zN EF (aN Bo))=true:=by decide +kernel
theorem QT:aB 7 (.nm EH jX) (exec pg 1000000 zO EG (aN jX))=true:=by decide +kernel
theorem QU:aB 7 (.nm EI jX) (exec pg 1000000 zP EH (aN jX))=true:=by decide +kernel
end
end Go.Am.Seat
