/- Pieces of the closed run, whatever ways they may go. Nothing is asked. -/
import Derived.Test.YtfikinbodiohiaaGreatDoorStates
import Derived.Test.YtfikinbodiohiaaGreatDoorPure
set_option linter.all false
namespace Go.Am.Seat
set_option maxRecDepth 1000000
noncomputable section
theorem UO:aB 7 (.nm OE OD) (rounds 1 (exec pg 1000000 dY) Oz (aN zR))=true:=by decide +kernel
theorem UP:aB 7 (.ex 2 OG br) (exec pg 1000000 dY OE (aN OD))=true:=by decide +kernel
theorem UQ:aB 7 (.nm OH br) (exec pg 1000000 lL OG (aN br))=true:=by decide +kernel
theorem UR:aB 7 (.nm OJ br) (exec pg 1000000 zL OH (aN br))=true:=by decide +kernel
theorem US:aB 7 (.nm OK Kw) (exec pg 1000000 zM OJ (aN br))=true:=by decide +kernel
theorem UT:aB 7 (.nm OO ud) (exec pg 1000000 zN OK (aN Kw))=true:=by decide +kernel
theorem UU:aB 7 (.nm OQ ud) (exec pg 1000000 zO OO (aN ud))=true:=by decide +kernel
theorem UW:aB 7 (.nm OT ud) (exec pg 1000000 zP OQ (aN ud))=true:=by decide +kernel
theorem UX:aB 7 (.nm OU zS) (rounds 4 (exec pg 1000000 dY) OT (aN ud))=true:=by decide +kernel
theorem UY:aB 7 (.nm OV zS) (rounds 5 (exec pg 1000000 dY) OU (aN zS))=true:=by decide +kernel
theorem UZ:aB 7 (.nm OX OW) (rounds 1 (exec pg 1000000 dY) OV (aN zS))=true:=by decide +kernel
theorem Va:aB 7 (.ex 2 OY br) (exec pg 1000000 dY OX (aN OW))=true:=by decide +kernel
theorem Vb:aB 7 (.nm OZ br) (exec pg 1000000 lL OY (aN br))=true:=by decide +kernel
theorem Vc:aB 7 (.nm Pa br) (exec pg 1000000 zL OZ (aN br))=true:=by decide +kernel
theorem Vd:aB 7 (.nm Pb Kx) (exec pg 1000000 zM Pa (aN br))=true:=by decide +kernel
theorem Ve:aB 7 (.nm Pc ue) (exec pg 1000000 zN Pb (aN Kx))=true:=by decide +kernel
theorem Vf:aB 7 (.nm Pd ue) (exec pg 1000000 zO Pc (aN ue))=true:=by decide +kernel
theorem Vg:aB 7 (.nm Pe ue) (exec pg 1000000 zP Pd (aN ue))=true:=by decide +kernel
end
end Go.Am.Seat
