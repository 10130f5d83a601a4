/- Pieces of the closed run, whatever ways they may go. Nothing is asked. -/
import Derived.Test.YtfikinbodiohiaaGreatDoorStates
import Derived.Test.YtfikinbodiohiaaGreatDoorPure
set_option linter.all false
namespace Go.Am.Seat
set_option maxRecDepth 1000000
noncomputable section
theorem VF:lM XI.length (.bU [.ai,i0]) Zc (aD pg (exec pg 1000000) 14 Zd (aN XI))=true:=by decide +kernel
def Rr:Pg:=(kj 14 (.fn (gY Zd XI (.bU [.ai,i0]) Zc)) pg)
theorem WB:aB 7 (.nm PE KB) (rounds 1 (exec Rr 1000000 dY) PD (aN rV))=true:=by decide +kernel
theorem WC:aB 7 (.nm PF KC) (rounds 4 (exec pg 1000000 dY) PE (aN KB))=true:=by decide +kernel
theorem WD:aB 7 (.nm PH PG) (rounds 5 (exec pg 1000000 dY) PF (aN KC))=true:=by decide +kernel
theorem WE:aB 7 (.ex 2 PI br) (exec pg 1000000 dY PH (aN PG))=true:=by decide +kernel
theorem WG:aB 7 (.nm PJ br) (exec pg 1000000 lL PI (aN br))=true:=by decide +kernel
theorem WH:aB 7 (.nm PL br) (exec pg 1000000 zL PJ (aN br))=true:=by decide +kernel
theorem WI:aB 7 (.nm PM KD) (exec pg 1000000 zM PL (aN br))=true:=by decide +kernel
theorem WJ:aB 7 (.nm PN rW) (exec pg 1000000 zN PM (aN KD))=true:=by decide +kernel
theorem WK:aB 7 (.nm PO rW) (exec pg 1000000 zO PN (aN rW))=true:=by decide +kernel
theorem WL:aB 7 (.nm PQ rW) (exec pg 1000000 zP PO (aN rW))=true:=by decide +kernel
end
end Go.Am.Seat
