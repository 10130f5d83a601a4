/- Pieces of the closed run, whatever ways they may go. Nothing is asked. -/
import Derived.Test.YtfikinbodiohiaaGreatDoorStates
import Derived.Test.YtfikinbodiohiaaGreatDoorPure
set_option linter.all false
namespace Go.Am.Seat
set_option maxRecDepth 1000000
noncomputable section
theorem Rz:aB 7 (.nm EN EM) (rounds 3 (exec pg 1000000 dY) EL (aN rY))=true:=by decide +kernel
theorem RA:aB 7 (.ex 2 EO br) (exec pg 1000000 dY EN (aN EM))=true:=by decide +kernel
theorem RB:aB 7 (.nm EP br) (exec pg 1000000 lL EO (aN br))=true:=by decide +kernel
theorem RC:aB 7 (.nm ER br) (exec pg 1000000 zL EP (aN br))=true:=by decide +kernel
theorem RD:aB 7 (.nm ES Bq) (exec pg 1000000 zM ER (aN br))=true:=by decide +kernel
theorem RE:aB 7 (.nm ET jY) (exec pg 1000000 zN ES (aN Bq))=true:=by decide +kernel
theorem RF:aB 7 (.nm EU jY) (exec pg 1000000 zO ET (aN jY))=true:=by decide +kernel
theorem RG:aB 7 (.nm EV jY) (exec pg 1000000 zP EU (aN jY))=true:=by decide +kernel
theorem VI:lM XM.length (.bU [(.fX (.mk .h0 .h0 .h5 .h5) 0 2 2),i0]) Zk (aD pg (exec pg 1000000) 14 Zl (aN XM))=true:=by decide +kernel
def GP:Pg:=(kj 14 (.fn (gY Zl XM (.bU [(.fX (.mk .h0 .h0 .h5 .h5) 0 2 2),i0]) Zk)) pg)
theorem RH:aB 7 (.nm EW yl) (rounds 1 (exec GP 1000000 dY) EV (aN jY))=true:=by decide +kernel
theorem VJ:lM XN.length (.bU [(.fX (.mk .h0 .h0 .h7 .h7) 0 3 2),i0]) Zm (aD pg (exec pg 1000000) 14 Zn (aN XN))=true:=by decide +kernel
def GQ:Pg:=(kj 14 (.fn (gY Zn XN (.bU [(.fX (.mk .h0 .h0 .h7 .h7) 0 3 2),i0]) Zm)) pg)
theorem RI:aB 7 (.nm EX pN) (rounds 1 (exec GQ 1000000 dY) EW (aN yl))=true:=by decide +kernel
theorem RJ:aB 7 (.nm EY pN) (rounds 1 (exec pg 1000000 dY) EX (aN pN))=true:=by decide +kernel
theorem VK:lM XO.length (.bU [(.fX (.mk .h0 .h0 .h7 .h2) 0 3 2),i0]) Zo (aD pg (exec pg 1000000) 14 Zp (aN XO))=true:=by decide +kernel
end
end Go.Am.Seat
