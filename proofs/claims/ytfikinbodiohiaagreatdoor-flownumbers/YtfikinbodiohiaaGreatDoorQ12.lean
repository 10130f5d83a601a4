/- Pieces of the closed run, whatever ways they may go. Nothing is asked. -/
import Derived.Test.YtfikinbodiohiaaGreatDoorStates
import Derived.Test.YtfikinbodiohiaaGreatDoorPure
set_option linter.all false
namespace Go.Am.Seat
set_option maxRecDepth 1000000
noncomputable section
def GR:Pg:=(kj 14 (.fn (gY Zp XO (.bU [(.fX (.mk .h0 .h0 .h7 .h2) 0 3 2),i0]) Zo)) pg)
theorem RK:aB 7 (.nm EZ jZ) (rounds 1 (exec GR 1000000 dY) EY (aN pN))=true:=by decide +kernel
theorem RL:aB 7 (.nm Fa jZ) (rounds 2 (exec pg 1000000 dY) EZ (aN jZ))=true:=by decide +kernel
theorem RM:aB 7 (.nm Fb jZ) (rounds 3 (exec pg 1000000 dY) Fa (aN jZ))=true:=by decide +kernel
theorem VL:lM XP.length (.bU [(.fX (.mk .h0 .h0 .h7 .hb) 0 2 2),i0]) Zq (aD pg (exec pg 1000000) 14 Zr (aN XP))=true:=by decide +kernel
def GS:Pg:=(kj 14 (.fn (gY Zr XP (.bU [(.fX (.mk .h0 .h0 .h7 .hb) 0 2 2),i0]) Zq)) pg)
theorem RN:aB 7 (.nm Fe Fc) (rounds 1 (exec GS 1000000 dY) Fb (aN jZ))=true:=by decide +kernel
theorem RO:aB 7 (.ex 2 Ff br) (exec pg 1000000 dY Fe (aN Fc))=true:=by decide +kernel
theorem RP:aB 7 (.nm Fg br) (exec pg 1000000 lL Ff (aN br))=true:=by decide +kernel
theorem RQ:aB 7 (.nm Fh br) (exec pg 1000000 zL Fg (aN br))=true:=by decide +kernel
theorem RR:aB 7 (.nm Fi Br) (exec pg 1000000 zM Fh (aN br))=true:=by decide +kernel
theorem RU:aB 7 (.nm Fj kc) (exec pg 1000000 zN Fi (aN Br))=true:=by decide +kernel
theorem RW:aB 7 (.nm Fk kc) (exec pg 1000000 zO Fj (aN kc))=true:=by decide +kernel
theorem RX:aB 7 (.nm Fm kc) (exec pg 1000000 zP Fk (aN kc))=true:=by decide +kernel
end
end Go.Am.Seat
