/- Pieces of the closed run, whatever ways they may go. Nothing is asked. -/
import Derived.Test.YtfikinbodiohiaaGreatDoorStates
import Derived.Test.YtfikinbodiohiaaGreatDoorPure
set_option linter.all false
namespace Go.Am.Seat
set_option maxRecDepth 1000000
noncomputable section
theorem Wj:aB 7 (.nm Pl Pk) (rounds 1 (exec pg 1000000 dY) Pj (aN zT))=true:=by decide +kernel
theorem Wk:aB 7 (.ex 2 Pm br) (exec pg 1000000 dY Pl (aN Pk))=true:=by decide +kernel
theorem Wl:aB 7 (.nm Pn br) (exec pg 1000000 lL Pm (aN br))=true:=by decide +kernel
theorem Wm:aB 7 (.nm Po br) (exec pg 1000000 zL Pn (aN br))=true:=by decide +kernel
theorem Wn:aB 7 (.nm Pp Kz) (exec pg 1000000 zM Po (aN br))=true:=by decide +kernel
theorem Wo:aB 7 (.nm Pq uf) (exec pg 1000000 zN Pp (aN Kz))=true:=by decide +kernel
theorem Wp:aB 7 (.nm Pr uf) (exec pg 1000000 zO Pq (aN uf))=true:=by decide +kernel
theorem Wq:aB 7 (.nm Ps uf) (exec pg 1000000 zP Pr (aN uf))=true:=by decide +kernel
theorem Wr:aB 7 (.nm Pt zU) (rounds 4 (exec pg 1000000 dY) Ps (aN uf))=true:=by decide +kernel
theorem Ws:aB 7 (.nm Pu zU) (rounds 5 (exec pg 1000000 dY) Pt (aN zU))=true:=by decide +kernel
theorem Wt:aB 7 (.nm Pw Pv) (rounds 1 (exec pg 1000000 dY) Pu (aN zU))=true:=by decide +kernel
theorem Wu:aB 7 (.ex 2 Px br) (exec pg 1000000 dY Pw (aN Pv))=true:=by decide +kernel
theorem Wv:aB 7 (.nm Py br) (exec pg 1000000 lL Px (aN br))=true:=by decide +kernel
theorem Ww:aB 7 (.nm Pz br) (exec pg 1000000 zL Py (aN br))=true:=by decide +kernel
theorem Wx:aB 7 (.nm PA KA) (exec pg 1000000 zM Pz (aN br))=true:=by decide +kernel
theorem Wy:aB 7 (.nm PB rV) (exec pg 1000000 zN PA (aN KA))=true:=by decide +kernel
theorem Wz:aB 7 (.nm PC rV) (exec pg 1000000 zO PB (aN rV))=true:=by decide +kernel
theorem WA:aB 7 (.nm PD rV) (exec pg 1000000 zP PC (aN rV))=true:=by decide +kernel
end
end Go.Am.Seat
