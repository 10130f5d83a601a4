/- The closed run ends in true, piece by piece. Nothing is asked. -/
import Derived.Test.YtpagaimbdhmegaaGreatDoorQ0
import Derived.Test.YtpagaimbdhmegaaGreatDoorQ1
import Derived.Test.YtpagaimbdhmegaaGreatDoorQ2
import Derived.Test.YtpagaimbdhmegaaGreatDoorQ3
import Derived.Test.YtpagaimbdhmegaaGreatDoorQ4
import Derived.Test.YtpagaimbdhmegaaGreatDoorQ5
import Derived.Test.YtpagaimbdhmegaaGreatDoorQ6
import Derived.Test.YtpagaimbdhmegaaGreatDoorQ7
import Derived.Test.YtpagaimbdhmegaaGreatDoorQ8
import Derived.Test.YtpagaimbdhmegaaGreatDoorQ9
import Derived.Test.YtpagaimbdhmegaaGreatDoorQ10
import Derived.Test.YtpagaimbdhmegaaGreatDoorQ11
import Derived.Test.YtpagaimbdhmegaaGreatDoorQ12
import Derived.Test.YtpagaimbdhmegaaGreatDoorQ13
import Derived.Test.YtpagaimbdhmegaaGreatDoorQ14
import Derived.Test.YtpagaimbdhmegaaGreatDoorQ15
import Derived.Test.YtpagaimbdhmegaaGreatDoorQ16
import Derived.Test.YtpagaimbdhmegaaGreatDoorQ17
import Derived.Test.YtpagaimbdhmegaaGreatDoorQ18
import Derived.Test.YtpagaimbdhmegaaGreatDoorEnv
import Derived.Test.YtpagaimbdhmegaaGreatDoorG
set_option linter.all false
open Go.Proofs
namespace Go.Am.Seat
set_option maxRecDepth 100000
noncomputable section
theorem uy:bP Tryz.prog ⟨7,[],none⟩ dP pg 1000000:=dw env (eL env) 1000000
theorem VE:bP Tryz.prog ⟨7,[],none⟩ dP Rk 1000000:=let E:Env Tryz.prog ⟨7,[],none⟩ dP Rk:=((((env.cB 8 (by rfl) _ (aP env 1000000 8 RF)).cB 9 (by rfl) _ (aP env 1000000 9 RG)).cB 37 (by rfl) _ (bt (aP env 1000000 37 RH) (bt (aP env 1000000 37 VF) (aP env 1000000 37 VG)))).cB 39 (by rfl) _ (bt (aP env 1000000 39 RI) (bt (aP env 1000000 39 VH) (aP env 1000000 39 VI))));dw E (eL E) 1000000
theorem VJ:bP Tryz.prog ⟨7,[],none⟩ dP QA 1000000:=let E:Env Tryz.prog ⟨7,[],none⟩ dP QA:=((((env.cB 8 (by rfl) _ (aP env 1000000 8 VK)).cB 9 (by rfl) _ (aP env 1000000 9 VL)).cB 37 (by rfl) _ (bt (aP env 1000000 37 Rl) (bt (aP env 1000000 37 Rm) (aP env 1000000 37 Qy)))).cB 39 (by rfl) _ (bt (aP env 1000000 39 Rn) (bt (aP env 1000000 39 Ro) (aP env 1000000 39 Qz))));dw E (eL E) 1000000
theorem VM:bP Tryz.prog ⟨7,[],none⟩ dP Ou 1000000:=let E:Env Tryz.prog ⟨7,[],none⟩ dP Ou:=((((env.cB 8 (by rfl) _ (aP env 1000000 8 Qt)).cB 9 (by rfl) _ (aP env 1000000 9 Qu)).cB 37 (by rfl) _ (bt (aP env 1000000 37 Qv) (bt (aP env 1000000 37 Qx) (aP env 1000000 37 Oq)))).cB 39 (by rfl) _ (bt (aP env 1000000 39 Qw) (bt (aP env 1000000 39 Oo) (aP env 1000000 39 Ot))));dw E (eL E) 1000000
theorem VN:bP Tryz.prog ⟨7,[],none⟩ dP Qj 1000000:=let E:Env Tryz.prog ⟨7,[],none⟩ dP Qj:=((((env.cB 8 (by rfl) _ (aP env 1000000 8 Ov)).cB 9 (by rfl) _ (aP env 1000000 9 Ow)).cB 37 (by rfl) _ (bt (aP env 1000000 37 Ox) (bt (aP env 1000000 37 Oz) (aP env 1000000 37 OE)))).cB 39 (by rfl) _ (bt (aP env 1000000 39 Oy) (bt (aP env 1000000 39 OD) (aP env 1000000 39 Qi))));dw E (eL E) 1000000
theorem VO:bP Tryz.prog ⟨7,[],none⟩ dP Qs 1000000:=let E:Env Tryz.prog ⟨7,[],none⟩ dP Qs:=((((env.cB 8 (by rfl) _ (aP env 1000000 8 Qk)).cB 9 (by rfl) _ (aP env 1000000 9 Ql)).cB 37 (by rfl) _ (bt (aP env 1000000 37 Qm) (bt (aP env 1000000 37 Qo) (aP env 1000000 37 Qq)))).cB 39 (by rfl) _ (bt (aP env 1000000 39 Qn) (bt (aP env 1000000 39 Qp) (aP env 1000000 39 Qr))));dw E (eL E) 1000000
theorem VP:bP Tryz.prog ⟨7,[],none⟩ dP Oj 1000000:=let E:Env Tryz.prog ⟨7,[],none⟩ dP Oj:=((((env.cB 8 (by rfl) _ (aP env 1000000 8 Oa)).cB 9 (by rfl) _ (aP env 1000000 9 Ob)).cB 37 (by rfl) _ (bt (aP env 1000000 37 Oc) (bt (aP env 1000000 37 Oe) (aP env 1000000 37 Oh)))).cB 39 (by rfl) _ (bt (aP env 1000000 39 Od) (bt (aP env 1000000 39 Og) (aP env 1000000 39 Oi))));dw E (eL E) 1000000
theorem VQ:bP Tryz.prog ⟨7,[],none⟩ dP Rf 1000000:=let E:Env Tryz.prog ⟨7,[],none⟩ dP Rf:=((((env.cB 8 (by rfl) _ (aP env 1000000 8 Ok)).cB 9 (by rfl) _ (aP env 1000000 9 Ol)).cB 37 (by rfl) _ (bt (aP env 1000000 37 QY) (bt (aP env 1000000 37 Ra) (aP env 1000000 37 Rc)))).cB 39 (by rfl) _ (bt (aP env 1000000 39 QZ) (bt (aP env 1000000 39 Rb) (aP env 1000000 39 Re))));dw E (eL E) 1000000
theorem VS:bP Tryz.prog ⟨7,[],none⟩ dP QR 1000000:=let E:Env Tryz.prog ⟨7,[],none⟩ dP QR:=((((env.cB 8 (by rfl) _ (aP env 1000000 8 Rg)).cB 9 (by rfl) _ (aP env 1000000 9 Rh)).cB 37 (by rfl) _ (bt (aP env 1000000 37 Ri) (bt (aP env 1000000 37 QN) (aP env 1000000 37 QP)))).cB 39 (by rfl) _ (bt (aP env 1000000 39 Rj) (bt (aP env 1000000 39 QO) (aP env 1000000 39 QQ))));dw E (eL E) 1000000
theorem VT:bP Tryz.prog ⟨7,[],none⟩ dP PY 1000000:=let E:Env Tryz.prog ⟨7,[],none⟩ dP PY:=((((env.cB 8 (by rfl) _ (aP env 1000000 8 QS)).cB 9 (by rfl) _ (aP env 1000000 9 QT)).cB 37 (by rfl) _ (bt (aP env 1000000 37 QU) (bt (aP env 1000000 37 QW) (aP env 1000000 37 PW)))).cB 39 (by rfl) _ (bt (aP env 1000000 39 QV) (bt (aP env 1000000 39 QX) (aP env 1000000 39 PX))));dw E (eL E) 1000000
theorem VU:bP Tryz.prog ⟨7,[],none⟩ dP QB 1000000:=let E:Env Tryz.prog ⟨7,[],none⟩ dP QB:=((((env.cB 8 (by rfl) _ (aP env 1000000 8 PZ)).cB 9 (by rfl) _ (aP env 1000000 9 Qa)).cB 37 (by rfl) _ (bt (aP env 1000000 37 Qb) (bt (aP env 1000000 37 Qd) (aP env 1000000 37 Qf)))).cB 39 (by rfl) _ (bt (aP env 1000000 39 Qc) (bt (aP env 1000000 39 Qe) (aP env 1000000 39 Qg))));dw E (eL E) 1000000
theorem VV:bP Tryz.prog ⟨7,[],none⟩ dP QK 1000000:=let E:Env Tryz.prog ⟨7,[],none⟩ dP QK:=((((env.cB 8 (by rfl) _ (aP env 1000000 8 QC)).cB 9 (by rfl) _ (aP env 1000000 9 QD)).cB 37 (by rfl) _ (bt (aP env 1000000 37 QE) (bt (aP env 1000000 37 QG) (aP env 1000000 37 QI)))).cB 39 (by rfl) _ (bt (aP env 1000000 39 QF) (bt (aP env 1000000 39 QH) (aP env 1000000 39 QJ))));dw E (eL E) 1000000
theorem VW:bP Tryz.prog ⟨7,[],none⟩ dP PD 1000000:=let E:Env Tryz.prog ⟨7,[],none⟩ dP PD:=((((env.cB 8 (by rfl) _ (aP env 1000000 8 QL)).cB 9 (by rfl) _ (aP env 1000000 9 Pw)).cB 37 (by rfl) _ (bt (aP env 1000000 37 Px) (bt (aP env 1000000 37 Pz) (aP env 1000000 37 PB)))).cB 39 (by rfl) _ (bt (aP env 1000000 39 Py) (bt (aP env 1000000 39 PA) (aP env 1000000 39 PC))));dw E (eL E) 1000000
theorem chain:CR Tryz.prog ⟨7,[],none⟩ (·=1) Tryz.f3.ntmps (WZ Tryz.f3) .nil (Kl 7 1 (Eu 474 .u64 Cc)) (.ret TM Ll):=
 (.yQ (r1:=WB) (l:=Ll) (.xO uy Xe Xk)
 (.yQ (r1:=WC) (l:=We) (.xO uy Xf Xl)
 (.yQ (r1:=WD) (l:=Lm) (.xO uy Xg Xm)
 (.yQ (r1:=WE) (l:=Lm) (.xO uy Xh Xn)
 (.yQ (r1:=WG) (l:=Rq) (.xO uy Xi Xo)
 (.yQ (r1:=Ni) (l:=AE) (.yQ (r1:=WH) (l:=Rq) (.xO uy Xj Xp)
 (.Uy (.dn (r1:=WI) (l:=Wf) uy ft 6 Xq
 (.dn (r1:=WJ) (l:=Wg) uy ft 1 Xr
 (.dn (r1:=WK) (l:=Wh) uy ft 1 Xs
 (.dn (r1:=WL) (l:=Wi) uy ft 1 VC
 (.dn (r1:=Ln) (l:=Gc) uy ft 1 VD
 (.dn (r1:=Li) (l:=Ga) uy ft 1 TN
 (.dn (r1:=Lh) (l:=BX) uy ft 1 RE
 (.dn (r1:=Lo) (l:=Cd) VE ft 1 VX
 (.dn (r1:=Lp) (l:=Gd) VJ ft 1 Vw
 (.dn (r1:=Lw) (l:=Gk) uy ft 1 Vx
 (.dn (r1:=Ly) (l:=Gm) uy ft 1 VY
 (.dn (r1:=LA) (l:=Gn) uy ft 1 Uo
 (.dn (r1:=Lf) (l:=FZ) uy ft 1 US
 (.dn (r1:=Le) (l:=FY) uy ft 2 RD
 (.dn (r1:=LB) (l:=Ce) uy ft 2 Vv
 (.dn (r1:=LC) (l:=Cg) VM ft 1 Un
 (.dn (r1:=LL) (l:=Ch) VN ft 1 Vt
 (.dn (r1:=LU) (l:=Ci) VO ft 1 Vu
 (.dn (r1:=Mc) (l:=Cj) VP ft 1 Ul
 (.dn (r1:=Mk) (l:=Ck) VQ ft 1 VB
 (.dn (r1:=Ms) (l:=Cm) VS ft 1 VA
 (.dn (r1:=MA) (l:=Cn) VT ft 1 Vi
 (.dn (r1:=MI) (l:=Co) VU ft 1 Vy
 (.dn (r1:=MQ) (l:=Cp) VV ft 1 Vz
 (.dn (r1:=MZ) (l:=AE) VW ft 1 UP
 (.done (.xO uy ft UQ)))))))))))))))))))))))))))))
 (.xO uy UJ UR)))))))
end
end Go.Am.Seat
