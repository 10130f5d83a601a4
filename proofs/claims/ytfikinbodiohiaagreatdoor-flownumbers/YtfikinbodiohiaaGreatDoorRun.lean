/- The closed run ends in true, piece by piece. Nothing is asked. -/
import Derived.Test.YtfikinbodiohiaaGreatDoorQ0
import Derived.Test.YtfikinbodiohiaaGreatDoorQ1
import Derived.Test.YtfikinbodiohiaaGreatDoorQ2
import Derived.Test.YtfikinbodiohiaaGreatDoorQ3
import Derived.Test.YtfikinbodiohiaaGreatDoorQ4
import Derived.Test.YtfikinbodiohiaaGreatDoorQ5
import Derived.Test.YtfikinbodiohiaaGreatDoorQ6
import Derived.Test.YtfikinbodiohiaaGreatDoorQ7
import Derived.Test.YtfikinbodiohiaaGreatDoorQ8
import Derived.Test.YtfikinbodiohiaaGreatDoorQ9
import Derived.Test.YtfikinbodiohiaaGreatDoorQ10
import Derived.Test.YtfikinbodiohiaaGreatDoorQ11
import Derived.Test.YtfikinbodiohiaaGreatDoorQ12
import Derived.Test.YtfikinbodiohiaaGreatDoorQ13
import Derived.Test.YtfikinbodiohiaaGreatDoorQ14
import Derived.Test.YtfikinbodiohiaaGreatDoorQ15
import Derived.Test.YtfikinbodiohiaaGreatDoorQ16
import Derived.Test.YtfikinbodiohiaaGreatDoorEnvQ
import Derived.Test.YtfikinbodiohiaaGreatDoorG
set_option linter.all false
open Go.Proofs
namespace Go.Am.Seat
set_option maxRecDepth 100000
noncomputable section
theorem bt:cI Tryz.prog ⟨7,[],none⟩ fj pg 1000000:=eU env (gH env) 1000000
theorem VE:cI Tryz.prog ⟨7,[],none⟩ fj Rr 1000000:=let E:Env Tryz.prog ⟨7,[],none⟩ fj Rr:=(env.ef 14 (by rfl) _ (wC env 1000000 14 VF));eU E (gH E) 1000000
theorem VG:cI Tryz.prog ⟨7,[],none⟩ fj QV 1000000:=let E:Env Tryz.prog ⟨7,[],none⟩ fj QV:=(env.ef 14 (by rfl) _ (wC env 1000000 14 UI));eU E (gH E) 1000000
theorem VH:cI Tryz.prog ⟨7,[],none⟩ fj QJ 1000000:=let E:Env Tryz.prog ⟨7,[],none⟩ fj QJ:=(env.ef 14 (by rfl) _ (wC env 1000000 14 UA));eU E (gH E) 1000000
theorem Rt:cI Tryz.prog ⟨7,[],none⟩ fj FX 1000000:=let E:Env Tryz.prog ⟨7,[],none⟩ fj FX:=(env.ef 14 (by rfl) _ (wC env 1000000 14 Uq));eU E (gH E) 1000000
theorem Ru:cI Tryz.prog ⟨7,[],none⟩ fj GP 1000000:=let E:Env Tryz.prog ⟨7,[],none⟩ fj GP:=(env.ef 14 (by rfl) _ (wC env 1000000 14 VI));eU E (gH E) 1000000
theorem Rv:cI Tryz.prog ⟨7,[],none⟩ fj GQ 1000000:=let E:Env Tryz.prog ⟨7,[],none⟩ fj GQ:=(env.ef 14 (by rfl) _ (wC env 1000000 14 VJ));eU E (gH E) 1000000
theorem Rw:cI Tryz.prog ⟨7,[],none⟩ fj GR 1000000:=let E:Env Tryz.prog ⟨7,[],none⟩ fj GR:=(env.ef 14 (by rfl) _ (wC env 1000000 14 VK));eU E (gH E) 1000000
theorem Rx:cI Tryz.prog ⟨7,[],none⟩ fj GS 1000000:=let E:Env Tryz.prog ⟨7,[],none⟩ fj GS:=(env.ef 14 (by rfl) _ (wC env 1000000 14 VL));eU E (gH E) 1000000
theorem Ry:cI Tryz.prog ⟨7,[],none⟩ fj FU 1000000:=let E:Env Tryz.prog ⟨7,[],none⟩ fj FU:=(env.ef 14 (by rfl) _ (wC env 1000000 14 Uo));eU E (gH E) 1000000
theorem chain:CR Tryz.prog ⟨7,[],none⟩ (·=1) Tryz.f3.ntmps (Yr Tryz.f3) .nil (Db 7 1 (Gz 436 .u64 Ew)) (.ret MY Kl):=
 (.aQ (r1:=Yc) (l:=Kl) (.aM bt Yt Yu)
 (.aQ (r1:=Yd) (l:=XG) (.aM bt Yv Yw)
 (.aQ (r1:=Ye) (l:=br) (.aM bt Yx Yy)
 (.aQ (r1:=FT) (l:=Kl) (.aQ (r1:=Yf) (l:=br) (.aM bt Yz YA)
 (.gj (.step (r1:=Od) (l:=br) (.aQ (r1:=Yg) (l:=br) (.aM bt mG YB)
 (.aQ (r1:=Oc) (l:=br) (.eI (i:=1) (.aQ (r1:=Yh) (l:=XH) (.aM bt mH YC)
 (.aQ (r1:=Yi) (l:=Km) (.aM bt mI YD)
 (.aQ (r1:=Yj) (l:=Km) (.aM bt mJ YE)
 (.aQ (r1:=Yk) (l:=Km) (.aM bt mK YF)
 (.gj (.bk (r1:=Ym) (l:=Yl) bt bA 10 VM
 (.done (.aM bt bA VN)))))))))
 (.aM bt gI VO)))
 (.step (r1:=Oq) (l:=br) (.aQ (r1:=Oe) (l:=br) (.aM bt mG VP)
 (.aQ (r1:=Oo) (l:=br) (.eI (i:=1) (.aQ (r1:=Og) (l:=Ks) (.aM bt mH VQ)
 (.aQ (r1:=Oh) (l:=ub) (.aM bt mI VS)
 (.aQ (r1:=Oi) (l:=ub) (.aM bt mJ VT)
 (.aQ (r1:=Oj) (l:=ub) (.aM bt mK VU)
 (.gj (.bk (r1:=Ok) (l:=Ku) bt bA 5 VV
 (.bk (r1:=Om) (l:=Ol) bt bA 5 VW
 (.done (.aM bt bA VX))))))))))
 (.aM bt gI VY)))
 (.step (r1:=OH) (l:=br) (.aQ (r1:=Ot) (l:=br) (.aM bt mG VZ)
 (.aQ (r1:=OG) (l:=br) (.eI (i:=1) (.aQ (r1:=Ou) (l:=Kv) (.aM bt mH Wa)
 (.aQ (r1:=Ov) (l:=uc) (.aM bt mI Wb)
 (.aQ (r1:=Ow) (l:=uc) (.aM bt mJ Wc)
 (.aQ (r1:=Ox) (l:=uc) (.aM bt mK Wd)
 (.gj (.bk (r1:=Oy) (l:=zR) bt bA 4 We
 (.bk (r1:=Oz) (l:=zR) bt bA 5 Wf
 (.bk (r1:=OE) (l:=OD) bt bA 1 UO
 (.done (.aM bt bA UP)))))))))))
 (.aM bt gI UQ)))
 (.step (r1:=OZ) (l:=br) (.aQ (r1:=OJ) (l:=br) (.aM bt mG UR)
 (.aQ (r1:=OY) (l:=br) (.eI (i:=1) (.aQ (r1:=OK) (l:=Kw) (.aM bt mH US)
 (.aQ (r1:=OO) (l:=ud) (.aM bt mI UT)
 (.aQ (r1:=OQ) (l:=ud) (.aM bt mJ UU)
 (.aQ (r1:=OT) (l:=ud) (.aM bt mK UW)
 (.gj (.bk (r1:=OU) (l:=zS) bt bA 4 UX
 (.bk (r1:=OV) (l:=zS) bt bA 5 UY
 (.bk (r1:=OX) (l:=OW) bt bA 1 UZ
 (.done (.aM bt bA Va)))))))))))
 (.aM bt gI Vb)))
 (.step (r1:=Pn) (l:=br) (.aQ (r1:=Pa) (l:=br) (.aM bt mG Vc)
 (.aQ (r1:=Pm) (l:=br) (.eI (i:=1) (.aQ (r1:=Pb) (l:=Kx) (.aM bt mH Vd)
 (.aQ (r1:=Pc) (l:=ue) (.aM bt mI Ve)
 (.aQ (r1:=Pd) (l:=ue) (.aM bt mJ Vf)
 (.aQ (r1:=Pe) (l:=ue) (.aM bt mK Vg)
 (.gj (.bk (r1:=Pf) (l:=Ky) bt bA 3 Wg
 (.bk (r1:=Ph) (l:=zT) bt bA 2 Wh
 (.bk (r1:=Pj) (l:=zT) bt bA 4 Wi
 (.bk (r1:=Pl) (l:=Pk) bt bA 1 Wj
 (.done (.aM bt bA Wk))))))))))))
 (.aM bt gI Wl)))
 (.step (r1:=Py) (l:=br) (.aQ (r1:=Po) (l:=br) (.aM bt mG Wm)
 (.aQ (r1:=Px) (l:=br) (.eI (i:=1) (.aQ (r1:=Pp) (l:=Kz) (.aM bt mH Wn)
 (.aQ (r1:=Pq) (l:=uf) (.aM bt mI Wo)
 (.aQ (r1:=Pr) (l:=uf) (.aM bt mJ Wp)
 (.aQ (r1:=Ps) (l:=uf) (.aM bt mK Wq)
 (.gj (.bk (r1:=Pt) (l:=zU) bt bA 4 Wr
 (.bk (r1:=Pu) (l:=zU) bt bA 5 Ws
 (.bk (r1:=Pw) (l:=Pv) bt bA 1 Wt
 (.done (.aM bt bA Wu)))))))))))
 (.aM bt gI Wv)))
 (.step (r1:=PJ) (l:=br) (.aQ (r1:=Pz) (l:=br) (.aM bt mG Ww)
 (.aQ (r1:=PI) (l:=br) (.eI (i:=1) (.aQ (r1:=PA) (l:=KA) (.aM bt mH Wx)
 (.aQ (r1:=PB) (l:=rV) (.aM bt mI Wy)
 (.aQ (r1:=PC) (l:=rV) (.aM bt mJ Wz)
 (.aQ (r1:=PD) (l:=rV) (.aM bt mK WA)
 (.gj (.bk (r1:=PE) (l:=KB) VE bA 1 WB
 (.bk (r1:=PF) (l:=KC) bt bA 4 WC
 (.bk (r1:=PH) (l:=PG) bt bA 5 WD
 (.done (.aM bt bA WE)))))))))))
 (.aM bt gI WG)))
 (.step (r1:=Qb) (l:=br) (.aQ (r1:=PL) (l:=br) (.aM bt mG WH)
 (.aQ (r1:=Qa) (l:=br) (.eI (i:=1) (.aQ (r1:=PM) (l:=KD) (.aM bt mH WI)
 (.aQ (r1:=PN) (l:=rW) (.aM bt mI WJ)
 (.aQ (r1:=PO) (l:=rW) (.aM bt mJ WK)
 (.aQ (r1:=PQ) (l:=rW) (.aM bt mK WL)
 (.gj (.bk (r1:=PT) (l:=KE) VG bA 1 UJ
 (.bk (r1:=PU) (l:=KG) bt bA 2 UL
 (.bk (r1:=PV) (l:=ug) bt bA 1 UM
 (.bk (r1:=PW) (l:=ug) bt bA 1 UN
 (.bk (r1:=PX) (l:=ug) bt bA 3 Ur
 (.bk (r1:=PZ) (l:=PY) bt bA 2 Us
 (.done (.aM bt bA Ut))))))))))))))
 (.aM bt gI Uu)))
 (.step (r1:=Qn) (l:=br) (.aQ (r1:=Qc) (l:=br) (.aM bt mG Uv)
 (.aQ (r1:=Qm) (l:=br) (.eI (i:=1) (.aQ (r1:=Qd) (l:=KH) (.aM bt mH Uw)
 (.aQ (r1:=Qe) (l:=rX) (.aM bt mI Ux)
 (.aQ (r1:=Qf) (l:=rX) (.aM bt mJ Uy)
 (.aQ (r1:=Qg) (l:=rX) (.aM bt mK Uz)
 (.gj (.bk (r1:=Qh) (l:=KI) VH bA 1 UB
 (.bk (r1:=Qi) (l:=zV) bt bA 3 WM
 (.bk (r1:=Qj) (l:=zV) bt bA 4 WN
 (.bk (r1:=Ql) (l:=Qk) bt bA 2 UC
 (.done (.aM bt bA UD))))))))))))
 (.aM bt gI UE)))
 (.step (r1:=ED) (l:=br) (.aQ (r1:=Qo) (l:=br) (.aM bt mG UF)
 (.aQ (r1:=EC) (l:=br) (.eI (i:=1) (.aQ (r1:=Qp) (l:=KJ) (.aM bt mH UG)
 (.aQ (r1:=Qq) (l:=uh) (.aM bt mI UH)
 (.aQ (r1:=Qr) (l:=uh) (.aM bt mJ QK)
 (.aQ (r1:=Ey) (l:=uh) (.aM bt mK QL)
 (.gj (.bk (r1:=Ez) (l:=uN) bt bA 6 QM
 (.bk (r1:=EA) (l:=uN) bt bA 4 QN
 (.done (.aM bt bA QO))))))))))
 (.aM bt gI QP)))
 (.step (r1:=EP) (l:=br) (.aQ (r1:=EE) (l:=br) (.aM bt mG QQ)
 (.aQ (r1:=EO) (l:=br) (.eI (i:=1) (.aQ (r1:=EF) (l:=Bo) (.aM bt mH QR)
 (.aQ (r1:=EG) (l:=jX) (.aM bt mI QS)
 (.aQ (r1:=EH) (l:=jX) (.aM bt mJ QT)
 (.aQ (r1:=EI) (l:=jX) (.aM bt mK QU)
 (.gj (.bk (r1:=EJ) (l:=Bp) Rt bA 1 QG
 (.bk (r1:=EK) (l:=rY) bt bA 3 QH
 (.bk (r1:=EL) (l:=rY) bt bA 3 QI
 (.bk (r1:=EN) (l:=EM) bt bA 3 Rz
 (.done (.aM bt bA RA))))))))))))
 (.aM bt gI RB)))
 (.step (r1:=Fg) (l:=br) (.aQ (r1:=ER) (l:=br) (.aM bt mG RC)
 (.aQ (r1:=Ff) (l:=br) (.eI (i:=1) (.aQ (r1:=ES) (l:=Bq) (.aM bt mH RD)
 (.aQ (r1:=ET) (l:=jY) (.aM bt mI RE)
 (.aQ (r1:=EU) (l:=jY) (.aM bt mJ RF)
 (.aQ (r1:=EV) (l:=jY) (.aM bt mK RG)
 (.gj (.bk (r1:=EW) (l:=yl) Ru bA 1 RH
 (.bk (r1:=EX) (l:=pN) Rv bA 1 RI
 (.bk (r1:=EY) (l:=pN) bt bA 1 RJ
 (.bk (r1:=EZ) (l:=jZ) Rw bA 1 RK
 (.bk (r1:=Fa) (l:=jZ) bt bA 2 RL
 (.bk (r1:=Fb) (l:=jZ) bt bA 3 RM
 (.bk (r1:=Fe) (l:=Fc) Rx bA 1 RN
 (.done (.aM bt bA RO)))))))))))))))
 (.aM bt gI RP)))
 (.step (r1:=Fx) (l:=br) (.aQ (r1:=Fh) (l:=br) (.aM bt mG RQ)
 (.aQ (r1:=Fw) (l:=br) (.eI (i:=1) (.aQ (r1:=Fi) (l:=Br) (.aM bt mH RR)
 (.aQ (r1:=Fj) (l:=kc) (.aM bt mI RU)
 (.aQ (r1:=Fk) (l:=kc) (.aM bt mJ RW)
 (.aQ (r1:=Fm) (l:=kc) (.aM bt mK RX)
 (.gj (.bk (r1:=Fo) (l:=Bs) Ry bA 1 Qs
 (.bk (r1:=Fp) (l:=Bt) bt bA 2 Qt
 (.bk (r1:=Fq) (l:=lR) bt bA 1 Qu
 (.bk (r1:=Fs) (l:=lR) bt bA 1 Qv
 (.bk (r1:=Ft) (l:=lR) bt bA 3 Qw
 (.bk (r1:=Fv) (l:=Fu) bt bA 2 Qx
 (.done (.aM bt bA Qy))))))))))))))
 (.aM bt gI Qz)))
 (.step (r1:=FH) (l:=br) (.aQ (r1:=Fy) (l:=br) (.aM bt mG QA)
 (.aQ (r1:=FG) (l:=br) (.eI (i:=1) (.aQ (r1:=Fz) (l:=Bu) (.aM bt mH QB)
 (.aQ (r1:=FA) (l:=lS) (.aM bt mI QC)
 (.aQ (r1:=FB) (l:=lS) (.aM bt mJ QD)
 (.aQ (r1:=FC) (l:=lS) (.aM bt mK QE)
 (.gj (.bk (r1:=FD) (l:=np) bt bA 4 RY
 (.bk (r1:=FE) (l:=np) bt bA 5 RZ
 (.bk (r1:=FF) (l:=np) bt bA 1 Sa
 (.done (.aM bt bA Sb)))))))))))
 (.aM bt gI Sc)))
 (.step (r1:=FR) (l:=br) (.aQ (r1:=FI) (l:=br) (.aM bt mG Se)
 (.aQ (r1:=FQ) (l:=br) (.eI (i:=1) (.aQ (r1:=FJ) (l:=Bv) (.aM bt mH Sf)
 (.aQ (r1:=FK) (l:=iD) (.aM bt mI Sh)
 (.aQ (r1:=FL) (l:=iD) (.aM bt mJ Si)
 (.aQ (r1:=FM) (l:=iD) (.aM bt mK Sj)
 (.gj (.bk (r1:=FN) (l:=iD) bt bA 4 Sk
 (.bk (r1:=FO) (l:=uQ) bt bA 4 Sl
 (.bk (r1:=FP) (l:=uQ) bt bA 2 Sm
 (.done (.aM bt bA Sn)))))))))))
 (.aM bt gI So)))
 (.done (.aM bt Sp Sq)))))))))))))))))))
 (.aM bt Ss Su)))))
end
end Go.Am.Seat
