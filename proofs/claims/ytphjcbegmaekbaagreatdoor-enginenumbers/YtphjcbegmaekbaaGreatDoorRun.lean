/- The closed run ends in true, piece by piece. Nothing is asked. -/
import Derived.Test.YtphjcbegmaekbaaGreatDoorQ0
import Derived.Test.YtphjcbegmaekbaaGreatDoorQ1
import Derived.Test.YtphjcbegmaekbaaGreatDoorQ2
import Derived.Test.YtphjcbegmaekbaaGreatDoorQ3
import Derived.Test.YtphjcbegmaekbaaGreatDoorQ4
import Derived.Test.YtphjcbegmaekbaaGreatDoorQ5
import Derived.Test.YtphjcbegmaekbaaGreatDoorQ6
import Derived.Test.YtphjcbegmaekbaaGreatDoorQ7
import Derived.Test.YtphjcbegmaekbaaGreatDoorQ8
import Derived.Test.YtphjcbegmaekbaaGreatDoorQ9
import Derived.Test.YtphjcbegmaekbaaGreatDoorQ10
import Derived.Test.YtphjcbegmaekbaaGreatDoorQ11
import Derived.Test.YtphjcbegmaekbaaGreatDoorQ12
import Derived.Test.YtphjcbegmaekbaaGreatDoorQ13
import Derived.Test.YtphjcbegmaekbaaGreatDoorQ14
import Derived.Test.YtphjcbegmaekbaaGreatDoorQ15
import Derived.Test.YtphjcbegmaekbaaGreatDoorQ16
import Derived.Test.YtphjcbegmaekbaaGreatDoorEnvQ
import Derived.Test.YtphjcbegmaekbaaGreatDoorG
set_option linter.all false
open Go.Proofs
namespace Go.Am.Seat
set_option maxRecDepth 100000
noncomputable section
theorem Et:bL Tryz.prog ⟨7,[],none⟩ dz pg 1000000:=df env (ew env) 1000000
theorem aon:bL Tryz.prog ⟨7,[],none⟩ dz aiL 1000000:=let E:Env Tryz.prog ⟨7,[],none⟩ dz aiL:=((((((((env.aE 87 (by rfl) _ (al (ak env 87 aoo) (ak env 87 aop))).aE 95 (by rfl) _ (al (ak env 95 aoq) (ak env 95 aiM))).aE 96 (by rfl) _ (al (ak env 96 aor) (ak env 96 aiN))).aE 77 (by rfl) _ (al (ak env 77 aos) (ak env 77 aiO))).aE 78 (by rfl) _ (al (ak env 78 aot) (al (ak env 78 aou) (al (ak env 78 aiP) (al (ak env 78 aiQ) (ak env 78 aiR)))))).aE 33 (by rfl) _ (al (ak env 33 aov) (ak env 33 aiS))).aE 34 (by rfl) _ (al (ak env 34 aow) (ak env 34 aiT))).aE 41 (by rfl) _ (al (ak env 41 aox) (al (ak env 41 aiU) (ak env 41 aiV))));df E (ew E) 1000000
theorem aoy:bL Tryz.prog ⟨7,[],none⟩ dz aiW 1000000:=let E:Env Tryz.prog ⟨7,[],none⟩ dz aiW:=((((((((env.aE 87 (by rfl) _ (ak env 87 aiX)).aE 95 (by rfl) _ (ak env 95 aiY)).aE 96 (by rfl) _ (ak env 96 aiZ)).aE 77 (by rfl) _ (ak env 77 aja)).aE 78 (by rfl) _ (al (ak env 78 ajb) (al (ak env 78 ajc) (al (ak env 78 ajd) (ak env 78 aje))))).aE 33 (by rfl) _ (ak env 33 ajf)).aE 34 (by rfl) _ (ak env 34 ajg)).aE 41 (by rfl) _ (al (ak env 41 ajh) (al (ak env 41 aji) (ak env 41 ajj))));df E (ew E) 1000000
theorem aoz:bL Tryz.prog ⟨7,[],none⟩ dz ajk 1000000:=let E:Env Tryz.prog ⟨7,[],none⟩ dz ajk:=((((((((env.aE 87 (by rfl) _ (ak env 87 ajl)).aE 95 (by rfl) _ (ak env 95 ajm)).aE 96 (by rfl) _ (ak env 96 ajn)).aE 77 (by rfl) _ (ak env 77 ajo)).aE 78 (by rfl) _ (al (ak env 78 ajp) (al (ak env 78 ajq) (al (ak env 78 ajr) (al (ak env 78 ajs) (ak env 78 ajt)))))).aE 33 (by rfl) _ (ak env 33 aju)).aE 34 (by rfl) _ (ak env 34 ajv)).aE 41 (by rfl) _ (al (ak env 41 ajw) (al (ak env 41 ajx) (al (ak env 41 ajy) (ak env 41 ajz)))));df E (ew E) 1000000
theorem aoA:bL Tryz.prog ⟨7,[],none⟩ dz ain 1000000:=let E:Env Tryz.prog ⟨7,[],none⟩ dz ain:=((((((((env.aE 87 (by rfl) _ (ak env 87 ajA)).aE 95 (by rfl) _ (ak env 95 ajB)).aE 96 (by rfl) _ (ak env 96 ajC)).aE 77 (by rfl) _ (ak env 77 ajD)).aE 78 (by rfl) _ (al (ak env 78 ajE) (al (ak env 78 ajF) (al (ak env 78 ajG) (al (ak env 78 aii) (al (ak env 78 aik) (ak env 78 aim))))))).aE 33 (by rfl) _ (ak env 33 ajH)).aE 34 (by rfl) _ (ak env 34 ajI)).aE 41 (by rfl) _ (al (ak env 41 ajJ) (al (ak env 41 ajK) (al (ak env 41 aih) (al (ak env 41 aij) (ak env 41 ail))))));df E (ew E) 1000000
theorem aoB:bL Tryz.prog ⟨7,[],none⟩ dz ahg 1000000:=let E:Env Tryz.prog ⟨7,[],none⟩ dz ahg:=((((((((env.aE 123 (by rfl) _ (ak env 123 aiq)).aE 50 (by rfl) _ (ak env 50 air)).aE 96 (by rfl) _ (al (ak env 96 ais) (al (ak env 96 ait) (al (ak env 96 aiu) (al (ak env 96 aiv) (ak env 96 aiw)))))).aE 138 (by rfl) _ (ak env 138 aix)).aE 78 (by rfl) _ (al (ak env 78 aiy) (al (ak env 78 aiz) (al (ak env 78 aiA) (al (ak env 78 aiB) (al (ak env 78 aiC) (al (ak env 78 aiG) (al (ak env 78 aiI) (al (ak env 78 aiK) (al (ak env 78 ahd) (ak env 78 ahf))))))))))).aE 33 (by rfl) _ (ak env 33 aiD)).aE 34 (by rfl) _ (ak env 34 aiE)).aE 41 (by rfl) _ (al (ak env 41 aiF) (al (ak env 41 aiH) (al (ak env 41 aiJ) (al (ak env 41 ahc) (ak env 41 ahe))))));df E (ew E) 1000000
theorem aoC:bL Tryz.prog ⟨7,[],none⟩ dz ajL 1000000:=let E:Env Tryz.prog ⟨7,[],none⟩ dz ajL:=((((((((env.aE 123 (by rfl) _ (ak env 123 ahl)).aE 50 (by rfl) _ (ak env 50 ahm)).aE 96 (by rfl) _ (al (ak env 96 ahn) (al (ak env 96 aho) (al (ak env 96 ahp) (al (ak env 96 ahq) (ak env 96 ahr)))))).aE 138 (by rfl) _ (ak env 138 ahs)).aE 78 (by rfl) _ (al (ak env 78 aht) (al (ak env 78 ahu) (al (ak env 78 Kv) (al (ak env 78 Kw) (al (ak env 78 Kx) (al (ak env 78 KB) (al (ak env 78 KD) (al (ak env 78 My) (al (ak env 78 Mz) (ak env 78 MA))))))))))).aE 33 (by rfl) _ (ak env 33 Ky)).aE 34 (by rfl) _ (ak env 34 Kz)).aE 41 (by rfl) _ (al (ak env 41 KA) (al (ak env 41 KC) (al (ak env 41 MB) (al (ak env 41 MC) (ak env 41 MD))))));df E (ew E) 1000000
theorem aoD:bL Tryz.prog ⟨7,[],none⟩ dz ajM 1000000:=let E:Env Tryz.prog ⟨7,[],none⟩ dz ajM:=((((((((env.aE 123 (by rfl) _ (ak env 123 ME)).aE 50 (by rfl) _ (ak env 50 MF)).aE 96 (by rfl) _ (al (ak env 96 MG) (al (ak env 96 MH) (al (ak env 96 MI) (al (ak env 96 MJ) (ak env 96 MK)))))).aE 138 (by rfl) _ (ak env 138 ML)).aE 78 (by rfl) _ (al (ak env 78 MM) (al (ak env 78 MN) (al (ak env 78 MO) (al (ak env 78 MP) (al (ak env 78 MQ) (al (ak env 78 MS) (al (ak env 78 MT) (al (ak env 78 MU) (al (ak env 78 MV) (ak env 78 MW))))))))))).aE 33 (by rfl) _ (ak env 33 MX)).aE 34 (by rfl) _ (ak env 34 MY)).aE 41 (by rfl) _ (al (ak env 41 MZ) (al (ak env 41 Na) (al (ak env 41 Nb) (al (ak env 41 Nc) (ak env 41 Nd))))));df E (ew E) 1000000
theorem aoE:bL Tryz.prog ⟨7,[],none⟩ dz ajN 1000000:=let E:Env Tryz.prog ⟨7,[],none⟩ dz ajN:=((((((((env.aE 123 (by rfl) _ (ak env 123 Nf)).aE 50 (by rfl) _ (ak env 50 Ng)).aE 96 (by rfl) _ (al (ak env 96 Nh) (al (ak env 96 Ni) (al (ak env 96 Nj) (al (ak env 96 Nk) (ak env 96 Nl)))))).aE 138 (by rfl) _ (ak env 138 Nm)).aE 78 (by rfl) _ (al (ak env 78 Nn) (al (ak env 78 Np) (al (ak env 78 Nq) (al (ak env 78 Nr) (al (ak env 78 Ns) (al (ak env 78 Nt) (al (ak env 78 Nu) (al (ak env 78 Nv) (al (ak env 78 Nw) (ak env 78 Nx))))))))))).aE 33 (by rfl) _ (ak env 33 Ny)).aE 34 (by rfl) _ (ak env 34 Nz)).aE 41 (by rfl) _ (al (ak env 41 NA) (al (ak env 41 NC) (al (ak env 41 ND) (al (ak env 41 NF) (ak env 41 NG))))));df E (ew E) 1000000
theorem aoF:bL Tryz.prog ⟨7,[],none⟩ dz ahv 1000000:=let E:Env Tryz.prog ⟨7,[],none⟩ dz ahv:=((((((((env.aE 123 (by rfl) _ (ak env 123 NH)).aE 50 (by rfl) _ (ak env 50 NI)).aE 96 (by rfl) _ (al (ak env 96 NJ) (al (ak env 96 NL) (al (ak env 96 NM) (al (ak env 96 NN) (ak env 96 NO)))))).aE 138 (by rfl) _ (ak env 138 NP)).aE 78 (by rfl) _ (al (ak env 78 NQ) (al (ak env 78 NT) (al (ak env 78 NU) (al (ak env 78 NV) (al (ak env 78 NW) (al (ak env 78 KX) (al (ak env 78 KZ) (al (ak env 78 Lb) (al (ak env 78 Ld) (ak env 78 Lf))))))))))).aE 33 (by rfl) _ (ak env 33 NX)).aE 34 (by rfl) _ (ak env 34 NY)).aE 41 (by rfl) _ (al (ak env 41 NZ) (al (ak env 41 KY) (al (ak env 41 La) (al (ak env 41 Lc) (ak env 41 Le))))));df E (ew E) 1000000
theorem aoG:bL Tryz.prog ⟨7,[],none⟩ dz ajO 1000000:=let E:Env Tryz.prog ⟨7,[],none⟩ dz ajO:=((((((((env.aE 123 (by rfl) _ (ak env 123 Lh)).aE 50 (by rfl) _ (ak env 50 Li)).aE 96 (by rfl) _ (al (ak env 96 Lj) (al (ak env 96 Lk) (al (ak env 96 Ll) (al (ak env 96 Lm) (ak env 96 Mi)))))).aE 138 (by rfl) _ (ak env 138 Mj)).aE 78 (by rfl) _ (al (ak env 78 Mk) (al (ak env 78 Ml) (al (ak env 78 Mm) (al (ak env 78 Mn) (al (ak env 78 Mo) (al (ak env 78 Ms) (al (ak env 78 Mu) (al (ak env 78 Mw) (al (ak env 78 Oa) (ak env 78 Ob))))))))))).aE 33 (by rfl) _ (ak env 33 Mp)).aE 34 (by rfl) _ (ak env 34 Mq)).aE 41 (by rfl) _ (al (ak env 41 Mr) (al (ak env 41 Mt) (al (ak env 41 Mv) (al (ak env 41 Mx) (ak env 41 Oc))))));df E (ew E) 1000000
theorem aoH:bL Tryz.prog ⟨7,[],none⟩ dz ajP 1000000:=let E:Env Tryz.prog ⟨7,[],none⟩ dz ajP:=((((((((env.aE 123 (by rfl) _ (al (ak env 123 Od) (ak env 123 Oe))).aE 138 (by rfl) _ (al (ak env 138 Og) (ak env 138 KL))).aE 33 (by rfl) _ (al (ak env 33 Oh) (ak env 33 KR))).aE 34 (by rfl) _ (al (ak env 34 Oi) (ak env 34 KS))).aE 41 (by rfl) _ (al (ak env 41 Oj) (al (ak env 41 Ok) (al (ak env 41 Ol) (al (ak env 41 Om) (al (ak env 41 Oo) (al (ak env 41 KU) (al (ak env 41 Oq) (al (ak env 41 Ot) (al (ak env 41 Ou) (ak env 41 Ov))))))))))).aE 78 (by rfl) _ (al (ak env 78 Ow) (al (ak env 78 Ox) (al (ak env 78 Oy) (al (ak env 78 Oz) (al (ak env 78 OD) (al (ak env 78 KM) (al (ak env 78 KN) (al (ak env 78 KP) (al (ak env 78 KQ) (al (ak env 78 KW) (al (ak env 78 OE) (al (ak env 78 OG) (al (ak env 78 OH) (ak env 78 OJ))))))))))))))).aE 50 (by rfl) _ (ak env 50 KE)).aE 96 (by rfl) _ (al (ak env 96 KG) (al (ak env 96 KH) (al (ak env 96 KI) (ak env 96 KJ)))));df E (ew E) 1000000
theorem aoI:bL Tryz.prog ⟨7,[],none⟩ dz ajQ 1000000:=let E:Env Tryz.prog ⟨7,[],none⟩ dz ajQ:=((((((((env.aE 123 (by rfl) _ (ak env 123 OK)).aE 50 (by rfl) _ (ak env 50 OO)).aE 96 (by rfl) _ (al (ak env 96 OQ) (al (ak env 96 OT) (al (ak env 96 OU) (ak env 96 OV))))).aE 138 (by rfl) _ (ak env 138 OW)).aE 78 (by rfl) _ (al (ak env 78 LQ) (al (ak env 78 LR) (al (ak env 78 LU) (al (ak env 78 LV) (al (ak env 78 LZ) (al (ak env 78 Mb) (al (ak env 78 Md) (al (ak env 78 Mf) (ak env 78 Mh)))))))))).aE 33 (by rfl) _ (ak env 33 LW)).aE 34 (by rfl) _ (ak env 34 LX)).aE 41 (by rfl) _ (al (ak env 41 LY) (al (ak env 41 Ma) (al (ak env 41 Mc) (al (ak env 41 Me) (ak env 41 Mg))))));df E (ew E) 1000000
theorem aoJ:bL Tryz.prog ⟨7,[],none⟩ dz ajR 1000000:=let E:Env Tryz.prog ⟨7,[],none⟩ dz ajR:=((((((((env.aE 33 (by rfl) _ (al (ak env 33 OX) (al (ak env 33 OY) (ak env 33 OZ)))).aE 34 (by rfl) _ (al (ak env 34 Pb) (al (ak env 34 Pc) (ak env 34 Pd)))).aE 41 (by rfl) _ (al (ak env 41 Pe) (al (ak env 41 Pf) (al (ak env 41 Ph) (al (ak env 41 Pj) (al (ak env 41 Pk) (al (ak env 41 Pl) (al (ak env 41 Pm) (al (ak env 41 Pn) (al (ak env 41 Po) (al (ak env 41 Pp) (al (ak env 41 Pq) (al (ak env 41 Pr) (al (ak env 41 Ps) (ak env 41 Pt))))))))))))))).aE 78 (by rfl) _ (al (ak env 78 Pu) (al (ak env 78 Pv) (al (ak env 78 Pw) (al (ak env 78 Px) (al (ak env 78 Py) (al (ak env 78 Pz) (al (ak env 78 PA) (al (ak env 78 PB) (al (ak env 78 PC) (al (ak env 78 PD) (al (ak env 78 PE) (al (ak env 78 PF) (al (ak env 78 PG) (al (ak env 78 PH) (ak env 78 PI)))))))))))))))).aE 87 (by rfl) _ (ak env 87 PJ)).aE 95 (by rfl) _ (ak env 95 PL)).aE 96 (by rfl) _ (ak env 96 PM)).aE 77 (by rfl) _ (ak env 77 PN));df E (ew E) 1000000
theorem aoK:bL Tryz.prog ⟨7,[],none⟩ dz ajS 1000000:=let E:Env Tryz.prog ⟨7,[],none⟩ dz ajS:=(((((((env.aE 18 (by rfl) _ (al (ak env 18 PO) (ak env 18 PQ))).aE 87 (by rfl) _ (ak env 87 PT)).aE 95 (by rfl) _ (ak env 95 PU)).aE 96 (by rfl) _ (al (ak env 96 PV) (ak env 96 PW))).aE 123 (by rfl) _ (ak env 123 PX)).aE 50 (by rfl) _ (ak env 50 PY)).aE 41 (by rfl) _ (ak env 41 PZ));df E (ew E) 1000000
theorem chain:CR Tryz.prog ⟨7,[],none⟩ (·=1) Tryz.f3.ntmps (auz Tryz.f3) .nil (CU 7 1 (Gu 555 .u64 Gv)) (.ret aoL Qa):=
 (.uN (r1:=Rg0) (l:=Qa) (.ry Et auB auC)
 (.uN (r1:=Rg1) (l:=Lo1) (.ry Et auF auG)
 (.uN (r1:=Rg2) (l:=Lo2) (.ry Et auI auJ)
 (.uN (r1:=Rg3) (l:=Lo2) (.ry Et auL auM)
 (.uN (r1:=Rg4) (l:=Lo4) (.ry Et auO auP)
 (.uN (r1:=Rg7) (l:=Lo6) (.uN (r1:=Rg5) (l:=Lo4) (.ry Et auS auT)
 (.Uy (.gC (r1:=Rg6) (l:=Lo6) Et aoM 6 auV
 (.done (.ry Et aoM auW)))))
 (.uN (r1:=Rg8) (l:=Lo8) (.ry Et auY auZ)
 (.uN (r1:=ajT) (l:=Qa) (.uN (r1:=Rg9) (l:=Lo8) (.ry Et avb aoN)
 (.Uy (.gC (r1:=ajU) (l:=ajV) Et gE 2 aoO
 (.gC (r1:=ajW) (l:=ajX) aon gE 2 aoP
 (.gC (r1:=ajY) (l:=ajZ) aoy gE 1 aoQ
 (.gC (r1:=aio) (l:=aip) aoz gE 1 aoR
 (.gC (r1:=ahj) (l:=ahk) aoA gE 1 aom
 (.gC (r1:=ahh) (l:=ahi) aoB gE 1 ano
 (.gC (r1:=aka) (l:=akb) aoC gE 1 aoS
 (.gC (r1:=akc) (l:=akd) aoD gE 1 aoT
 (.gC (r1:=ahy) (l:=ahz) aoE gE 1 aoU
 (.gC (r1:=ahw) (l:=ahx) aoF gE 1 anA
 (.gC (r1:=ake) (l:=akf) aoG gE 1 aoV
 (.gC (r1:=akg) (l:=akh) aoH gE 2 aoW
 (.gC (r1:=aki) (l:=akj) aoI gE 1 aoX
 (.gC (r1:=akk) (l:=akl) aoJ gE 3 aoY
 (.done (.ry Et gE aoZ))))))))))))))))))
 (.ry aoK apa apb)))))))))
end
end Go.Am.Seat
