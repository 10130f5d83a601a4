/- The program's code in a form that runs fast, written by program. Nothing is asked. -/
import Derived.Test.YtfancojpkcapeaaGreatHead
set_option linter.all false
namespace Go.Am.Seat
set_option maxRecDepth 20000
noncomputable section
def T0 (a b d e : AV) : A2 := N0 (Y7 a b u u u d e)
def T1 (a : AV) : A2 := N0 (Y5 u u u u a)
def T2 (a b d : AV) : A2 := N0 (Y6 a b u u u d)
def T3 (a b d e : AV) : A2 := N0 (Y8 a b u u u d u e)
def T4 (a b : AV) : A2 := N0 (Y6 a u u u u b)
def T5 (a b d e f : AV) : A2 := N0 (Y9 a b u u u d u e f)
def T6 (a b d e f : AV) : A2 := N4 (Y8 a b u u u d u e) .nil .nil .nil (Y1 f)
def T7 (a b d : AV) : A2 := N0 (Y10 a u u u u b u u u d)
def T8 (a b d e : AV) : A2 := N0 (Y12 a u u u u b u u u u d e)
def T9 (a b d : AV) : A2 := N0 (Y13 a u u u u b u u u u u u d)
def T10 (a b d e f : AV) : A2 := N0 (Y15 a u u u u b u u u u u u d e f)
def T11 (a b : AV) : A2 := N0 (Y2 a b)
def T12 (a : AV) : A2 := N0 (Y7 u u u u u u a)
def T13 (a b : AV) : A2 := N0 (Y4 u u a b)
def T14 (a : AV) : A2 := N0 (Y1 a)
def T15 (a b : AV) : A2 := N0 (Y4 a u u b)
def T16 (a b d : AV) : A2 := N0 (Y7 a u u b u u d)
def T17 (a b d e : AV) : A2 := N0 (Y8 a u u b u u d e)
def T18 (a b d e : AV) : A2 := N1 (Y7 a u u b u u d) (Y12 u u u u u u u u u u u e)
def T19 (a b d : AV) : A2 := N0 (Y7 a b u u u u d)
def T20 (a b : AV) : A2 := N0 (Y6 u u u u a b)
def T21 (a b d : AV) : A2 := N0 (Y14 u u u u u a u u u u u u b d)
def T22 (a : AV) : A2 := N0 (Y6 u u u u u a)
def T23 (a b d e : AV) : A2 := N0 (Y14 u u u u u a b u u u u u d e)
def T24 (a b d e : AV) : A2 := N2 (Y6 u u u u u a) .nil (Y5 u u b d e)
def T25 (a b d : AV) : A2 := N0 (Y7 a u u u u b d)
def T26 (a b : AV) : A2 := N0 (Y7 a u u u u u b)
def T27 : A2 := .nil
def T28 (a b d e : AV) : A2 := N0 (Y10 a b d u u u u u u e)
def T29 (a : AV) : A2 := N0 (Y3 u u a)
def T30 (a b d e f : AV) : A2 := N0 (Y15 a u u b u u u u u u u u d e f)
def T31 (a b d e f : AV) : A2 := N2 (Y7 u u u a u u b) .nil (Y3 d e f)
def T32 (a b d e f g : AV) : A2 := N2 (Y9 u u u a u u b u d) .nil (Y3 e f g)
def T33 (a b : AV) : A2 := N0 (Y5 a u u u b)
def T34 (a b d e : AV) : A2 := N5 (Y1 a) .nil .nil .nil .nil (Y4 u b d e)
def T35 (a b d e : AV) : A2 := N0 (Y8 a b d u u u u e)
def T36 (a b d : AV) : A2 := N0 (Y5 a u u b d)
def T37 (a b d e f : AV) : A2 := N0 (Y7 a u u b d e f)
def T38 (a b d e f : AV) : A2 := N1 (Y7 a u u b d u e) (Y14 u u u u u u u u u u u u u f)
def T39 (a b d e f g : AV) : A2 := N1 (Y7 a u u b d u e) (Y15 u u u u u u u u u u u u u f g)
def T40 (a b d e f g : AV) : A2 := N2 (Y7 a u u b d u e) (Y14 u u u u u u u u u u u u u f) (Y7 u u u u u u g)
def T41 (a b d e f g : AV) : A2 := N2 (Y7 a u u b d u e) (Y14 u u u u u u u u u u u u u f) (Y15 u u u u u u u u u u u u u u g)
def T42 (a b d e f g : AV) : A2 := N3 (Y7 a u u b d u e) (Y14 u u u u u u u u u u u u u f) .nil (Y7 u u u u u u g)
def T43 (a b d e : AV) : A2 := N4 (Y1 a) .nil .nil .nil (Y8 u u u u u b d e)
def T44 (a b : AV) : A2 := N5 (Y1 a) .nil .nil .nil .nil (Y12 u u u u u u u u u u u b)
def T45 (a b d : AV) : A2 := N0 (Y3 a b d)
def T46 (a b d e : AV) : A2 := N2 (Y7 a b u u u u d) .nil (Y8 u u u u u u u e)
def T47 (a b d e : AV) : A2 := N3 (Y7 a b u u u u d) .nil .nil (Y11 u u u u u u u u u u e)
def T48 (a b d e f g : AV) : A2 := N3 (Y11 a b u u u u d u u e f) .nil .nil (Y11 u u u u u u u u u u g)
def T49 (a b d e : AV) : A2 := N1 (Y1 a) (Y3 b d e)
def T50 (a b d : AV) : A2 := N0 (Y6 a u u u b d)
def T51 (a b d e : AV) : A2 := N0 (Y7 a u u u b d e)
def T52 (a b d e : AV) : A2 := N0 (Y13 a b u u d u u u u u u u e)
def T53 (a b d e f : AV) : A2 := N0 (Y14 a b u u d u u u u u u u e f)
def T54 (a b d e f : AV) : A2 := N1 (Y13 a b u u d u u u u u u u e) (Y5 u u u u f)
def T55 (a b d e f : AV) : A2 := N1 (Y13 a b u u d u u u u u u u e) (Y14 u u u u u u u u u u u u u f)
def T56 (a b d e : AV) : A2 := N0 (Y8 a u u u u b d e)
def T57 (a b d e f : AV) : A2 := N3 (Y13 a b u u d u u u u u u u e) .nil .nil (Y5 u u u u f)
def T58 (a b : AV) : A2 := N0 (Y3 u a b)
def T59 (a b d e f : AV) : A2 := N1 (Y3 u a b) (.mk u u u u u u u u u u u u u d e f)
def T60 (a b d e f : AV) : A2 := N3 (Y3 u a b) .nil .nil (Y5 u u d e f)
def T61 (a b d e f g j : AV) : A2 := N3 (Y8 u a b u u u d e) .nil .nil (Y5 u u f g j)
def T62 (a b d e f : AV) : A2 := N1 (.mk a u b u u u u u u u u u u u d e) (Y1 f)
def T63 (a b d : AV) : A2 := N0 (Y7 u a u b u u d)
def T64 (a b d e f : AV) : A2 := N0 (Y13 a b d u u u u u u u u e f)
def T65 (a b : AV) : A2 := N0 (Y8 u u u u u u a b)
def T66 (a : AV) : A2 := N0 (Y4 u u u a)
def T67 (a b d : AV) : A2 := N0 (Y8 u u u u u a b d)
def T68 (a b d e : AV) : A2 := N0 (Y8 u u u u a b d e)
def T69 (a b d : AV) : A2 := N0 (Y9 a b u u u u u u d)
def T70 (a b d e : AV) : A2 := N0 (Y14 a b u u u u u u u u u u d e)
def T71 (a b d e : AV) : A2 := N0 (Y9 u u u a u u b d e)
def T72 (a : AV) : A2 := N0 (Y2 u a)
def T73 (a b : AV) : A2 := N0 (Y4 u a u b)
def T74 (a b d e f g : AV) : A2 := N0 (Y14 a b d u u u u u u u u e f g)
def T75 (a b d e f g j k : AV) : A2 := N0 (Y14 a b d u u u e f u u u g j k)
def T76 (a b d e f g j : AV) : A2 := N0 (Y14 a b d u u u e u u u u f g j)
def T77 (a b d e : AV) : A2 := N0 (Y7 a b d u u u e)
def T78 (a b : AV) : A2 := N0 (Y3 a u b)
def T79 (a b d : AV) : A2 := N0 (Y4 a u b d)
def T80 (a b d e f : AV) : A2 := N0 (Y10 u a u u b u d u e f)
def T81 (a b d e f g : AV) : A2 := N0 (Y10 a b u d u u e u f g)
def T82 (a b d e f g j : AV) : A2 := N0 (Y11 a b u d u u e u f g j)
def T83 (a b d e f g j k : AV) : A2 := N2 (Y10 a b u u u u d u e f) .nil (Y12 u u u u u u u u u g j k)
def T84 (a b d e : AV) : A2 := N0 (Y10 a b u u u u d u u e)
def T85 (a b d e f : AV) : A2 := N0 (Y10 a b u u u u d u e f)
def T86 (a b d e : AV) : A2 := N0 (Y7 a b u d u u e)
def T87 (a b d e f : AV) : A2 := N0 (Y9 a b u u u u d e f)
def T88 (a b d e f g : AV) : A2 := N0 (Y13 a b u u u u d e f u u u g)
def T89 (a b d e f g : AV) : A2 := N2 (Y13 a b u u u u d u e u u u f) .nil (Y7 u u u u u u g)
def T90 (a b d : AV) : A2 := N0 (Y13 a u u u u u u u b u u u d)
def T91 (a b d e f : AV) : A2 := N0 (Y8 a b d u u u e f)
def T92 (a b d : AV) : A2 := N0 (Y5 a b u u d)
def T93 (a b d e : AV) : A2 := N5 (Y1 a) .nil .nil .nil .nil (Y7 u u u u b d e)
def T94 (a b d : AV) : A2 := N0 (Y9 a u u u u u u b d)
def T95 (a b d : AV) : A2 := N8 (Y1 a) .nil .nil .nil .nil .nil .nil .nil (Y7 u u u u u b d)
def T96 (a b d : AV) : A2 := N0 (Y5 a u b u d)
def T97 (a b d e : AV) : A2 := N0 (Y6 a u u b d e)
def T98 (a b d e f g : AV) : A2 := N1 (Y6 a u u u b d) (Y6 u u u e f g)
def T99 (a b d e : AV) : A2 := N0 (Y13 a u u u u u u u u u b d e)
def T100 (a b d e f : AV) : A2 := N0 (Y9 a b u d u u e u f)
def T101 (a b d e : AV) : A2 := N0 (Y9 a b u d u u u u e)
def T102 (a b : AV) : A2 := N0 (Y9 u u u a u u u u b)
def T103 (a : AV) : A2 := N3 .nil .nil .nil (Y2 u a)
def T104 (a : AV) : A2 := N0 (Y9 u u u u u u u u a)
def T105 (a b d e f : AV) : A2 := N0 (Y10 a u u u u b d e u f)
def T106 (a b d e f : AV) : A2 := N0 (Y11 a u u u u b d e u u f)
def T107 (a b d : AV) : A2 := N0 (Y10 a b u u u u u u u d)
def T108 (a b d e : AV) : A2 := N0 (Y8 a u u u b d u e)
def T109 (a b d : AV) : A2 := N0 (Y7 a u u u b u d)
def T110 (a b : AV) : A2 := N0 (Y8 u u u u a u u b)
def T111 (a b d : AV) : A2 := N0 (Y12 u a u b u u u u u u u d)
def T112 (a b d : AV) : A2 := N1 (Y4 u a u b) (Y7 u u u u u u d)
def T113 (a b d e : AV) : A2 := N0 (Y9 a b d u u u u u e)
def T114 (a b d e f : AV) : A2 := N0 (Y8 a u b u u d e f)
def T115 (a b d e : AV) : A2 := N0 (Y6 a u b d u e)
def T116 (a b d e : AV) : A2 := N0 (Y9 a b u u u u u d e)
def T117 (a b d e : AV) : A2 := N0 (Y10 u u u a u u u b d e)
def T118 (a b d e f : AV) : A2 := N1 (Y10 u u u a u u u b d e) (Y2 u f)
def T119 (a b d e f g : AV) : A2 := N0 (Y10 a b d e u u u u f g)
def T120 (a b d e f g j : AV) : A2 := N0 (Y11 a b d e u u u u f g j)
def T121 (a b d e f g j k l : AV) : A2 := N0 (Y13 a b d e u u u u f g j k l)
def T122 (a b d e f g j k : AV) : A2 := N0 (Y12 a b d e u u u u f g j k)
def T123 (a b d e f g j k l : AV) : A2 := N1 (Y15 a b d e u u u u u f u u u u g) (Y3 j k l)
def T124 (a b d e f g j k l m : AV) : A2 := N7 (Y15 a b d e u u u u u f u u u u g) (Y3 j k l) .nil .nil .nil .nil .nil (Y2 u m)
def k3_5 : KF := K6 y0 y1 y5 y7 y8 y50 fun c i x h a b d e f g=>
 I g (A 3 f h fun j h=>
 W j iS h fun k h=>
 .nm (T5 a b d e f) h) (.nm (T5 a b d e f) h)
def k3_7 : KF := K5 y0 y1 y5 y7 y64 fun c i x h a b d e f=>
 I f (.ret (T1 (.bool false)) h) (.nm (T3 a b d e) h)
def k3_6 : KF := K5 y0 y1 y5 y7 y8 fun c i x h a b d e f=>
 A 3 f h fun g h=>
 L g h fun j h=>
 tR (lx j h) fun k h=>
 tR (fj k (pi 100) h) fun l h=>
 I l (A 3 f h fun m h=>
 L m h fun n h=>
 tR (jo (.c n) .none (.some (.c (pi 100))) .nil h) fun o h=>
 A 3 f h fun p h=>
 W p o h fun q h=>
 M 4 f h fun s h=>
 C c 6 [d,s] h fun t h=>
 G t h fun v h=>
 tR (fj v i0 h) fun w h=>
 x (T6 a b d e w) h) (M 4 f h fun m h=>
 C c 6 [d,m] h fun n h=>
 G n h fun o h=>
 tR (fj o i0 h) fun p h=>
 x (T6 a b d e p) h)
def k3_4 : KF := K4 y0 y1 y5 y7 fun c i x h a b d e=>
 X 4 b e h fun f h=>
 M 4 f h fun g h=>
 O 29 4 (.k1 (Y4 i0 i0 i0 iS)) h fun j h=>
 S 4 j g h fun k h=>
 x (T5 a b d e j) h
def k3_8 : KF := K4 y0 y1 y5 y7 fun c i x h a b d e=>
 D e i1 h fun f h=>
 .nm (T3 a b d f) h
def k3_3 : KF := K4 y0 y1 y5 y7 fun c i x h a b d e=>
 G b h fun f h=>
 Y e f h fun g h=>
 gD g true (fun j=>j e h) h fun j h=>
 gD g true (fun k=>Y j (pi 60) h fun l h=>
 k l h) h fun k h=>
 tR (gZ (.c g) (.c k) (.c (.bool false)) .nil h) fun l h=>
 I l (x (T3 a b d e) h) (.ex 0 (T4 a d) h)
def k3_2 : KF := K3 y0 y1 y5 fun c i x h a b d=>
 x (T3 a b d i0) h
def k3_10 : KF := K3 y0 y5 y9 fun c i x h a b d=>
 Y d a h fun e h=>
 I e (U [i0,i0,i0,iS] [.mk 0 1 (.c (pi 8)),.mk 1 1 (.c d)] h fun f h=>
 C c 6 [b,f] h fun g h=>
 D d i1 h fun j h=>
 .nm (T7 a b j) h) (.ex 2 (T7 a b d) h)
def k3_9 : KF := K2 y0 y5 fun c i x h a b=>
 x (T7 a b i0) h
def k3_12 : KF := K3 y0 y5 y94 fun c i x h a b d=>
 I d (.ret (T1 (.bool false)) h) (.nm (T4 a b) h)
def k3_17 : KF := K4 y0 y5 y12 y127 fun c i x h a b d e=>
 I e (.ret (T1 (.bool false)) h) (.nm (T9 a b d) h)
def k3_16 : KF := K3 y0 y5 y12 fun c i x h a b d=>
 C c 8 [b,d] h fun e h=>
 E 0 e h fun f h=>
 E 1 e h fun g h=>
 x (T10 a b d f g) h
def k3_18 : KF := K3 y0 y5 y12 fun c i x h a b d=>
 D d i1 h fun e h=>
 .nm (T9 a b e) h
def k3_15 : KF := K3 y0 y5 y12 fun c i x h a b d=>
 Y d a h fun e h=>
 I e (x (T9 a b d) h) (.ex 4 (T4 a b) h)
def k3_14 : KF := K2 y0 y5 fun c i x h a b=>
 x (T9 a b i0) h
def k3_13 : KF := K2 y0 y5 fun c i x h a b=>
 C c 7 [b,(pi 20000)] h fun d h=>
 x (T4 a b) h
def k3_11 : KF := K2 y0 y5 fun c i x h a b=>
 C c 7 [b,(pi 20000)] h fun d h=>
 E 0 d h fun e h=>
 E 1 d h fun f h=>
 x (T8 a b e f) h
def k3_1 : KF := K4 y0 y1 y5 y6 fun c i x h a b d e=>
 tR (bK .oP d .da h) fun f h=>
 gD f false (fun g=>g e h) h fun g h=>
 gD f false (fun j=>tR (gF g i0 h) fun k h=>
 j k h) h fun j h=>
 tR (gZ (.c f) (.c (.bool true)) (.c j) .nil h) fun k h=>
 I k (.ret (T1 (.bool false)) h) (x (T2 a b d) h)
def k3_0 : KF := K2 y0 y1 fun c i x h a b=>
 C c 4 [a,i0,(pi 4)] h fun d h=>
 D i1 d h fun e h=>
 C c 5 [e] h fun f h=>
 E 0 f h fun g h=>
 E 1 f h fun j h=>
 x (T0 e b g j) h
def x3 : AC := (.ag k3_0 (.ag k3_1 (.seq (.ag k3_2 (.block 0 (.loop (.ag k3_3 (.seq (.block 1 (.ag k3_4 (.seq (.seq (.ops [of d43 0 r8,
 ol d44 r43,
 o d45 (.bin .eq r44 a1),
 m d46 r45,
 .g .h2 .he false d47 (.op (.ig 0 r8)),
 .g .h2 .he false d48 (.op (.eU r47)),
 .g .h2 .he false d49 (.op (.bin .eq r48 a2)),
 o d50 (.pick r46 (.c (.bool true)) r49)]) (.ag k3_5 .skip)) (.ag k3_6 (.ag k3_7 .skip))))) (.ag k3_8 .skip)))))) (.seq (.ag k3_9 (.block 2 (.loop (.ag k3_10 .skip)))) (.ag k3_11 (.seq (.seq (.ops [m d79 r10,
 o d80 (.len r79),
 o d81 (.bin .gt r80 a0),
 m d82 r81,
 .g .h5 .h2 false d83 (.op (.mv r11)),
 .g .h5 .h2 false d84 (.op (.bin .gt r83 (.c (pi 20000)))),
 o d85 (.pick r82 (.c (.bool true)) r84),
 m d86 r85,
 .g .h5 .h6 false d87 (.op (.mv r5)),
 .g .h5 .h6 false d88 (.op (.mF 5 [(.int .u8 (.ofNat 0))] (.c (pi 10001)) (.c (pi 10001)))),
 .g .h5 .h6 false d89 (.op (.conv .KH r88)),
 .g .h5 .h6 false d90 (.op (.build [i0,i0,i0,iS] [.mk 0 1 a1,.mk 1 1 a0,.mk 3 1 r89])),
 .g .h5 .h6 false d91 (.call 6 [r87,r90]),
 .g .h5 .h6 false d92 (.op (.len r91)),
 .g .h5 .h6 false d93 (.op (.bin .gt r92 a0)),
 o d94 (.pick r86 (.c (.bool true)) r93)]) (.ag k3_12 .skip)) (.ag k3_13 (.seq (.ag k3_14 (.block 4 (.loop (.ag k3_15 (.seq (.block 5 (.ag k3_16 (.seq (.ops [m d108 r5,
 m d109 r12,
 oc d110 9 [r108,r109],
 o d111 (.len r110),
 o d112 (.bin .gt r111 a0),
 m d113 r112,
 .g .h7 .h1 false d114 (.op (.mv r5)),
 .g .h7 .h1 false d115 (.op (.mv r12)),
 .g .h7 .h1 false d116 (.call 10 [r114,r115]),
 .g .h7 .h1 false d117 (.op (.un .not r116)),
 o d118 (.pick r113 (.c (.bool true)) r117),
 m d119 r118,
 .g .h7 .h7 false d120 (.op (.mv r13)),
 .g .h7 .h7 false d121 (.op (.bin .ne r120 a0)),
 o d122 (.pick r119 (.c (.bool true)) r121),
 m d123 r122,
 .g .h7 .hb false d124 (.op (.mv r14)),
 .g .h7 .hb false d125 (.op (.lx r124)),
 .g .h7 .hb false d126 (.op (.bin .gt r125 a0)),
 o d127 (.pick r123 (.c (.bool true)) r126)]) (.ag k3_17 .skip)))) (.ag k3_18 .skip)))))) (.seq (.ops [m d128 r5,
 m d129 r0,
 oc d130 9 [r128,r129],
 o d131 (.len r130),
 o d132 (.bin .eq r131 a0),
 m d133 r132,
 .g .h8 .h5 true d134 (.op (.mv r5)),
 .g .h8 .h5 true d135 (.call 10 [r134,(.c (ni 0))]),
 .g .h8 .h5 true d136 (.op (.un .not r135)),
 o d137 (.pick r133 r136 (.c (.bool false))),
 m d138 r137,
 .g .h8 .ha true d139 (.call 11 []),
 o d140 (.pick r138 r139 (.c (.bool false))),
 m d4 r140]) .ret)))))))))
def f3 : AF := .mk x3 [.t .h0 .h4]
def k4_1 : KF := K2 y0 y1 fun c i x h a b=>
 D b a h fun d h=>
 .ret (T12 d) h
def k4_0 : KF := K3 y0 y1 y2 fun c i x h a b d=>
 Z d b h fun e h=>
 D e i1 h fun f h=>
 tR (vA a f h) fun g h=>
 Y g i0 h fun j h=>
 I j (D g d h fun k h=>
 Z k b h fun l h=>
 D l i1 h fun m h=>
 x (T11 m b) h) (x (T11 g b) h)
def x4 : AC := (.ag k4_0 (.ag k4_1 .skip))
def f4 : AF := .mk x4 [.t .h0 .h6]
def k5_1 : KF := K1 y0 fun c i x h a=>
 U [i0,iS,.al,i0,iS,.al,i0,iS,.al,i0,iS,.al,i0,iS,.al,.al] [] h fun b h=>
 B 47 b h fun d h=>
 U [.da,.da] [.mk 1 1 (.c d)] h fun e h=>
 B 50 e h fun f h=>
 J f h fun g h=>
 A 1 g h fun j h=>
 L j h fun k h=>
 C c 12 [a,(.iface 42 k)] h fun l h=>
 J f h fun m h=>
 A 0 m h fun n h=>
 W n l h fun o h=>
 .ret (T13 f i0) h
def k5_0 : KF := K1 y0 fun c i x h a=>
 Y a i1 h fun b h=>
 gD b false (fun d=>d a h) h fun d h=>
 gD b false (fun e=>tR (fj d (pi 5) h) fun f h=>
 e f h) h fun e h=>
 tR (gZ (.c b) (.c (.bool true)) (.c e) .nil h) fun f h=>
 I f (.ret (T13 .da i1) h) (x (T14 a) h)
def x5 : AC := (.ag k5_0 (.ag k5_1 .skip))
def f5 : AF := .mk x5 [.t .h0 .h2,.t .h0 .h3]
def k6_3 : KF := K3 y0 y3 y17 fun c i x h a b d=>
 I d (tQ (nC a h) fun e=>
 tQ (fA 0 e h) fun f=>
 tQ (lD f h) fun g=>
 tQ (fA 1 b h) fun j=>
 tQ (lD j h) fun k=>
 tQ (fA 3 b h) fun l=>
 tQ (lD l h) fun m=>
 tX (c 13 [g,k,m,(.bool false)] h) fun n h=>
 .nm (T14 a) h) (.nm (T14 a) h)
def um : KF := K4 y0 y3 y6 y27 fun c i x h a b d e=>
 I e (A 3 b h fun f h=>
 L f h fun g h=>
 tR (sM g iS h) fun j h=>
 I j (tQ (nC a h) fun k=>
 tQ (fA 0 k h) fun l=>
 tQ (lD l h) fun m=>
 tQ (fA 1 b h) fun n=>
 tQ (lD n h) fun o=>
 tQ (fA 3 b h) fun p=>
 tQ (lD p h) fun q=>
 tX (c 13 [m,o,q,(.bool true)] h) fun s h=>
 .nm (T14 a) h) (.nm (T14 a) h)) (Q d (pi 3) h fun f h=>
 I f (tQ (nC a h) fun g=>
 tQ (fA 0 g h) fun j=>
 tQ (lD j h) fun k=>
 tQ (fA 2 b h) fun l=>
 tQ (lD l h) fun m=>
 tX (c 14 [k,m] h) fun n h=>
 .nm (T14 a) h) (Q d (pi 4) h fun g h=>
 I g (tQ (nC a h) fun j=>
 tQ (fA 0 j h) fun k=>
 tQ (lD k h) fun l=>
 tQ (fA 2 b h) fun m=>
 tQ (lD m h) fun n=>
 tX (c 15 [l,n] h) fun o h=>
 .nm (T14 a) h) (Q d (pi 5) h fun j h=>
 I j (tQ (nC a h) fun k=>
 tQ (fA 0 k h) fun l=>
 tQ (lD l h) fun m=>
 tQ (fA 2 b h) fun n=>
 tQ (lD n h) fun o=>
 tX (c 16 [m,o] h) fun p h=>
 .nm (T14 a) h) (Q d (pi 6) h fun k h=>
 I k (tQ (nC a h) fun l=>
 tQ (fA 0 l h) fun m=>
 tQ (lD m h) fun n=>
 tQ (fA 1 b h) fun o=>
 tQ (lD o h) fun p=>
 tQ (fA 2 b h) fun q=>
 tQ (lD q h) fun s=>
 tX (c 17 [n,p,s] h) fun t h=>
 .nm (T14 a) h) (Q d (pi 7) h fun l h=>
 I l (tQ (nC a h) fun m=>
 tQ (fA 0 m h) fun n=>
 tQ (lD n h) fun o=>
 tQ (fA 1 b h) fun p=>
 tQ (lD p h) fun q=>
 tQ (fA 2 b h) fun s=>
 tQ (lD s h) fun t=>
 tX (c 18 [o,q,t] h) fun v h=>
 .nm (T14 a) h) (Q d (pi 8) h fun m h=>
 I m (tQ (nC a h) fun n=>
 tQ (fA 0 n h) fun o=>
 tQ (lD o h) fun p=>
 tQ (fA 1 b h) fun q=>
 tQ (lD q h) fun s=>
 tX (c 19 [p,s] h) fun t h=>
 .nm (T14 a) h) (Q d (pi 9) h fun n h=>
 I n (tQ (nC a h) fun o=>
 tQ (fA 0 o h) fun p=>
 tQ (lD p h) fun q=>
 tQ (fA 1 b h) fun s=>
 tQ (lD s h) fun t=>
 tQ (fA 2 b h) fun v=>
 tQ (lD v h) fun w=>
 tQ (fA 3 b h) fun y=>
 tQ (lD y h) fun z=>
 tX (c 20 [q,t,w,z] h) fun a0 h=>
 .nm (T14 a) h) (.nm (T14 a) h))))))))
def k6_4 : KF := K3 y0 y3 y6 fun c i x h a b d=>
 Q d (pi 2) h fun e h=>
 x (T18 a b d e) h
def Ff : KF := K3 y0 y3 y6 fun c i x h a b d=>
 Q d i1 h fun e h=>
 x (T17 a b d e) h
def k6_1 : KF := K2 y0 y3 fun c i x h a b=>
 A 0 b h fun d h=>
 L d h fun e h=>
 x (T16 a b e) h
def k6_6 : KF := K1 y0 fun c i x h a=>
 C c 21 [a] h fun b h=>
 .ret (T1 b) h
def k6_0 : KF := K2 y0 y1 fun c i x h a b=>
 B 29 b h fun d h=>
 x (T15 a d) h
def x6 : AC := (.ag k6_0 (.seq (.ag k6_1 (.block 0 (.ag Ff (.cond r7 (.seq (.ops [of d9 3 r3,
 ol d10 r9,
 o d11 (.bin .QO r10 (.c iS)),
 m d12 r11,
 .g .h0 .hc true d13 (.op (.ig 3 r3)),
 .g .h0 .hc true d14 (.op (.eU r13)),
 .g .h0 .hc true d15 (.op (.lx r14)),
 .g .h0 .hc true d16 (.op (.bin .le r15 (.c (pi 10000)))),
 o d17 (.pick r12 r16 (.c (.bool false)))]) (.ag k6_3 .skip)) (.ag k6_4 (.ag um .skip)))))) (.ag k6_6 .skip)))
def f6 : AF := .mk x6 [.t .h0 .h4]
def k7_2 : KF := K4 y0 y1 y6 y19 fun c i x h a b d e=>
 I e (D d i1 h fun f h=>
 .go 0 (T19 a b f) h) (.nm (T19 a b d) h)
def k7_3 : KF := K4 y0 y1 y6 y31 fun c i x h a b d e=>
 I e (J a h fun f h=>
 A 0 f h fun g h=>
 L g h fun j h=>
 C c 23 [j] h fun k h=>
 D d i1 h fun l h=>
 .go 0 (T19 a b l) h) (.nm (T19 a b d) h)
def k7_4 : KF := K2 y0 y6 fun c i x h a b=>
 C c 21 [a] h fun d h=>
 .ret (T20 d b) h
def k7_1 : KF := K2 y0 y1 fun c i x h a b=>
 tR (fW false [b,i0] h) fun d h=>
 tR (fW true [d,(pi 20000)] h) fun e h=>
 x (T19 a e i0) h
def k7_0 : KF := K2 y0 y1 fun c i x h a b=>
 x (T11 a b) h
def x7 : AC := (.ag k7_0 (.scope (.ag k7_1 (.seq (.label 0) (.seq (.seq (.ops [m d10 r6,
 m d11 r1,
 o d12 (.bin .lt r10 r11),
 m d13 r12,
 .g .h0 .hd true d14 (.op (.mv r0)),
 .g .h0 .hd true d15 (.op (.dk r14)),
 .g .h0 .hd true d16 (.op (.ig 0 r15)),
 .g .h0 .hd true d17 (.op (.eU r16)),
 .g .h0 .hd true d18 (.call 14 [r17,a0]),
 o d19 (.pick r13 r18 (.c (.bool false)))]) (.ag k7_2 .skip)) (.seq (.seq (.ops [m d22 r6,
 m d23 r1,
 o d24 (.bin .lt r22 r23),
 m d25 r24,
 .g .h1 .h9 true d26 (.op (.mv r0)),
 .g .h1 .h9 true d27 (.op (.dk r26)),
 .g .h1 .h9 true d28 (.op (.ig 0 r27)),
 .g .h1 .h9 true d29 (.op (.eU r28)),
 .g .h1 .h9 true d30 (.call 22 [r29]),
 o d31 (.pick r25 r30 (.c (.bool false)))]) (.ag k7_3 .skip)) (.ag k7_4 .skip)))))))
def f7 : AF := .mk x7 [.t .h0 .h4,.t .h0 .h5]
def k8_1 : KF := K2 y0 y1 fun c i x h a b=>
 tQ (nC a h) fun d=>
 tQ (fA 1 d h) fun e=>
 tQ (lD e h) fun f=>
 tQ (nC f h) fun g=>
 tQ (fA 0 g h) fun j=>
 tQ (FM 5 3 j b h) fun k=>
 tQ (fA 0 k h) fun l=>
 tQ (lD l h) fun m=>
 tQ (nC a h) fun n=>
 tQ (fA 1 n h) fun o=>
 tQ (lD o h) fun p=>
 tQ (nC p h) fun q=>
 tQ (fA 0 q h) fun s=>
 tQ (FM 5 3 s b h) fun t=>
 tQ (fA 1 t h) fun v=>
 tQ (lD v h) fun w=>
 .ret (T20 m w) h
def k8_0 : KF := K2 y0 y1 fun c i x h a b=>
 J a h fun d h=>
 A 0 d h fun e h=>
 L e h fun f h=>
 C c 24 [f,b] h fun g h=>
 tR (eS g h) fun j h=>
 I j (.ret (T20 i0 iS) h) (x (T11 a b) h)
def x8 : AC := (.ag k8_0 (.ag k8_1 .skip))
def f8 : AF := .mk x8 [.t .h0 .h4,.t .h0 .h5]
def k9_0 : KF := K2 y0 y1 fun c i x h a b=>
 J a h fun d h=>
 A 0 d h fun e h=>
 L e h fun f h=>
 C c 24 [f,b] h fun g h=>
 tR (eS g h) fun j h=>
 I j (.ret (T1 .al) h) (J a h fun k h=>
 A 1 k h fun l h=>
 L l h fun m h=>
 J m h fun n h=>
 A 0 n h fun o h=>
 tR (FM 5 3 o b h) fun p h=>
 A 2 p h fun q h=>
 L q h fun s h=>
 C c 25 [s] h fun t h=>
 .ret (T1 t) h)
def x9 : AC := (.ag k9_0 .skip)
def f9 : AF := .mk x9 [.t .h0 .h4]
def k10_0 : KF := K2 y0 y1 fun c i x h a b=>
 J a h fun d h=>
 A 0 d h fun e h=>
 L e h fun f h=>
 C c 24 [f,b] h fun g h=>
 .ret (T1 g) h
def x10 : AC := (.ag k10_0 .skip)
def f10 : AF := .mk x10 [.t .h0 .h4]
def k12_3 : KF := K3 y5 y12 y13 fun c i x h a b d=>
 x (T23 a d b d) h
def k12_4 : KF := K3 y5 y12 y13 fun c i x h a b d=>
 D d i1 h fun e h=>
 .nm (T21 a b e) h
def k12_2 : KF := K3 y5 y12 y13 fun c i x h a b d=>
 Y d b h fun e h=>
 I e (x (T21 a b d) h) (.ex 0 (T22 a) h)
def k12_1 : KF := K2 y0 y5 fun c i x h a b=>
 x (T21 b a i0) h
def k12_6 : KF := K4 y5 y34 y35 y36 fun c i x h a b d e=>
 Y e d h fun f h=>
 I f (X 1 b e h fun g h=>
 L g h fun j h=>
 C c 29 [j,(.bool false)] h fun k h=>
 D e i1 h fun l h=>
 .nm (T24 a b d l) h) (.ex 2 (T24 a b d e) h)
def k12_5 : KF := K1 y5 fun c i x h a=>
 J a h fun b h=>
 A 1 b h fun d h=>
 L d h fun e h=>
 G e h fun f h=>
 x (T24 a e f i0) h
def k12_7 : KF := K1 y5 fun c i x h a=>
 .ret (T1 a) h
def k12_0 : KF := K2 y0 y1 fun c i x h a b=>
 U [.al,.al,.AZ] [.mk 2 1 (.c b)] h fun d h=>
 B 67 d h fun e h=>
 x (T4 a e) h
def x12 : AC := (.ag k12_0 (.seq (.ag k12_1 (.block 0 (.loop (.ag k12_2 (.seq (.block 1 (.ag k12_3 (.eH [w (oc d23 28 []),
 q 1 (m d21 r5),
 q 1 (m d22 r6),
 q 0 (o d24 (.build [.da,i0,.da,i0,(.bool false),i0,i0,.da,.da,.da,i0,.db,i0,i0,i0,.db,iS,.al,i0,i0,.db,i0,i0,i0,(.bool false)] [.mk 0 1 r21,.mk 1 1 r22,.mk 2 1 r23])),
 w (o d25 (.box 81 r24)),
 w (o d26 (.dU 68 1 1 [.da] [.mk 0 1 r25])),
 q 3 (m d17 r5),
 qj 3 d18 r17,
 qf 3 d19 1 r18,
 ql 3 d20 r19,
 w (o d27 (.app 68 1 r20 r26)),
 q 4 (m d16 r5),
 qj 0 d28 r16,
 qf 0 d29 1 r28,
 w (os r29 r27)]))) (.ag k12_4 .skip)))))) (.seq (.ag k12_5 (.block 2 (.loop (.ag k12_6 .skip)))) (.ag k12_7 .skip))))
def f12 : AF := .mk x12 [.t .h0 .h4]
def k14_2 : KF := K2 y0 y6 fun c i x h a b=>
 tQ (nC a h) fun d=>
 tQ (fA 1 d h) fun e=>
 tQ (lD e h) fun f=>
 tQ (fA 1 b h) fun g=>
 tQ (lD g h) fun j=>
 tQ (iX 1 f j h) fun k=>
 tQ (lD k h) fun l=>
 tQ (nC l h) fun m=>
 tQ (fA 4 m h) fun n=>
 tQ (lD n h) fun o=>
 I o (tQ (nC a h) fun p=>
 tQ (fA 1 p h) fun q=>
 tQ (lD q h) fun s=>
 tQ (fA 1 b h) fun t=>
 tQ (lD t h) fun v=>
 tQ (iX 1 s v h) fun w=>
 tQ (lD w h) fun y=>
 tQ (ja 3 b h) fun z=>
 tX (c 33 [y,z] h) fun a0 h=>
 x (T1 (.bool true)) h) (x (T1 (.bool true)) h)
def k14_1 : KF := K3 y0 y5 y6 fun c i x h a b d=>
 J a h fun e h=>
 A 0 e h fun f h=>
 L f h fun g h=>
 D b i1 h fun j h=>
 C c 32 [g,b,j] h fun k h=>
 J a h fun l h=>
 A 0 l h fun m h=>
 W m k h fun n h=>
 x (T26 a d) h
def k14_0 : KF := K2 y0 y1 fun c i x h a b=>
 C c 31 [a,b] h fun d h=>
 Y d i0 h fun e h=>
 I e (.ret (T1 (.bool false)) h) (J a h fun f h=>
 A 0 f h fun g h=>
 L g h fun j h=>
 X 3 j d h fun k h=>
 M 3 k h fun l h=>
 O 86 3 (.k1 (Y3 i0 i0 .al)) h fun m h=>
 S 3 m l h fun n h=>
 x (T25 a d m) h)
def x14 : AC := (.ag k14_0 (.ag k14_1 (.ag k14_2 .ret)))
def f14 : AF := .mk x14 [.t .h0 .h4]
def k15_0 : KF := K2 y0 y1 fun c i x h a b=>
 C c 31 [a,b] h fun d h=>
 tR (kY d i0 h) fun e h=>
 I e (J a h fun f h=>
 A 0 f h fun g h=>
 L g h fun j h=>
 D d i1 h fun k h=>
 C c 32 [j,d,k] h fun l h=>
 J a h fun m h=>
 A 0 m h fun n h=>
 W n l h fun o h=>
 .nm T27 h) (.nm T27 h)
def x15 : AC := (.ag k15_0 .skip)
def f15 : AF := .mk x15 []
def k16_0 : KF := K2 y0 y1 fun c i x h a b=>
 C c 31 [a,b] h fun d h=>
 tR (kY d i0 h) fun e h=>
 I e (J a h fun f h=>
 A 0 f h fun g h=>
 L g h fun j h=>
 X 3 j d h fun k h=>
 M 3 k h fun l h=>
 O 86 3 (.k1 (Y3 i0 i0 .al)) h fun m h=>
 S 3 m l h fun n h=>
 A 0 m h fun o h=>
 L o h fun p h=>
 A 1 m h fun q h=>
 L q h fun s h=>
 A 2 m h fun t h=>
 L t h fun v h=>
 C c 34 [a,p,s,v] h fun w h=>
 .nm T27 h) (.nm T27 h)
def x16 : AC := (.ag k16_0 .skip)
def f16 : AF := .mk x16 []
def k17_0 : KF := K4 y0 y1 y2 y16 fun c i x h a b d e=>
 I e (J a h fun f h=>
 A 1 f h fun g h=>
 L g h fun j h=>
 X 1 j b h fun k h=>
 L k h fun l h=>
 C c 36 [l,d] h fun m h=>
 .nm T27 h) (.nm T27 h)
def x17 : AC := (.seq (.ops [m d6 r0,
 m d7 r1,
 oc d8 35 [r6,r7],
 m d9 r8,
 .g .h0 .h9 true d10 (.op (.mv r2)),
 .g .h0 .h9 true d11 (.op (.bin .ge r10 a1)),
 o d12 (.pick r9 r11 (.c (.bool false))),
 m d13 r12,
 .g .h0 .hd true d14 (.op (.mv r2)),
 .g .h0 .hd true d15 (.op (.bin .le r14 (.c (pi 1000)))),
 o d16 (.pick r13 r15 (.c (.bool false)))]) (.ag k17_0 .skip))
def f17 : AF := .mk x17 []
def k18_1 : KF := K4 y0 y1 y2 y9 fun c i x h a b d e=>
 I e (J a h fun f h=>
 A 1 f h fun g h=>
 L g h fun j h=>
 X 1 j b h fun k h=>
 L k h fun l h=>
 J l h fun m h=>
 A 4 m h fun n h=>
 W n (.bool false) h fun o h=>
 J l h fun p h=>
 A 17 p h fun q h=>
 W q .al h fun s h=>
 J l h fun t h=>
 A 2 t h fun v h=>
 L v h fun w h=>
 C c 37 [w,d] h fun y h=>
 .nm T27 h) (.nm T27 h)
def k18_0 : KF := K3 y0 y1 y2 fun c i x h a b d=>
 C c 24 [a,b] h fun e h=>
 x (T28 a b d e) h
def x18 : AC := (.ag k18_0 (.ag k18_1 .skip))
def f18 : AF := .mk x18 []
def k19_1 : KF := K3 y0 y1 y20 fun c i x h a b d=>
 I d (.ret (T1 (.bool false)) h) (.nm (T11 a b) h)
def k19_2 : KF := K2 y0 y1 fun c i x h a b=>
 J a h fun d h=>
 A 1 d h fun e h=>
 L e h fun f h=>
 X 1 f b h fun g h=>
 L g h fun j h=>
 C c 29 [j,(.bool true)] h fun k h=>
 .ret (T1 (.bool true)) h
def k19_0 : KF := K2 y0 y1 fun c i x h a b=>
 x (T11 a b) h
def x19 : AC := (.ag k19_0 (.seq (.seq (.ops [m d5 r0,
 m d6 r1,
 oc d7 35 [r5,r6],
 o d8 (.un .not r7),
 m d9 r8,
 .g .h0 .h9 false d10 (.op (.mv r0)),
 .g .h0 .h9 false d11 (.op (.dk r10)),
 .g .h0 .h9 false d12 (.op (.ig 1 r11)),
 .g .h0 .h9 false d13 (.op (.eU r12)),
 .g .h0 .h9 false d14 (.op (.mv r1)),
 .g .h0 .h9 false d15 (.op (.AQ 1 r13 r14)),
 .g .h0 .h9 false d16 (.op (.eU r15)),
 .g .h0 .h9 false d17 (.op (.dk r16)),
 .g .h0 .h9 false d18 (.op (.ig 4 r17)),
 .g .h0 .h9 false d19 (.op (.eU r18)),
 o d20 (.pick r9 (.c (.bool true)) r19)]) (.ag k19_1 .skip)) (.ag k19_2 .skip)))
def f19 : AF := .mk x19 [.t .h0 .h4]
def k20_0 : KF := K4 y0 y1 y2 y3 fun c i x h a b d e=>
 C c 24 [a,b] h fun f h=>
 I f (J a h fun g h=>
 A 1 g h fun j h=>
 L j h fun k h=>
 X 1 k b h fun l h=>
 L l h fun m h=>
 C c 38 [m,d,e] h fun n h=>
 .nm T27 h) (.nm T27 h)
def x20 : AC := (.ag k20_0 .skip)
def f20 : AF := .mk x20 []
def k21_0 : KF := K1 y0 fun c i x h a=>
 J a h fun b h=>
 A 1 b h fun d h=>
 L d h fun e h=>
 J e h fun f h=>
 A 15 f h fun g h=>
 L g h fun j h=>
 J a h fun k h=>
 A 1 k h fun l h=>
 L l h fun m h=>
 J m h fun n h=>
 A 15 n h fun o h=>
 W o .al h fun p h=>
 .ret (T29 j) h
def x21 : AC := (.ag k21_0 .skip)
def f21 : AF := .mk x21 [.t .h0 .h2]
def k22_2 : KF := K5 y0 y3 y12 y13 y14 fun c i x h a b d e f=>
 Y f e h fun g h=>
 I g (X 1 d f h fun j h=>
 L j h fun k h=>
 J k h fun l h=>
 A 4 l h fun m h=>
 L m h fun n h=>
 I n (J k h fun o h=>
 A 10 o h fun p h=>
 L p h fun q h=>
 tR (fW false [b,q] h) fun s h=>
 D f i1 h fun t h=>
 .nm (T30 a s d e t) h) (D f i1 h fun o h=>
 .nm (T30 a b d e o) h)) (.ex 0 (T30 a b d e f) h)
def k22_1 : KF := K2 y0 y3 fun c i x h a b=>
 J a h fun d h=>
 A 1 d h fun e h=>
 L e h fun f h=>
 G f h fun g h=>
 x (T30 a b f g i0) h
def k22_6 : KF := K5 y3 y6 y32 y33 y34 fun c i x h a b d e f=>
 X 1 d f h fun g h=>
 L g h fun j h=>
 J j h fun k h=>
 A 4 k h fun l h=>
 L l h fun m h=>
 tR (eS m h) fun n h=>
 I n (.ex 3 (T31 a b d e f) h) (J j h fun o h=>
 A 9 o h fun p h=>
 L p h fun q h=>
 C c 39 [q] h fun s h=>
 Y s a h fun t h=>
 I t (J j h fun v h=>
 A 24 v h fun w h=>
 W w (.bool true) h fun y h=>
 x (T32 a (.bool true) j d e f) h) (x (T32 a b j d e f) h))
def k22_7 : KF := K5 y3 y6 y32 y33 y34 fun c i x h a b d e f=>
 D f i1 h fun g h=>
 .nm (T31 a b d e g) h
def k22_5 : KF := K5 y3 y6 y32 y33 y34 fun c i x h a b d e f=>
 Y f e h fun g h=>
 I g (x (T31 a b d e f) h) (.ex 2 (T12 b) h)
def k22_4 : KF := K3 y0 y3 y6 fun c i x h a b d=>
 J a h fun e h=>
 A 1 e h fun f h=>
 L f h fun g h=>
 G g h fun j h=>
 x (T31 b d g j i0) h
def k22_8 : KF := K1 y6 fun c i x h a=>
 .ret (T29 a) h
def k22_3 : KF := K2 y0 y3 fun c i x h a b=>
 x (T16 a b (.bool false)) h
def k22_0 : KF := K1 y0 fun c i x h a=>
 x (T15 a i0) h
def x22 : AC := (.ag k22_0 (.seq (.ag k22_1 (.block 0 (.loop (.ag k22_2 .skip)))) (.ag k22_3 (.seq (.ag k22_4 (.block 2 (.loop (.ag k22_5 (.seq (.block 3 (.ag k22_6 (.ops [m d53 r6,
 m d54 r53,
 .g .h3 .h6 false d55 (.op (.mv r8)),
 .g .h3 .h6 false d56 (.call 40 [r55]),
 o d57 (.pick r54 (.c (.bool true)) r56),
 m d58 r57,
 .g .h3 .ha false d59 (.op (.mv r8)),
 .g .h3 .ha false d60 (.op (.dk r59)),
 .g .h3 .ha false d61 (.op (.ig 17 r60)),
 .g .h3 .ha false d62 (.op (.eU r61)),
 .g .h3 .ha false d63 (.op (.len r62)),
 .g .h3 .ha false d64 (.op (.bin .gt r63 a0)),
 o d65 (.pick r58 (.c (.bool true)) r64),
 m d6 r65]))) (.ag k22_7 .skip)))))) (.ag k22_8 .skip)))))
def f22 : AF := .mk x22 [.t .h0 .h2]
def k24_0 : KF := K2 y0 y1 fun c i x h a b=>
 x (T11 a b) h
def x24 : AC := (.ag k24_0 (.seq (.ops [m d5 r0,
 m d6 r1,
 oc d7 35 [r5,r6],
 m d8 r7,
 .g .h0 .h8 true d9 (.op (.mv r0)),
 .g .h0 .h8 true d10 (.op (.dk r9)),
 .g .h0 .h8 true d11 (.op (.ig 1 r10)),
 .g .h0 .h8 true d12 (.op (.eU r11)),
 .g .h0 .h8 true d13 (.op (.mv r1)),
 .g .h0 .h8 true d14 (.op (.AQ 1 r12 r13)),
 .g .h0 .h8 true d15 (.op (.eU r14)),
 .g .h0 .h8 true d16 (.op (.dk r15)),
 .g .h0 .h8 true d17 (.op (.ig 4 r16)),
 .g .h0 .h8 true d18 (.op (.eU r17)),
 o d19 (.pick r8 r18 (.c (.bool false))),
 m d4 r19]) .ret))
def f24 : AF := .mk x24 [.t .h0 .h4]
def k25_0 : KF := K1 y0 fun c i x h a=>
 tR (bK (.gE .s) a .al h) fun b h=>
 I b (.ret (T29 .al) h) (tR (bs 9 1 0 [] [] h) fun d h=>
 tR (eJ 9 1 d a h) fun e h=>
 .ret (T29 e) h)
def x25 : AC := (.ag k25_0 .skip)
def f25 : AF := .mk x25 [.t .h0 .h2]
def k28_0 : KF := fun c i x r h=>
 U [.al,i0] [] h fun a h=>
 B 92 a h fun b h=>
 .ret (T14 b) h
def x28 : AC := (.ag k28_0 .skip)
def f28 : AF := .mk x28 [.t .h0 .h0]
def wu : KF := K4 y0 y81 y82 y83 fun c i x h a b d e=>
 Y e d h fun f h=>
 I f (X 1 b e h fun g h=>
 L g h fun j h=>
 C c 49 [j] h fun k h=>
 C c 48 [a,k] h fun l h=>
 D e i1 h fun m h=>
 .nm (T34 a b d m) h) (.ex 0 (T34 a b d e) h)
def k29_5 : KF := K2 y0 y4 fun c i x h a b=>
 G b h fun d h=>
 x (T34 a b d i0) h
def k29_9 : KF := K1 y0 fun c i x h a=>
 C c 51 [a] h fun b h=>
 .nm T27 h
def k29_8 : KF := K1 y0 fun c i x h a=>
 tQ (nC a h) fun b=>
 tQ (fA 0 b h) fun d=>
 tQ (lD d h) fun e=>
 tQ (nC e h) fun f=>
 tQ (fA 2 f h) fun g=>
 tQ (lD g h) fun j=>
 tQ (nC a h) fun k=>
 tQ (fA 1 k h) fun l=>
 tQ (lD l h) fun m=>
 tQ (nC a h) fun n=>
 tQ (fA 13 n h) fun o=>
 tQ (fA 1 o h) fun p=>
 tQ (lD p h) fun q=>
 tQ (nC a h) fun s=>
 tQ (fA 13 s h) fun t=>
 tQ (fA 3 t h) fun v=>
 tQ (lD v h) fun w=>
 tQ (nC j h) fun y=>
 tX (i 0 j [m,q,w] h) fun z h=>
 x (T14 a) h
def k29_7 : KF := K1 y0 fun c i x h a=>
 J a h fun b h=>
 A 6 b h fun d h=>
 L d h fun e h=>
 D e i1 h fun f h=>
 J a h fun g h=>
 A 6 g h fun j h=>
 W j f h fun k h=>
 C c 50 [a] h fun l h=>
 x (T14 a) h
def k29_4 : KF := K1 y0 fun c i x h a=>
 J a h fun b h=>
 A 2 b h fun d h=>
 L d h fun e h=>
 C c 47 [e] h fun f h=>
 C c 46 [f] h fun g h=>
 E 0 g h fun j h=>
 E 1 g h fun k h=>
 x (T33 a j) h
def k29_3 : KF := K2 y0 y1 fun c i x h a b=>
 J a h fun d h=>
 A 3 d h fun e h=>
 L e h fun f h=>
 J a h fun g h=>
 A 19 g h fun j h=>
 W j i0 h fun k h=>
 J a h fun l h=>
 A 22 l h fun m h=>
 W m i0 h fun n h=>
 J a h fun o h=>
 A 23 o h fun p h=>
 W p f h fun q h=>
 J a h fun s h=>
 A 24 s h fun t h=>
 W t b h fun v h=>
 x (T14 a) h
def k29_2 : KF := K2 y0 y1 fun c i x h a b=>
 U [i0,i0,.db,iS] [] h fun d h=>
 J a h fun e h=>
 A 13 e h fun f h=>
 S 4 f d h fun g h=>
 x (T11 a b) h
def k29_1 : KF := K2 y0 y1 fun c i x h a b=>
 tR (KB h) fun d h=>
 J a h fun e h=>
 A 11 e h fun f h=>
 W f d h fun g h=>
 J a h fun j h=>
 A 17 j h fun k h=>
 W k .al h fun l h=>
 J a h fun m h=>
 A 18 m h fun n h=>
 W n i0 h fun o h=>
 J a h fun p h=>
 A 6 p h fun q h=>
 W q i0 h fun s h=>
 J a h fun t h=>
 A 10 t h fun v h=>
 W v i0 h fun w h=>
 J a h fun y h=>
 A 12 y h fun z h=>
 W z i0 h fun a0 h=>
 x (T11 a b) h
def k29_0 : KF := K2 y0 y1 fun c i x h a b=>
 J a h fun d h=>
 A 4 d h fun e h=>
 W e (.bool true) h fun f h=>
 x (T11 a b) h
def x29 : AC := (.ag k29_0 (.seq (.eH [w (oc d14 42 []),
 w (oc d15 43 []),
 q 2 (m d20 r0),
 qj 2 d21 r20,
 qf 2 d22 0 r21,
 ql 2 d23 r22,
 w (oc d24 45 [r23]),
 q 3 (m d16 r0),
 qj 3 d17 r16,
 qf 3 d18 1 r17,
 ql 3 d19 r18,
 w (oc d25 44 [r19,r24]),
 q 4 (m d11 r0),
 qj 0 d26 r11,
 qf 0 d27 7 r26,
 w (os r27 r14),
 q 5 (m d12 r0),
 qj 0 d28 r12,
 qf 0 d29 9 r28,
 w (os r29 r15),
 q 6 (m d13 r0),
 qj 0 d30 r13,
 qf 0 d31 8 r30,
 w (os r31 r25)]) (.ag k29_1 (.ag k29_2 (.ag k29_3 (.ag k29_4 (.seq (.ag k29_5 (.block 0 (.loop (.ag wu .skip)))) (.ag k29_7 (.ag k29_8 (.ag k29_9 .skip))))))))))
def f29 : AF := .mk x29 []
def k31_1 : KF := K2 y0 y1 fun c i x h a b=>
 J a h fun d h=>
 A 0 d h fun e h=>
 L e h fun f h=>
 G f h fun g h=>
 tR (vA b g h) fun j h=>
 .ret (T1 j) h
def k31_0 : KF := K2 y0 y1 fun c i x h a b=>
 J a h fun d h=>
 A 0 d h fun e h=>
 L e h fun f h=>
 G f h fun g h=>
 Q g i0 h fun j h=>
 I j (.ret (T1 (ni 0)) h) (Y b i0 h fun k h=>
 I k (D b i1 h fun l h=>
 tR (vB l h) fun m h=>
 x (T11 a m) h) (x (T11 a b) h))
def x31 : AC := (.ag k31_0 (.ag k31_1 .skip))
def f31 : AF := .mk x31 [.t .h0 .h4]
def k32_1 : KF := K4 y0 y1 y2 y7 fun c i x h a b d e=>
 tQ (cY 3 (.c a) .none (.some (.c b)) .none .nil h) fun f=>
 tQ (cY 3 (.c a) (.some (.c d)) .none .none .nil h) fun g=>
 tX (RV.iU (eJ 86 3 f g h)) fun j h=>
 G j h fun k h=>
 tR (cY 3 (.c j) (.some (.c k)) (.some (.c e)) .none .nil h) fun l h=>
 tR (nB [i0,i0,.al] (.c l) .nil h) fun m h=>
 .ret (T12 j) h
def k32_0 : KF := K3 y0 y1 y2 fun c i x h a b d=>
 G a h fun e h=>
 tR (cY 3 (.c a) (.some (.c b)) (.some (.c d)) (.some (.c e)) .nil h) fun f h=>
 Q b d h fun g h=>
 I g (.ret (T12 a) h) (G a h fun j h=>
 x (T35 a b d j) h)
def x32 : AC := (.ag k32_0 (.ag k32_1 .skip))
def f32 : AF := .mk x32 [.t .h0 .h6]
def k33_5 : KF := K4 y0 y3 y4 y6 fun c i x h a b d e=>
 A 0 b h fun f h=>
 L f h fun g h=>
 M 2 e h fun j h=>
 C c 57 [a,g,j,d] h fun k h=>
 .nm T27 h
def k33_7 : KF := K4 y0 y3 y4 y6 fun c i x h a b d e=>
 A 0 b h fun f h=>
 L f h fun g h=>
 M 2 e h fun j h=>
 C c 58 [a,g,j,d] h fun k h=>
 .nm T27 h
def k33_9 : KF := K4 y0 y3 y4 y6 fun c i x h a b d e=>
 A 0 b h fun f h=>
 L f h fun g h=>
 M 2 e h fun j h=>
 C c 59 [a,g,j,d] h fun k h=>
 .nm T27 h
def k33_11 : KF := K3 y0 y6 y29 fun c i x h a b d=>
 Q d (pi 5) h fun e h=>
 I e (M 2 b h fun f h=>
 C c 62 [a,f] h fun g h=>
 .nm T27 h) (.nm T27 h)
def k33_10 : KF := K5 y0 y3 y4 y6 y29 fun c i x h a b d e f=>
 Q f (pi 4) h fun g h=>
 x (T42 a b d e f g) h
def k33_8 : KF := K5 y0 y3 y4 y6 y29 fun c i x h a b d e f=>
 Q f (pi 3) h fun g h=>
 x (T41 a b d e f g) h
def k33_6 : KF := K5 y0 y3 y4 y6 y29 fun c i x h a b d e f=>
 Q f (pi 2) h fun g h=>
 x (T40 a b d e f g) h
def k33_4 : KF := K5 y0 y3 y4 y6 y29 fun c i x h a b d e f=>
 Q f i1 h fun g h=>
 x (T39 a b d e f g) h
def k33_3 : KF := K5 y0 y3 y4 y5 y6 fun c i x h a b d e f=>
 x (T38 a b d f e) h
def k33_13 : KF := K4 y0 y69 y70 y71 fun c i x h a b d e=>
 Y e d h fun f h=>
 I f (X 4 b e h fun g h=>
 M 4 g h fun j h=>
 O 117 4 (.k1 (Y4 i0 i0 i0 iS)) h fun k h=>
 S 4 k j h fun l h=>
 A 0 k h fun m h=>
 L m h fun n h=>
 A 3 k h fun o h=>
 L o h fun p h=>
 C c 64 [a,n,p] h fun q h=>
 D e i1 h fun s h=>
 .nm (T43 a b d s) h) (.ex 2 (T43 a b d e) h)
def k33_12 : KF := K2 y0 y4 fun c i x h a b=>
 C c 63 [b] h fun d h=>
 G d h fun e h=>
 x (T43 a d e i0) h
def k33_14 : KF := K2 y0 y4 fun c i x h a b=>
 C c 67 [b] h fun d h=>
 C c 66 [a,d] h fun e h=>
 .nm T27 h
def k33_2 : KF := K5 y0 y3 y4 y5 y6 fun c i x h a b d e f=>
 C c 55 [d] h fun g h=>
 S 2 f g h fun j h=>
 tQ (nC a h) fun k=>
 tQ (fA 8 k h) fun l=>
 tQ (lD l h) fun m=>
 tQ (ja 2 f h) fun n=>
 tX (c 56 [m,n] h) fun o h=>
 x (T37 a b d e f) h
def k33_1 : KF := K2 y0 y3 fun c i x h a b=>
 A 2 b h fun d h=>
 L d h fun e h=>
 C c 49 [e] h fun f h=>
 C c 54 [f] h fun g h=>
 O 108 2 (.k1 (Y2 i0 i0)) h fun j h=>
 Q g (pi 6) h fun k h=>
 I k (.go 0 (T36 a b f) h) (Q g (pi 7) h fun l h=>
 I l (.go 1 (T36 a b f) h) (Q g (pi 8) h fun m h=>
 I m (.go 2 (T36 a b f) h) (x (T37 a b f g j) h)))
def k33_0 : KF := K2 y0 y1 fun c i x h a b=>
 B 86 b h fun d h=>
 x (T15 a d) h
def x33 : AC := (.ag k33_0 (.scope (.ag k33_1 (.ag k33_2 (.seq (.ag k33_3 (.block 1 (.ag k33_4 (.cond r30 (.ag k33_5 .skip) (.ag k33_6 (.cond r38 (.ag k33_7 .skip) (.ag k33_8 (.cond r46 (.ag k33_9 .skip) (.ag k33_10 (.cond r54 (.eH [q 0 (m d60 r4),
 w (oc d61 61 [r60]),
 q 1 (m d56 r0),
 qf 1 d57 0 r3,
 ql 1 d58 r57,
 q 1 (o d59 (.ja 2 r6)),
 w (oc d62 60 [r56,r58,r59,r61])]) (.ag k33_11 .skip))))))))))) (.seq .ret (.seq (.label 0) (.seq (.ag k33_12 (.block 2 (.loop (.ag k33_13 .skip)))) (.seq .ret (.seq (.label 1) (.seq (.eH [q 0 (m d85 r4),
 w (oc d86 61 [r85]),
 q 1 (m d82 r0),
 qf 1 d83 0 r3,
 ql 1 d84 r83,
 w (oc d87 65 [r82,r84,r86])]) (.seq .ret (.seq (.label 2) (.ag k33_14 .skip))))))))))))))
def f33 : AF := .mk x33 []
def k34_0 : KF := K4 y0 y1 y2 y3 fun c i x h a b d e=>
 J a h fun f h=>
 A 0 f h fun g h=>
 L g h fun j h=>
 G j h fun k h=>
 Y k (pi 4000) h fun l h=>
 I l (J a h fun m h=>
 A 0 m h fun n h=>
 L n h fun o h=>
 U [i0,i0,.al] [.mk 0 1 (.c b),.mk 1 1 (.c d),.mk 2 1 (.c e)] h fun p h=>
 tR (bs 86 3 1 [i0,i0,.al] [.mk 0 3 (.c p)] h) fun q h=>
 tR (eJ 86 3 o q h) fun s h=>
 J a h fun t h=>
 A 0 t h fun v h=>
 W v s h fun w h=>
 .nm T27 h) (.nm T27 h)
def x34 : AC := (.ag k34_0 .skip)
def f34 : AF := .mk x34 []
def k35_0 : KF := K2 y0 y1 fun c i x h a b=>
 x (T11 a b) h
def x35 : AC := (.ag k35_0 (.seq (.ops [m d5 r1,
 o d6 (.bin .ge r5 a0),
 m d7 r6,
 .g .h0 .h7 true d8 (.op (.mv r1)),
 .g .h0 .h7 true d9 (.op (.mv r0)),
 .g .h0 .h7 true d10 (.op (.dk r9)),
 .g .h0 .h7 true d11 (.op (.ig 1 r10)),
 .g .h0 .h7 true d12 (.op (.eU r11)),
 .g .h0 .h7 true d13 (.op (.len r12)),
 .g .h0 .h7 true d14 (.op (.bin .lt r8 r13)),
 o d15 (.pick r7 r14 (.c (.bool false))),
 m d4 r15]) .ret))
def f35 : AF := .mk x35 [.t .h0 .h4]
def k36_1 : KF := K3 y0 y4 y59 fun c i x h a b d=>
 I d (.ret T27 h) (.nm (T33 a b) h)
def k36_5 : KF := K2 y0 y94 fun c i x h a b=>
 I b (C c 72 [a] h fun d h=>
 .nm T27 h) (C c 53 [a] h fun d h=>
 .nm T27 h)
def k36_4 : KF := K2 y0 y4 fun c i x h a b=>
 tR (eS b h) fun d h=>
 x (T44 a d) h
def k36_3 : KF := K2 y0 y4 fun c i x h a b=>
 J a h fun d h=>
 A 24 d h fun e h=>
 L e h fun f h=>
 I f (J a h fun g h=>
 A 24 g h fun j h=>
 W j (.bool false) h fun k h=>
 J a h fun l h=>
 A 9 l h fun m h=>
 L m h fun n h=>
 C c 39 [n] h fun o h=>
 O 3 1 (.k1 (Y1 i0)) h fun p h=>
 W p o h fun q h=>
 C c 69 [a,(pi 7),(.fn 70 [p])] h fun s h=>
 x (T33 a b) h) (x (T33 a b) h)
def k36_2 : KF := K2 y0 y4 fun c i x h a b=>
 J a h fun d h=>
 A 3 d h fun e h=>
 L e h fun f h=>
 J a h fun g h=>
 A 23 g h fun j h=>
 W j f h fun k h=>
 J a h fun l h=>
 A 22 l h fun m h=>
 L m h fun n h=>
 D n i1 h fun o h=>
 J a h fun p h=>
 A 22 p h fun q h=>
 W q o h fun s h=>
 x (T33 a b) h
def k36_0 : KF := K2 y0 y1 fun c i x h a b=>
 J a h fun d h=>
 A 3 d h fun e h=>
 L e h fun f h=>
 D f b h fun g h=>
 J a h fun j h=>
 A 3 j h fun k h=>
 W k g h fun l h=>
 x (T14 a) h
def x36 : AC := (.ag k36_0 (.seq (.ops [m d14 r0,
 oj d15 r14,
 of d16 4 r15,
 ol d17 r16,
 m d18 r17,
 .g .h1 .h2 true d19 (.op (.mv r0)),
 .g .h1 .h2 true d20 (.op (.dk r19)),
 .g .h1 .h2 true d21 (.op (.ig 17 r20)),
 .g .h1 .h2 true d22 (.op (.eU r21)),
 .g .h1 .h2 true d23 (.op (.len r22)),
 .g .h1 .h2 true d24 (.op (.bin .gt r23 a0)),
 .g .h1 .h2 true d25 (.op (.mv r24)),
 .g .h1 .h9 false d26 (.op (.mv r0)),
 .g .h1 .h9 false d27 (.call 40 [r26]),
 .g .h1 .h2 true d28 (.op (.pick r25 (.c (.bool true)) r27)),
 o d29 (.pick r18 r28 (.c (.bool false))),
 m d4 r29]) (.seq (.seq (.eH [q 0 (m d30 r0),
 qj 0 d31 r30,
 qf 0 d32 4 r31,
 ql 0 d33 r32,
 q 0 (o d34 (.un .not r33)),
 q 0 (m d35 r34),
 q 0 (.g .h2 .h3 false d36 (.op (.mv r4))),
 q 0 (.g .h2 .h3 false d37 (.op (.un .not r36))),
 q 0 (.g .h2 .h3 false d38 (.op (.mv r37))),
 q 0 (.g .h2 .h6 true d39 (.op (.mv r0))),
 q 0 (.g .h2 .h6 true d40 (.op (.dk r39))),
 q 0 (.g .h2 .h6 true d41 (.op (.ig 24 r40))),
 q 0 (.g .h2 .h6 true d42 (.op (.eU r41))),
 q 0 (.g .h2 .h6 true d43 (.op (.un .not r42))),
 q 0 (.g .h2 .h3 false d44 (.op (.pick r38 r43 (.c (.bool false))))),
 q 0 (o d45 (.pick r35 (.c (.bool true)) r44)),
 q 0 (m d46 r45),
 q 0 (.g .h2 .he false d56 (.op (.mv r0))),
 w (.g .h2 .he false d57 (.call 68 [r56])),
 q 1 (.g .h2 .he false d47 (.op (.mv r0))),
 q 1 (.g .h2 .he false d48 (.op (.dk r47))),
 q 1 (.g .h2 .he false d49 (.op (.ig 3 r48))),
 q 1 (.g .h2 .he false d50 (.op (.eU r49))),
 q 1 (.g .h2 .he false d51 (.op (.mv r0))),
 q 1 (.g .h2 .he false d52 (.op (.dk r51))),
 q 1 (.g .h2 .he false d53 (.op (.ig 23 r52))),
 q 1 (.g .h2 .he false d54 (.op (.eU r53))),
 q 1 (.g .h2 .he false d55 (.op (.bin .sub r50 r54))),
 q 0 (.g .h2 .he false d58 (.op (.bin .lt r55 r57))),
 q 0 (o d59 (.pick r46 (.c (.bool true)) r58))]) (.ag k36_1 .skip)) (.ag k36_2 (.ag k36_3 (.block 0 (.ag k36_4 (.cond r91 .skip (.seq (.ops [m d95 r0,
 oj d96 r95,
 of d97 19 r96,
 ol d98 r97,
 o d99 (.bin .eq r98 a2),
 m d100 r99,
 .g .h6 .h4 true d101 (.op (.mv r0)),
 .g .h6 .h4 true d102 (.op (.dk r101)),
 .g .h6 .h4 true d103 (.op (.ig 22 r102)),
 .g .h6 .h4 true d104 (.op (.eU r103)),
 .g .h6 .h4 true d105 (.op (.bin .rem r104 (.c (pi 3)))),
 .g .h6 .h4 true d106 (.op (.bin .ne r105 a0)),
 o d107 (.pick r100 r106 (.c (.bool false))),
 m d94 r107]) (.ag k36_5 .skip))))))))))
def f36 : AF := .mk x36 []
def k37_1 : KF := K1 y0 fun c i x h a=>
 J a h fun b h=>
 A 0 b h fun d h=>
 L d h fun e h=>
 G e h fun f h=>
 J a h fun g h=>
 A 1 g h fun j h=>
 W j f h fun k h=>
 .nm T27 h
def k37_0 : KF := K2 y0 y1 fun c i x h a b=>
 tQ (nC a h) fun d=>
 tQ (fA 0 d h) fun e=>
 tQ (lD e h) fun f=>
 tQ (nC a h) fun g=>
 tQ (fA 1 g h) fun j=>
 tQ (lD j h) fun k=>
 tQ (fW false [b,i0] h) fun l=>
 tQ (nC a h) fun m=>
 tQ (fA 0 m h) fun n=>
 tQ (lD n h) fun o=>
 tQ (len o h) fun p=>
 tQ (nC a h) fun q=>
 tQ (fA 1 q h) fun s=>
 tQ (lD s h) fun t=>
 tQ (hR p t h) fun v=>
 tQ (fW true [l,v] h) fun w=>
 tQ (fX k w h) fun y=>
 tQ (cY 1 (.c f) .none (.some (.c y)) .none .nil h) fun z=>
 tQ (nC a h) fun a0=>
 tQ (fA 0 a0 h) fun a1=>
 tX (RV.iU (sT a1 z h)) fun a2 h=>
 x (T14 a) h
def x37 : AC := (.ag k37_0 (.ag k37_1 .skip))
def f37 : AF := .mk x37 []
def k38_0 : KF := K4 y0 y1 y2 y25 fun c i x h a b d e=>
 I e (.ret T27 h) (.nm (T45 a b d) h)
def k38_3 : KF := K5 y0 y1 y6 y39 y41 fun c i x h a b d e f=>
 I f (tR (oU (.c e) .nil h) fun g h=>
 E 1 g h fun j h=>
 O 125 2 (.k1 (Y2 i0 i0)) h fun k h=>
 S 2 k j h fun l h=>
 A 1 k h fun m h=>
 L m h fun n h=>
 tR (kY n b h) fun o h=>
 I o (A 0 d h fun p h=>
 L p h fun q h=>
 A 0 k h fun s h=>
 L s h fun t h=>
 tR (fW true [q,t] h) fun v h=>
 A 0 d h fun w h=>
 W w v h fun y h=>
 .nm (T46 a b d e) h) (.nm (T46 a b d e) h)) (.ex 0 (T46 a b d e) h)
def k38_2 : KF := K3 y0 y1 y6 fun c i x h a b d=>
 J a h fun e h=>
 A 11 e h fun f h=>
 L f h fun g h=>
 tR (jZ (.c g) .nil h) fun j h=>
 x (T46 a b d j) h
def k38_7 : KF := K7 y0 y1 y6 y9 y10 y58 y72 fun c i x h a b d e f g j=>
 I j (A 2 d h fun k h=>
 L k h fun l h=>
 M 3 e h fun m h=>
 A 1 f h fun n h=>
 L n h fun o h=>
 tR (yj (.agg [.i,.i,.i]) l m o h) fun p h=>
 .nm (T47 a b d g) h) (.nm (T47 a b d g) h)
def k38_6 : KF := K4 y0 y1 y6 y58 fun c i x h a b d e=>
 tR (oU (.c e) .nil h) fun f h=>
 E 0 f h fun g h=>
 E 1 f h fun j h=>
 O 104 3 (.k1 (Y3 i0 i0 i0)) h fun k h=>
 O 125 2 (.k1 (Y2 i0 i0)) h fun l h=>
 S 3 k g h fun m h=>
 S 2 l j h fun n h=>
 x (T48 a b d k l e) h
def k38_5 : KF := K5 y0 y1 y6 y58 y60 fun c i x h a b d e f=>
 I f (x (T47 a b d e) h) (.ex 2 (T26 a d) h)
def k38_4 : KF := K3 y0 y1 y6 fun c i x h a b d=>
 J a h fun e h=>
 A 11 e h fun f h=>
 L f h fun g h=>
 tR (jZ (.c g) .nil h) fun j h=>
 x (T47 a b d j) h
def k38_8 : KF := K2 y0 y6 fun c i x h a b=>
 M 4 b h fun d h=>
 C c 74 [a,d] h fun e h=>
 C c 50 [a] h fun f h=>
 .nm T27 h
def k38_1 : KF := K3 y0 y1 y2 fun c i x h a b d=>
 J a h fun e h=>
 A 9 e h fun f h=>
 L f h fun g h=>
 C c 73 [g] h fun j h=>
 tR (KB h) fun k h=>
 U [i0,i0,.db,iS] [.mk 0 1 (.c j),.mk 1 1 (.c b),.mk 2 1 (.c k),.mk 3 1 (.c d)] h fun l h=>
 O 77 4 (.k1 (Y4 i0 i0 .db iS)) h fun m h=>
 S 4 m l h fun n h=>
 x (T19 a b m) h
def x38 : AC := (.seq (.seq (.ops [m d11 r1,
 m d12 r0,
 oj d13 r12,
 of d14 13 r13,
 of d15 1 r14,
 ol d16 r15,
 o d17 (.bin .le r11 r16),
 m d18 r17,
 .g .h1 .h2 false d19 (.op (.mv r1)),
 .g .h1 .h2 false d20 (.op (.mv r0)),
 .g .h1 .h2 false d21 (.op (.dk r20)),
 .g .h1 .h2 false d22 (.op (.ig 12 r21)),
 .g .h1 .h2 false d23 (.op (.eU r22)),
 .g .h1 .h2 false d24 (.op (.bin .gt r19 r23)),
 o d25 (.pick r18 (.c (.bool true)) r24)]) (.ag k38_0 .skip)) (.ag k38_1 (.seq (.ag k38_2 (.join (.block 0 (.loop (.seq (.ops [.o d40 (.yk false r39),
 oe d41 0 r40]) (.ag k38_3 .skip)))))) (.seq (.ag k38_4 (.join (.block 2 (.loop (.seq (.ops [.o d59 (.yk false r58),
 oe d60 0 r59]) (.ag k38_5 (.block 3 (.ag k38_6 (.seq (.ops [of d64 1 r10,
 ol d65 r64,
 o d66 (.bin .ge r65 a0),
 m d67 r66,
 .g .h4 .h3 true d68 (.op (.ig 1 r10)),
 .g .h4 .h3 true d69 (.op (.eU r68)),
 .g .h4 .h3 true d70 (.op (.mv r1)),
 .g .h4 .h3 true d71 (.op (.bin .lt r69 r70)),
 o d72 (.pick r67 r71 (.c (.bool false)))]) (.ag k38_7 .skip)))))))))) (.ag k38_8 .skip)))))
def f38 : AF := .mk x38 []
def k39_1 : KF := K2 y0 y3 fun c i x h a b=>
 J a h fun d h=>
 A 0 d h fun e h=>
 L e h fun f h=>
 tR (uZ (.one .i) iS true f b h) fun g h=>
 E 0 g h fun j h=>
 E 1 g h fun k h=>
 tR (eS k h) fun l h=>
 I l (.ret (T29 b) h) (D b i1 h fun m h=>
 .nm (T15 a m) h)
def k39_0 : KF := K1 y0 fun c i x h a=>
 J a h fun b h=>
 A 1 b h fun d h=>
 L d h fun e h=>
 x (T15 a e) h
def x39 : AC := (.ag k39_0 (.block 0 (.loop (.ag k39_1 .skip))))
def f39 : AF := .mk x39 [.t .h0 .h2]
def k40_2 : KF := K4 y0 y16 y17 y18 fun c i x h a b d e=>
 D e i1 h fun f h=>
 .nm (T49 a b d f) h
def k40_1 : KF := K4 y0 y16 y17 y18 fun c i x h a b d e=>
 Y e d h fun f h=>
 I f (X 4 b e h fun g h=>
 M 4 g h fun j h=>
 O 117 4 (.k1 (Y4 i0 i0 i0 iS)) h fun k h=>
 S 4 k j h fun l h=>
 tQ (nC a h) fun m=>
 tQ (fA 9 m h) fun n=>
 tQ (lD n h) fun o=>
 tQ (fA 0 k h) fun p=>
 tQ (lD p h) fun q=>
 tX (c 76 [o,q] h) fun s h=>
 tQ (ext 0 s h) fun t=>
 tQ (ext 1 s h) fun v=>
 tR (eS v h) fun w h=>
 I w (.ret (T29 (.bool true)) h) (x (T49 a b d e) h)) (.ex 0 (T14 a) h)
def k40_0 : KF := K1 y0 fun c i x h a=>
 x (T14 a) h
def x40 : AC := (.ag k40_0 (.seq (.seq (.eH [q 0 (m d11 r0),
 qj 0 d12 r11,
 qf 0 d13 9 r12,
 ql 0 d14 r13,
 w (oc d15 39 [r14]),
 q 1 (m d7 r0),
 qj 1 d8 r7,
 qf 1 d9 7 r8,
 ql 1 d10 r9,
 w (oc d16 75 [r10,r15]),
 q 0 (o d17 (.len r16)),
 q 2 (m d18 a0)]) (.block 0 (.loop (.ag k40_1 (.ag k40_2 .skip))))) (.seq (.eH [q 0 (m d39 r0),
 qj 0 d40 r39,
 qf 0 d41 9 r40,
 ql 0 d42 r41,
 w (oc d43 39 [r42]),
 q 1 (m d35 r0),
 qj 1 d36 r35,
 qf 1 d37 10 r36,
 ql 1 d38 r37,
 q 0 (o d44 (.bin .gt r38 r43)),
 q 0 (m d2 r44)]) .ret)))
def f40 : AF := .mk x40 [.t .h0 .h2]
def k42_0 : KF := fun c i x r h=>
 tR (KB h) fun a h=>
 U [i0,i0,.db,i0] [.mk 2 1 (.c a)] h fun b h=>
 B 134 b h fun d h=>
 .ret (T14 d) h
def x42 : AC := (.ag k42_0 .skip)
def f42 : AF := .mk x42 [.t .h0 .h0]
def k43_0 : KF := fun c i x r h=>
 tR (KB h) fun a h=>
 U [.db,i0] [.mk 0 1 (.c a)] h fun b h=>
 B 128 b h fun d h=>
 .ret (T14 d) h
def x43 : AC := (.ag k43_0 .skip)
def f43 : AF := .mk x43 [.t .h0 .h0]
def k44_0 : KF := K2 y0 y1 fun c i x h a b=>
 U [i0,i0,i0,i0,i0,i0,.db,.db,.db] [.mk 0 1 (.c a),.mk 1 1 (.c b)] h fun d h=>
 B 137 d h fun e h=>
 .ret (T1 e) h
def x44 : AC := (.ag k44_0 .skip)
def f44 : AF := .mk x44 [.t .h0 .h4]
def k45_0 : KF := K1 y0 fun c i x h a=>
 J a h fun b h=>
 A 1 b h fun d h=>
 L d h fun e h=>
 G e h fun f h=>
 .ret (T29 f) h
def x45 : AC := (.ag k45_0 .skip)
def f45 : AF := .mk x45 [.t .h0 .h2]
def k46_3 : KF := K5 y0 y4 y5 y6 y35 fun c i x h a b d e f=>
 I f (.ex 0 (T51 a b d e) h) (.nm (T51 a b d e) h)
def k46_5 : KF := K4 y0 y4 y5 y6 fun c i x h a b d e=>
 D (pi 8) e h fun f h=>
 D d f h fun g h=>
 .nm (T50 a b g) h
def k46_4 : KF := K4 y0 y4 y5 y6 fun c i x h a b d e=>
 D d (pi 8) h fun f h=>
 D d (pi 8) h fun g h=>
 D g e h fun j h=>
 tR (cY 1 (.c a) (.some (.c f)) (.some (.c j)) .none .nil h) fun k h=>
 C c 77 [k] h fun l h=>
 E 0 l h fun m h=>
 E 1 l h fun n h=>
 tR (eS n h) fun o h=>
 I o (.ex 0 (T20 b d) h) (tR (bs 34 1 1 [.al] [.mk 0 1 (.c m)] h) fun p h=>
 tR (eJ 34 1 b p h) fun q h=>
 x (T51 a q d e) h)
def k46_2 : KF := K3 y0 y4 y5 fun c i x h a b d=>
 D d (pi 8) h fun e h=>
 tR (cY 1 (.c a) (.some (.c d)) (.some (.c e)) .none .nil h) fun f h=>
 C c 49 [f] h fun g h=>
 C c 61 [g] h fun j h=>
 x (T51 a b d j) h
def uo : KF := K3 y0 y4 y5 fun c i x h a b d=>
 G a h fun e h=>
 Z e d h fun f h=>
 tR (kY f (pi 8) h) fun g h=>
 I g (x (T50 a b d) h) (.ex 0 (T20 b d) h)
def k46_6 : KF := K2 y4 y5 fun c i x h a b=>
 .ret (T13 a b) h
def k46_0 : KF := K1 y0 fun c i x h a=>
 x (T50 a .al i0) h
def x46 : AC := (.ag k46_0 (.seq (.block 0 (.loop (.ag uo (.block 1 (.ag k46_2 (.seq (.seq (.ops [m d21 r6,
 o d22 (.bin .lt r21 a0),
 m d23 r22,
 .g .h1 .h7 false d24 (.op (.mv r6)),
 .g .h1 .h7 false d25 (.op (.bin .gt r24 (.c (pi 1048576)))),
 o d26 (.pick r23 (.c (.bool true)) r25),
 m d27 r26,
 .g .h1 .hb false d28 (.op (.mv r6)),
 .g .h1 .hb false d29 (.op (.mv r0)),
 .g .h1 .hb false d30 (.op (.len r29)),
 .g .h1 .hb false d31 (.op (.mv r5)),
 .g .h1 .hb false d32 (.op (.bin .sub r30 r31)),
 .g .h1 .hb false d33 (.op (.bin .sub r32 (.c (pi 8)))),
 .g .h1 .hb false d34 (.op (.bin .gt r28 r33)),
 o d35 (.pick r27 (.c (.bool true)) r34)]) (.ag k46_3 .skip)) (.ag k46_4 (.ag k46_5 .skip)))))))) (.ag k46_6 .skip)))
def f46 : AF := .mk x46 [.t .h0 .h2,.t .h0 .h3]
def k47_0 : KF := K1 y0 fun c i x h a=>
 J a h fun b h=>
 A 0 b h fun d h=>
 L d h fun e h=>
 C c 78 [e] h fun f h=>
 .ret (T29 f) h
def x47 : AC := (.ag k47_0 .skip)
def f47 : AF := .mk x47 [.t .h0 .h2]
def k48_2 : KF := K2 y0 y1 fun c i x h a b=>
 C c 61 [b] h fun d h=>
 J a h fun e h=>
 A 6 e h fun f h=>
 W f d h fun g h=>
 .nm T27 h
def k48_6 : KF := K4 y0 y5 y6 y7 fun c i x h a b d e=>
 tQ (nC a h) fun f=>
 tQ (fA 7 f h) fun g=>
 tQ (lD g h) fun j=>
 tQ (ja 2 b h) fun k=>
 tQ (bl [i0,i0,i0,iS] [.mk 0 1 (.c d),.mk 1 2 (.c k),.mk 3 1 (.c e)] h) fun l=>
 tX (c 82 [j,l] h) fun m h=>
 .nm T27 h
def k48_5 : KF := K3 y0 y1 y4 fun c i x h a b d=>
 C c 55 [b] h fun e h=>
 C c 61 [b] h fun f h=>
 O 108 2 (.k1 (Y2 i0 i0)) h fun g h=>
 S 2 g e h fun j h=>
 C c 80 [a,f] h fun k h=>
 Q d (pi 2) h fun l h=>
 I l (C c 81 [b] h fun m h=>
 x (T56 a g f m) h) (x (T56 a g f k) h)
def k48_8 : KF := K5 y0 y1 y4 y12 y52 fun c i x h a b d e f=>
 I f (C c 61 [b] h fun g h=>
 C c 80 [a,g] h fun j h=>
 Q d (pi 4) h fun k h=>
 I k (C c 81 [b] h fun l h=>
 C c 83 [a,g,l] h fun m h=>
 .nm T27 h) (C c 83 [a,g,j] h fun l h=>
 .nm T27 h)) (Q e (pi 6) h fun g h=>
 I g (C c 67 [b] h fun j h=>
 C c 84 [a,j] h fun k h=>
 .nm T27 h) (.nm T27 h))
def k48_7 : KF := K4 y0 y1 y4 y12 fun c i x h a b d e=>
 Q e (pi 4) h fun f h=>
 I f (x (T57 a b d e f) h) (Q e (pi 5) h fun g h=>
 x (T57 a b d e g) h)
def k48_4 : KF := K4 y0 y1 y4 y12 fun c i x h a b d e=>
 Q e (pi 2) h fun f h=>
 I f (x (T55 a b d e f) h) (Q e (pi 3) h fun g h=>
 x (T55 a b d e g) h)
def k48_3 : KF := K4 y0 y1 y4 y12 fun c i x h a b d e=>
 Q e i1 h fun f h=>
 x (T54 a b d e f) h
def k48_1 : KF := K4 y0 y1 y4 y12 fun c i x h a b d e=>
 Q e i0 h fun f h=>
 x (T53 a b d e f) h
def k48_0 : KF := K2 y0 y1 fun c i x h a b=>
 C c 54 [b] h fun d h=>
 x (T52 a b d d) h
def x48 : AC := (.ag k48_0 (.block 0 (.ag k48_1 (.cond r13 (.ag k48_2 .skip) (.ag k48_3 (.cond r20 (.eH [q 0 (m d26 r1),
 w (oc d27 55 [r26]),
 q 1 (m d22 r0),
 qj 1 d23 r22,
 qf 1 d24 7 r23,
 ql 1 d25 r24,
 w (oc d28 79 [r25,r27,(.c (pi 1048576))])]) (.ag k48_4 (.cond r29 (.ag k48_5 (.ag k48_6 .skip)) (.ag k48_7 (.ag k48_8 .skip))))))))))
def f48 : AF := .mk x48 []
def k49_0 : KF := K1 y0 fun c i x h a=>
 C c 78 [a] h fun b h=>
 U [.al,i0,i0,i0] [.mk 0 1 (.c b)] h fun d h=>
 B 149 d h fun e h=>
 .ret (T29 e) h
def x49 : AC := (.ag k49_0 .skip)
def f49 : AF := .mk x49 [.t .h0 .h2]
def k50_1 : KF := K5 y1 y2 y29 y30 y31 fun c i x h a b d e f=>
 Y f e h fun g h=>
 I g (X 4 d f h fun j h=>
 M 4 j h fun k h=>
 O 117 4 (.k1 (Y4 i0 i0 i0 iS)) h fun l h=>
 S 4 l k h fun m h=>
 C c 85 [(pi 2),(.fn 89 [l])] h fun n h=>
 tR (eJ 5 1 b n h) fun o h=>
 D f i1 h fun p h=>
 .nm (T59 a o d e p) h) (.ex 0 (T59 a b d e f) h)
def k50_5 : KF := K8 y1 y2 y6 y7 y50 y51 y52 y68 fun c i x h a b d e f g j k=>
 I k (.nm (T61 a b d (pi 5) f g j) h) (.nm (T61 a b d e f g j) h)
def k50_6 : KF := K7 y1 y2 y6 y7 y50 y51 y52 fun c i x h a b d e f g j=>
 L a h fun k h=>
 M 4 d h fun l h=>
 C c 96 [k,e,l] h fun m h=>
 tR (eJ 5 1 b m h) fun n h=>
 .nm (T60 a n f g j) h
def k50_4 : KF := K5 y1 y2 y50 y51 y52 fun c i x h a b d e f=>
 X 4 d f h fun g h=>
 M 4 g h fun j h=>
 O 117 4 (.k1 (Y4 i0 i0 i0 iS)) h fun k h=>
 S 4 k j h fun l h=>
 x (T61 a b k (pi 4) d e f) h
def k50_7 : KF := K5 y1 y2 y50 y51 y52 fun c i x h a b d e f=>
 D f i1 h fun g h=>
 .nm (T60 a b d e g) h
def k50_3 : KF := K5 y1 y2 y50 y51 y52 fun c i x h a b d e f=>
 Y f e h fun g h=>
 I g (x (T60 a b d e f) h) (.ex 2 (T58 a b) h)
def k50_8 : KF := K2 y1 y2 fun c i x h a b=>
 L a h fun d h=>
 J d h fun e h=>
 A 2 e h fun f h=>
 L f h fun g h=>
 C c 97 [g,b] h fun j h=>
 Q j i0 h fun k h=>
 I k (L a h fun l h=>
 G b h fun m h=>
 J l h fun n h=>
 A 5 n h fun o h=>
 W o m h fun p h=>
 .nm T27 h) (.nm T27 h)
def k50_2 : KF := K2 y1 y2 fun c i x h a b=>
 C c 85 [i1,(.fn 92 [a])] h fun d h=>
 tR (eJ 5 1 b d h) fun e h=>
 x (T58 a e) h
def k50_0 : KF := K1 y0 fun c i x h a=>
 B 68 a h fun b h=>
 C c 85 [i0,(.fn 86 [b])] h fun d h=>
 L b h fun e h=>
 J e h fun f h=>
 A 13 f h fun g h=>
 A 0 g h fun j h=>
 L j h fun k h=>
 tR (fj k i0 h) fun l h=>
 I l (C c 85 [(pi 6),(.fn 87 [b])] h fun m h=>
 tR (eJ 5 1 d m h) fun n h=>
 x (T58 b n) h) (x (T58 b d) h)
def x50 : AC := (.ag k50_0 (.seq (.seq (.eH [ql 0 d20 r1,
 qj 0 d21 r20,
 qf 0 d22 7 r21,
 ql 0 d23 r22,
 ql 0 d24 r1,
 qj 0 d25 r24,
 qf 0 d26 13 r25,
 qf 0 d27 0 r26,
 ql 0 d28 r27,
 w (oc d29 75 [r23,r28]),
 q 0 (o d30 (.len r29)),
 q 1 (m d31 a0)]) (.block 0 (.loop (.ag k50_1 .skip)))) (.ag k50_2 (.seq (.seq (.eH [ql 0 d44 r1,
 ql 0 d45 r1,
 qj 0 d46 r45,
 qf 0 d47 13 r46,
 qf 0 d48 0 r47,
 ql 0 d49 r48,
 w (oc d50 94 [r44,r49]),
 q 0 (o d51 (.len r50)),
 q 1 (m d52 a0)]) (.block 2 (.loop (.ag k50_3 (.seq (.block 3 (.ag k50_4 (.seq (.seq (.eH [ql 0 d56 r1,
 qf 0 d57 0 r6,
 ql 0 d58 r57,
 w (oc d59 95 [r56,r58]),
 q 0 (m d60 r59),
 q 0 (.g .h3 .hc true d61 (.op (.eU r1))),
 q 0 (.g .h3 .hc true d62 (.op (.ig 0 r6))),
 q 0 (.g .h3 .hc true d63 (.op (.eU r62))),
 w (.g .h3 .hc true d64 (.call 80 [r61,r63])),
 q 1 (.g .h3 .hc true d65 (.op (.ig 3 r6))),
 q 1 (.g .h3 .hc true d66 (.op (.eU r65))),
 q 0 (.g .h3 .hc true d67 (.op (.bin .seq r64 r66))),
 q 0 (o d68 (.pick r60 r67 (.c (.bool false))))]) (.ag k50_5 .skip)) (.ag k50_6 .skip)))) (.ag k50_7 .skip)))))) (.ag k50_8 .skip)))))
def f50 : AF := .mk x50 []
def k51_2 : KF := K5 y0 y2 y14 y15 y16 fun c i x h a b d e f=>
 D f i1 h fun g h=>
 .nm (T62 a b d e g) h
def k51_1 : KF := K5 y0 y2 y14 y15 y16 fun c i x h a b d e f=>
 Y f e h fun g h=>
 I g (X 1 d f h fun j h=>
 L j h fun k h=>
 tR (sM k iS h) fun l h=>
 I l (C c 99 [a,b,k] h fun m h=>
 D b i1 h fun n h=>
 x (T62 a n d e f) h) (D b i1 h fun m h=>
 x (T62 a m d e f) h)) (.ex 0 T27 h)
def k51_0 : KF := K1 y0 fun c i x h a=>
 J a h fun b h=>
 A 9 b h fun d h=>
 L d h fun e h=>
 C c 73 [e] h fun f h=>
 J a h fun g h=>
 A 9 g h fun j h=>
 L j h fun k h=>
 C c 98 [k] h fun l h=>
 G l h fun m h=>
 x (T62 a f l m i0) h
def x51 : AC := (.ag k51_0 (.block 0 (.loop (.ag k51_1 (.ag k51_2 .skip)))))
def f51 : AF := .mk x51 []
def k54_0 : KF := K1 y0 fun c i x h a=>
 C c 105 [a,i1] h fun b h=>
 tR (cK (.toInt .i64) b h) fun d h=>
 .ret (T29 d) h
def x54 : AC := (.ag k54_0 .skip)
def f54 : AF := .mk x54 [.t .h0 .h2]
def k55_0 : KF := K1 y0 fun c i x h a=>
 O 108 2 (.k1 (Y2 i0 i0)) h fun b h=>
 C c 61 [a] h fun d h=>
 C c 61 [a] h fun e h=>
 U [i0,i0] [.mk 0 1 (.c d),.mk 1 1 (.c e)] h fun f h=>
 S 2 b f h fun g h=>
 .ret (T29 b) h
def x55 : AC := (.ag k55_0 .skip)
def f55 : AF := .mk x55 [.agg 2 .h0 .h2]
def k61_0 : KF := K1 y0 fun c i x h a=>
 C c 105 [a,(pi 8)] h fun b h=>
 tR (cK (.toInt .i64) b h) fun d h=>
 .ret (T29 d) h
def x61 : AC := (.ag k61_0 .skip)
def f61 : AF := .mk x61 [.t .h0 .h2]
def k65_1 : KF := K3 y1 y3 y6 fun c i x h a b d=>
 L d h fun e h=>
 G e h fun f h=>
 tR (fj f i0 h) fun g h=>
 I g (L b h fun j h=>
 C c 108 [j,a,(pi 6),(.fn 123 [d])] h fun k h=>
 .nm T27 h) (.nm T27 h)
def k65_0 : KF := K3 y0 y1 y2 fun c i x h a b d=>
 B 68 a h fun e h=>
 L e h fun f h=>
 J f h fun g h=>
 A 13 g h fun j h=>
 A 0 j h fun k h=>
 L k h fun l h=>
 Y d l h fun m h=>
 I m (L e h fun n h=>
 C c 108 [n,b,(pi 8),(.fn 122 [e])] h fun o h=>
 L e h fun p h=>
 C c 94 [p,d] h fun q h=>
 O 114 1 (.k1 (Y1 .al)) h fun s h=>
 W s q h fun t h=>
 x (T63 b e s) h) (L e h fun n h=>
 C c 94 [n,d] h fun o h=>
 O 114 1 (.k1 (Y1 .al)) h fun p h=>
 W p o h fun q h=>
 x (T63 b e p) h)
def x65 : AC := (.ag k65_0 (.ag k65_1 .skip))
def f65 : AF := .mk x65 []
def k68_0 : KF := K1 y0 fun c i x h a=>
 tQ (nC a h) fun b=>
 tQ (fA 1 b h) fun d=>
 tQ (lD d h) fun e=>
 tQ (vz (pi 150) e h) fun f=>
 tQ (fX (pi 300) f h) fun g=>
 tQ (nC a h) fun j=>
 tQ (fA 22 j h) fun k=>
 tQ (lD k h) fun l=>
 tQ (fW true [l,(pi 7)] h) fun m=>
 tQ (bK .shl g m h) fun n=>
 .ret (T29 n) h
def x68 : AC := (.ag k68_0 .skip)
def f68 : AF := .mk x68 [.t .h0 .h2]
def zO : KF := K5 y0 y1 y2 y11 y12 fun c i x h a b d e f=>
 Y f e h fun g h=>
 I g (J a h fun j h=>
 A 1 j h fun k h=>
 L k h fun l h=>
 tR (gF f l h) fun m h=>
 I m (C c 108 [a,f,b,d] h fun n h=>
 D f i1 h fun o h=>
 .nm (T64 a b d e o) h) (D f i1 h fun n h=>
 .nm (T64 a b d e n) h)) (.ex 0 (T64 a b d e f) h)
def k69_0 : KF := K3 y0 y1 y2 fun c i x h a b d=>
 J a h fun e h=>
 A 0 e h fun f h=>
 L f h fun g h=>
 C c 45 [g] h fun j h=>
 x (T64 a b d j i0) h
def x69 : AC := (.ag k69_0 (.block 0 (.loop (.ag zO .skip))))
def f69 : AF := .mk x69 []
def k70_0 : KF := K2 y0 y1 fun c i x h a b=>
 L b h fun d h=>
 C c 71 [a,d] h fun e h=>
 .nm T27 h
def x70 : AC := (.ag k70_0 .skip)
def f70 : AF := .mk x70 []
def k71_0 : KF := K2 y0 y1 fun c i x h a b=>
 tR (cK (.toInt .u64) b h) fun d h=>
 C c 126 [a,d,(pi 8)] h fun e h=>
 .nm T27 h
def x71 : AC := (.ag k71_0 .skip)
def f71 : AF := .mk x71 []
def k73_0 : KF := K1 y0 fun c i x h a=>
 J a h fun b h=>
 A 1 b h fun d h=>
 L d h fun e h=>
 .ret (T29 e) h
def x73 : AC := (.ag k73_0 .skip)
def f73 : AF := .mk x73 [.t .h0 .h2]
def k75_4 : KF := K3 y0 y5 y6 fun c i x h a b d=>
 D d i1 h fun e h=>
 .nm (T25 a b e) h
def k75_3 : KF := K3 y0 y5 y6 fun c i x h a b d=>
 J a h fun e h=>
 A 2 e h fun f h=>
 L f h fun g h=>
 tR (uZ (.one .i) (.agg [i0,i0,i0,iS]) true g d h) fun j h=>
 E 0 j h fun k h=>
 E 1 j h fun l h=>
 O 117 4 (.k1 (Y4 i0 i0 i0 iS)) h fun m h=>
 S 4 m k h fun n h=>
 I l (M 4 m h fun o h=>
 tR (bs 117 4 1 [i0,i0,i0,iS] [.mk 0 4 (.c o)] h) fun p h=>
 tR (eJ 117 4 b p h) fun q h=>
 x (T25 a q d) h) (x (T25 a b d) h)
def k75_2 : KF := K3 y0 y5 y6 fun c i x h a b d=>
 J a h fun e h=>
 A 3 e h fun f h=>
 L f h fun g h=>
 Y d g h fun j h=>
 I j (x (T25 a b d) h) (.ex 0 (T22 b) h)
def k75_1 : KF := K3 y0 y1 y5 fun c i x h a b d=>
 tR (fW false [b,i0] h) fun e h=>
 x (T25 a d e) h
def k75_5 : KF := K1 y5 fun c i x h a=>
 .ret (T1 a) h
def k75_0 : KF := K2 y0 y1 fun c i x h a b=>
 x (T2 a b .al) h
def x75 : AC := (.ag k75_0 (.seq (.ag k75_1 (.block 0 (.loop (.ag k75_2 (.ag k75_3 (.ag k75_4 .skip)))))) (.ag k75_5 .skip)))
def f75 : AF := .mk x75 [.t .h0 .h4]
def k76_0 : KF := K2 y0 y1 fun c i x h a b=>
 J a h fun d h=>
 A 0 d h fun e h=>
 L e h fun f h=>
 tR (uZ (.one .i) iS true f b h) fun g h=>
 E 0 g h fun j h=>
 E 1 g h fun k h=>
 .ret (T20 j k) h
def x76 : AC := (.ag k76_0 .skip)
def f76 : AF := .mk x76 [.t .h0 .h4,.t .h0 .h5]
def k77_1 : KF := K2 y0 y16 fun c i x h a b=>
 I b (.ret (T13 .al (.bool false)) h) (.nm (T14 a) h)
def k77_2 : KF := K1 y0 fun c i x h a=>
 tR (cY 1 (.c a) (.some (.c (pi 4))) .none .none .nil h) fun b h=>
 C c 78 [b] h fun d h=>
 .ret (T13 d (.bool true)) h
def k77_0 : KF := K1 y0 fun c i x h a=>
 x (T14 a) h
def x77 : AC := (.ag k77_0 (.seq (.seq (.eH [q 0 (m d4 r0),
 q 0 (o d5 (.len r4)),
 q 0 (o d6 (.bin .lt r5 (.c (pi 4)))),
 q 0 (m d7 r6),
 q 0 (.g .h0 .h7 false d8 (.op (.mv r0))),
 q 0 (.g .h0 .h7 false d9 (.op (.FL 1 r8 (.some (.c (pi 4))) .none .none))),
 w (.g .h0 .h7 false d10 (.call 132 [r9])),
 q 0 (.g .h0 .h7 false d11 (.op (.FL 1 r10 .none (.some (.c (pi 4))) .none))),
 q 1 (.g .h0 .h7 false d12 (.op (.mv r0))),
 q 1 (.g .h0 .h7 false d13 (.op (.FL 1 r12 .none (.some (.c (pi 4))) .none))),
 w (.g .h0 .h7 false d14 (.call 131 [r11,r13])),
 q 0 (.g .h0 .h7 false d15 (.op (.un .not r14))),
 q 0 (o d16 (.pick r7 (.c (.bool true)) r15))]) (.ag k77_1 .skip)) (.ag k77_2 .skip)))
def f77 : AF := .mk x77 [.t .h0 .h2,.t .h0 .h3]
def wv : KF := K1 y0 fun c i x h a=>
 tR (bK (.gE .s) a .al h) fun b h=>
 I b (.ret (T29 .al) h) (tR (bs 5 1 0 [] [] h) fun d h=>
 tR (eJ 5 1 d a h) fun e h=>
 .ret (T29 e) h)
def x78 : AC := (.ag wv .skip)
def f78 : AF := .mk x78 [.t .h0 .h2]
def k79_0 : KF := K3 y0 y1 y2 fun c i x h a b d=>
 B 108 b h fun e h=>
 tQ (nC a h) fun f=>
 tQ (fA 0 f h) fun g=>
 tQ (ja 2 g h) fun j=>
 tQ (ja 2 e h) fun k=>
 tX (c 119 [j,k] h) fun l h=>
 tQ (eS l h) fun m=>
 I m (.ret (T65 (.bool false) .al) h) (M 2 e h fun n h=>
 J a h fun o h=>
 A 0 o h fun p h=>
 S 2 p n h fun q h=>
 C c 75 [a,d] h fun s h=>
 x (T65 (.bool true) s) h)
def x79 : AC := (.ag k79_0 .ret)
def f79 : AF := .mk x79 [.t .h0 .h6,.t .h0 .h7]
def k85_0 : KF := K2 y0 y1 fun c i x h a b=>
 C c 137 [] h fun d h=>
 C c 138 [d,a] h fun e h=>
 tT (cd c b [d] h) fun f h=>
 C c 140 [d] h fun g h=>
 C c 139 [g] h fun j h=>
 .ret (T1 j) h
def x85 : AC := (.ag k85_0 .skip)
def f85 : AF := .mk x85 [.t .h0 .h4]
def k86_0 : KF := K2 y0 y1 fun c i x h a b=>
 L b h fun d h=>
 J d h fun e h=>
 A 6 e h fun f h=>
 L f h fun g h=>
 C c 71 [a,g] h fun j h=>
 .nm T27 h
def x86 : AC := (.ag k86_0 .skip)
def f86 : AF := .mk x86 []
def k89_0 : KF := K2 y0 y1 fun c i x h a b=>
 A 1 b h fun d h=>
 M 2 d h fun e h=>
 C c 90 [a,e] h fun f h=>
 A 0 b h fun g h=>
 L g h fun j h=>
 C c 71 [a,j] h fun k h=>
 A 3 b h fun l h=>
 L l h fun m h=>
 C c 91 [a,m] h fun n h=>
 .nm T27 h
def x89 : AC := (.ag k89_0 .skip)
def f89 : AF := .mk x89 []
def k90_0 : KF := K2 y0 y1 fun c i x h a b=>
 B 108 b h fun d h=>
 A 0 d h fun e h=>
 L e h fun f h=>
 C c 71 [a,f] h fun g h=>
 A 1 d h fun j h=>
 L j h fun k h=>
 C c 71 [a,k] h fun l h=>
 .nm T27 h
def x90 : AC := (.ag k90_0 .skip)
def f90 : AF := .mk x90 []
def k92_0 : KF := K2 y0 y1 fun c i x h a b=>
 L b h fun d h=>
 J d h fun e h=>
 A 7 e h fun f h=>
 L f h fun g h=>
 C c 93 [g] h fun j h=>
 C c 90 [a,j] h fun k h=>
 .nm T27 h
def x92 : AC := (.ag k92_0 .skip)
def f92 : AF := .mk x92 []
def k93_0 : KF := K1 y0 fun c i x h a=>
 O 108 2 (.k1 (Y2 i0 i0)) h fun b h=>
 J a h fun d h=>
 A 0 d h fun e h=>
 M 2 e h fun f h=>
 S 2 b f h fun g h=>
 .ret (T29 b) h
def x93 : AC := (.ag k93_0 .skip)
def f93 : AF := .mk x93 [.agg 2 .h0 .h2]
def k94_4 : KF := K3 y0 y5 y6 fun c i x h a b d=>
 D d i1 h fun e h=>
 .nm (T25 a b e) h
def k94_3 : KF := K3 y0 y5 y6 fun c i x h a b d=>
 J a h fun e h=>
 A 9 e h fun f h=>
 L f h fun g h=>
 C c 76 [g,d] h fun j h=>
 E 0 j h fun k h=>
 E 1 j h fun l h=>
 I l (U [i0,i0,i0,iS] [.mk 0 1 (.c d),.mk 3 1 (.c k)] h fun m h=>
 tR (bs 117 4 1 [i0,i0,i0,iS] [.mk 0 4 (.c m)] h) fun n h=>
 tR (eJ 117 4 b n h) fun o h=>
 x (T25 a o d) h) (x (T25 a b d) h)
def k94_2 : KF := K3 y0 y5 y6 fun c i x h a b d=>
 J a h fun e h=>
 A 10 e h fun f h=>
 L f h fun g h=>
 Y d g h fun j h=>
 I j (x (T25 a b d) h) (.ex 0 (T22 b) h)
def k94_1 : KF := K3 y0 y1 y5 fun c i x h a b d=>
 J a h fun e h=>
 A 13 e h fun f h=>
 A 0 f h fun g h=>
 L g h fun j h=>
 tR (fW false [b,j] h) fun k h=>
 x (T25 a d k) h
def k94_5 : KF := K1 y5 fun c i x h a=>
 .ret (T1 a) h
def k94_0 : KF := K2 y0 y1 fun c i x h a b=>
 x (T2 a b .al) h
def x94 : AC := (.ag k94_0 (.seq (.ag k94_1 (.block 0 (.loop (.ag k94_2 (.ag k94_3 (.ag k94_4 .skip)))))) (.ag k94_5 .skip)))
def f94 : AF := .mk x94 [.t .h0 .h4]
def k97_0 : KF := K2 y0 y1 fun c i x h a b=>
 G b h fun d h=>
 tR (fj d (pi 4194304) h) fun e h=>
 I e (.ret (T1 (pi 13)) h) (C c 78 [b] h fun f h=>
 J a h fun g h=>
 A 0 g h fun j h=>
 W j f h fun k h=>
 J a h fun l h=>
 A 0 l h fun m h=>
 L m h fun n h=>
 G n h fun o h=>
 J a h fun p h=>
 A 1 p h fun q h=>
 W q o h fun s h=>
 .ret (T1 i0) h)
def x97 : AC := (.ag k97_0 .skip)
def f97 : AF := .mk x97 [.t .h0 .h4]
def k98_3 : KF := K3 y0 y3 y4 fun c i x h a b d=>
 J a h fun e h=>
 A 1 e h fun f h=>
 L f h fun g h=>
 D g i1 h fun j h=>
 J a h fun k h=>
 A 1 k h fun l h=>
 W l j h fun m h=>
 .nm (T36 a b d) h
def k98_2 : KF := K3 y0 y3 y4 fun c i x h a b d=>
 J a h fun e h=>
 A 1 e h fun f h=>
 L f h fun g h=>
 Y g d h fun j h=>
 I j (x (T36 a b d) h) (.ex 0 (T66 b) h)
def k98_1 : KF := K2 y0 y3 fun c i x h a b=>
 C c 39 [a] h fun d h=>
 x (T36 a b d) h
def k98_4 : KF := K1 y3 fun c i x h a=>
 .ret (T29 a) h
def k98_0 : KF := K1 y0 fun c i x h a=>
 x (T15 a .al) h
def x98 : AC := (.ag k98_0 (.seq (.ag k98_1 (.block 0 (.loop (.ag k98_2 (.seq (.block 1 (.eH [q 0 (m d21 r0),
 qj 0 d22 r21,
 qf 0 d23 0 r22,
 ql 0 d24 r23,
 q 0 (m d25 r0),
 qj 0 d26 r25,
 qf 0 d27 1 r26,
 ql 0 d28 r27,
 q 0 (o d29 (.uZ (.one .i) iS false r24 r28)),
 w (o d30 (.dU 9 1 1 [iS] [.mk 0 1 r29])),
 q 1 (m d20 r3),
 w (o d31 (.app 9 1 r20 r30)),
 q 0 (m d3 r31)])) (.ag k98_3 .skip)))))) (.ag k98_4 .skip)))
def f98 : AF := .mk x98 [.t .h0 .h2]
def qI : KF := K3 y5 y6 y7 fun c i x h a b d=>
 tR (fj d i0 h) fun e h=>
 I e (Z d i1 h fun f h=>
 tR (bK .shl a (.int .u64 (.ofNat 8)) h) fun g h=>
 X 1 b f h fun j h=>
 L j h fun k h=>
 tR (cK (.toInt .u64) k h) fun l h=>
 tR (KM g l h) fun m h=>
 .go 0 (T68 u m b f) h) (.ret (T1 a) h)
def k105_1 : KF := K2 y0 y1 fun c i x h a b=>
 C c 148 [a,b] h fun d h=>
 G d h fun e h=>
 x (T67 (.int .u64 (.ofNat 0)) d e) h
def k105_0 : KF := K2 y0 y1 fun c i x h a b=>
 x (T11 a b) h
def x105 : AC := (.ag k105_0 (.scope (.ag k105_1 (.seq (.label 0) (.ag qI .skip)))))
def f105 : AF := .mk x105 [.t .h0 .h4]
def k108_0 : KF := K4 y0 y1 y2 y3 fun c i x h a b d e=>
 C c 137 [] h fun f h=>
 C c 138 [f,d] h fun g h=>
 tT (cd c e [f] h) fun j h=>
 x (T69 a b f) h
def x108 : AC := (.ag k108_0 (.eH [q 0 (m d25 r8),
 w (oc d26 140 [r25]),
 q 1 (m d16 r0),
 qj 1 d17 r16,
 qf 1 d18 0 r17,
 ql 1 d19 r18,
 q 1 (m d20 r0),
 qj 1 d21 r20,
 qf 1 d22 1 r21,
 ql 1 d23 r22,
 q 1 (m d24 r1),
 w (oc d27 34 [r19,r23,r24,r26])]))
def f108 : AF := .mk x108 []
def k111_0 : KF := K1 y0 fun c i x h a=>
 J a h fun b h=>
 A 2 b h fun d h=>
 L d h fun e h=>
 tR (gF e i0 h) fun f h=>
 .ret (T29 f) h
def x111 : AC := (.ag k111_0 .skip)
def f111 : AF := .mk x111 [.t .h0 .h2]
def k119_0 : KF := K2 y0 y1 fun c i x h a b=>
 B 108 a h fun d h=>
 B 108 b h fun e h=>
 M 2 d h fun f h=>
 M 2 e h fun g h=>
 C c 157 [f,g] h fun j h=>
 Y j i0 h fun k h=>
 .ret (T1 k) h
def x119 : AC := (.ag k119_0 .skip)
def f119 : AF := .mk x119 [.t .h0 .h4]
def lT : KF := K3 y0 y1 y6 fun c i x h a b d=>
 Q d i0 h fun e h=>
 I e (.ret T27 h) (J a h fun f h=>
 A 0 f h fun g h=>
 L g h fun j h=>
 tR (cK (.toInt .u8) b h) fun k h=>
 tR (bs 5 1 1 [(.int .u8 (.ofNat 0))] [.mk 0 1 (.c k)] h) fun l h=>
 tR (eJ 5 1 j l h) fun m h=>
 J a h fun n h=>
 A 0 n h fun o h=>
 W o m h fun p h=>
 tR (bK .shr b (.int .u64 (.ofNat 8)) h) fun q h=>
 Z d i1 h fun s h=>
 .go 0 (T19 a q s) h)
def k126_0 : KF := K3 y0 y1 y2 fun c i x h a b d=>
 x (T19 a b d) h
def x126 : AC := (.scope (.ag k126_0 (.seq (.label 0) (.ag lT .skip))))
def f126 : AF := .mk x126 []
def k131_2 : KF := K4 y0 y1 y12 y13 fun c i x h a b d e=>
 Y e d h fun f h=>
 I f (tQ (iX 1 a e h) fun g=>
 tQ (lD g h) fun j=>
 tQ (iX 1 b e h) fun k=>
 tQ (lD k h) fun l=>
 tQ (gF j l h) fun m=>
 I m (.ret (T1 (.bool false)) h) (D e i1 h fun n h=>
 .nm (T70 a b d n) h)) (.ex 0 (T70 a b d e) h)
def k131_1 : KF := K2 y0 y1 fun c i x h a b=>
 G a h fun d h=>
 x (T70 a b d i0) h
def k131_3 : KF := fun c i x r h=>
 .ret (T1 (.bool true)) h
def k131_0 : KF := K2 y0 y1 fun c i x h a b=>
 G a h fun d h=>
 G b h fun e h=>
 tR (gF d e h) fun f h=>
 I f (.ret (T1 (.bool false)) h) (x (T11 a b) h)
def x131 : AC := (.ag k131_0 (.seq (.ag k131_1 (.block 0 (.loop (.ag k131_2 .skip)))) (.ag k131_3 .skip)))
def f131 : AF := .mk x131 [.t .h0 .h4]
def k132_0 : KF := K1 y0 fun c i x h a=>
 C c 173 [a] h fun b h=>
 tR (cK (.toInt .u8) b h) fun d h=>
 tR (bK .shr b (.int .u64 (.ofNat 8)) h) fun e h=>
 tR (cK (.toInt .u8) e h) fun f h=>
 tR (bK .shr b (.int .u64 (.ofNat 16)) h) fun g h=>
 tR (cK (.toInt .u8) g h) fun j h=>
 tR (bK .shr b (.int .u64 (.ofNat 24)) h) fun k h=>
 tR (cK (.toInt .u8) k h) fun l h=>
 tR (bs 5 1 4 [(.int .u8 (.ofNat 0)),(.int .u8 (.ofNat 0)),(.int .u8 (.ofNat 0)),(.int .u8 (.ofNat 0))] [.mk 0 1 (.c d),.mk 1 1 (.c f),.mk 2 1 (.c j),.mk 3 1 (.c l)] h) fun m h=>
 tR (eJ 5 1 m a h) fun n h=>
 .ret (T29 n) h
def x132 : AC := (.ag k132_0 .skip)
def f132 : AF := .mk x132 [.t .h0 .h2]
def k137_0 : KF := fun c i x r h=>
 U [.al] [] h fun a h=>
 B 206 a h fun b h=>
 .ret (T14 b) h
def x137 : AC := (.ag k137_0 .skip)
def f137 : AF := .mk x137 [.t .h0 .h0]
def k138_0 : KF := K2 y0 y1 fun c i x h a b=>
 tR (cK (.toInt .u64) b h) fun d h=>
 C c 126 [a,d,i1] h fun e h=>
 .nm T27 h
def x138 : AC := (.ag k138_0 .skip)
def f138 : AF := .mk x138 []
def k139_0 : KF := K1 y0 fun c i x h a=>
 C c 137 [] h fun b h=>
 C c 132 [a] h fun d h=>
 G d h fun e h=>
 C c 71 [b,e] h fun f h=>
 C c 140 [b] h fun g h=>
 tR (eJ 5 1 g d h) fun j h=>
 .ret (T29 j) h
def x139 : AC := (.ag k139_0 .skip)
def f139 : AF := .mk x139 [.t .h0 .h2]
def k140_0 : KF := K1 y0 fun c i x h a=>
 J a h fun b h=>
 A 0 b h fun d h=>
 L d h fun e h=>
 C c 78 [e] h fun f h=>
 .ret (T29 f) h
def x140 : AC := (.ag k140_0 .skip)
def f140 : AF := .mk x140 [.t .h0 .h2]
def k148_3 : KF := K2 y0 y1 fun c i x h a b=>
 tQ (nC a h) fun d=>
 tQ (fA 0 d h) fun e=>
 tQ (lD e h) fun f=>
 tQ (nC a h) fun g=>
 tQ (fA 1 g h) fun j=>
 tQ (lD j h) fun k=>
 tQ (hR k b h) fun l=>
 tQ (nC a h) fun m=>
 tQ (fA 1 m h) fun n=>
 tQ (lD n h) fun o=>
 tQ (cY 1 (.c f) (.some (.c l)) (.some (.c o)) .none .nil h) fun p=>
 .ret (T1 p) h
def k148_2 : KF := K2 y0 y1 fun c i x h a b=>
 J a h fun d h=>
 A 1 d h fun e h=>
 L e h fun f h=>
 D f b h fun g h=>
 J a h fun j h=>
 A 1 j h fun k h=>
 W k g h fun l h=>
 x (T11 a b) h
def k148_1 : KF := K2 y0 y1 fun c i x h a b=>
 tQ (nC a h) fun d=>
 tQ (fA 0 d h) fun e=>
 tQ (lD e h) fun f=>
 tQ (len f h) fun g=>
 tQ (nC a h) fun j=>
 tQ (fA 1 j h) fun k=>
 tQ (lD k h) fun l=>
 tQ (hR g l h) fun m=>
 tQ (fj b m h) fun n=>
 I n (J a h fun o h=>
 A 0 o h fun p h=>
 L p h fun q h=>
 G q h fun s h=>
 C c 175 [a,(pi 10),s] h fun t h=>
 .ret (T1 .al) h) (x (T11 a b) h)
def k148_0 : KF := K2 y0 y1 fun c i x h a b=>
 J a h fun d h=>
 A 2 d h fun e h=>
 L e h fun f h=>
 tR (gF f i0 h) fun g h=>
 I g (.ret (T1 .al) h) (x (T11 a b) h)
def x148 : AC := (.ag k148_0 (.ag k148_1 (.ag k148_2 (.ag k148_3 .skip))))
def f148 : AF := .mk x148 [.t .h0 .h4]
def k157_0 : KF := K2 y0 y1 fun c i x h a b=>
 B 108 a h fun d h=>
 B 108 b h fun e h=>
 x (T13 d e) h
def x157 : AC := (.ag k157_0 (.seq (.eH [qf 0 d5 0 r2,
 ql 0 d6 r5,
 qf 0 d7 0 r3,
 ql 0 d8 r7,
 w (oc d9 182 [r6,r8]),
 qf 1 d10 1 r2,
 ql 1 d11 r10,
 qf 1 d12 1 r3,
 ql 1 d13 r12,
 w (oc d14 182 [r11,r13]),
 w (o d15 (.dU 3 1 2 [i0,i0] [.mk 0 1 r9,.mk 1 1 r14])),
 w (oc d16 181 [r15]),
 q 0 (m d4 r16)]) .ret))
def f157 : AF := .mk x157 [.t .h0 .h4]
def k175_0 : KF := K3 y0 y1 y2 fun c i x h a b d=>
 J a h fun e h=>
 A 2 e h fun f h=>
 L f h fun g h=>
 Q g i0 h fun j h=>
 I j (J a h fun k h=>
 A 2 k h fun l h=>
 W l b h fun m h=>
 J a h fun n h=>
 A 3 n h fun o h=>
 W o d h fun p h=>
 .nm T27 h) (.nm T27 h)
def x175 : AC := (.ag k175_0 .skip)
def f175 : AF := .mk x175 []
def k181_2 : KF := K4 y3 y6 y7 y8 fun c i x h a b d e=>
 Y e d h fun f h=>
 I f (X 1 b e h fun g h=>
 L g h fun j h=>
 tR (gF j a h) fun k h=>
 I k (.ret (T29 j) h) (D e i1 h fun l h=>
 .nm (T71 a b d l) h)) (.ex 0 (T71 a b d e) h)
def k181_1 : KF := K2 y0 y3 fun c i x h a b=>
 G a h fun d h=>
 x (T71 b a d i0) h
def k181_3 : KF := K1 y3 fun c i x h a=>
 .ret (T29 a) h
def k181_0 : KF := K1 y0 fun c i x h a=>
 x (T15 a i0) h
def x181 : AC := (.ag k181_0 (.seq (.ag k181_1 (.block 0 (.loop (.ag k181_2 .skip)))) (.ag k181_3 .skip)))
def f181 : AF := .mk x181 [.t .h0 .h2]
def k182_1 : KF := K2 y0 y1 fun c i x h a b=>
 Y a b h fun d h=>
 I d (.ret (T1 (ni 0)) h) (tR (fj a b h) fun e h=>
 I e (.ret (T1 i1) h) (.ret (T1 i0) h))
def k182_0 : KF := K2 y0 y1 fun c i x h a b=>
 C c 190 [a] h fun d h=>
 C c 190 [b] h fun e h=>
 I d (I e (.ret (T1 i0) h) (.ret (T1 (ni 0)) h)) (I e (.ret (T1 i1) h) (x (T11 a b) h))
def x182 : AC := (.ag k182_0 (.ag k182_1 .skip))
def f182 : AF := .mk x182 [.t .h0 .h4]
def k241_0 : KF := K4 y0 y1 y2 y3 fun c i x h a b d e=>
 U [i0,iS,.al] [.mk 0 1 (.c d),.mk 1 1 (.c e),.mk 2 1 (.c .al)] h fun f h=>
 J a h fun g h=>
 A 0 g h fun j h=>
 tR (FM 5 3 j b h) fun k h=>
 S 3 k f h fun l h=>
 .nm T27 h
def x241 : AC := (.ag k241_0 .skip)
def f241 : AF := .mk x241 []
def k145_0 : KF := K2 y0 y1 fun c i x h a b=>
 tR (lx b h) fun d h=>
 C c 179 [a,d] h fun e h=>
 J a h fun f h=>
 A 0 f h fun g h=>
 L g h fun j h=>
 tR (nX 5 (.c j) (.c b) .nil h) fun k h=>
 J a h fun l h=>
 A 0 l h fun m h=>
 W m k h fun n h=>
 .nm T27 h
def x145 : AC := (.ag k145_0 .skip)
def f145 : AF := .mk x145 []
def k179_0 : KF := K2 y0 y1 fun c i x h a b=>
 tR (cK (.toInt .u64) b h) fun d h=>
 C c 126 [a,d,(pi 2)] h fun e h=>
 .nm T27 h
def x179 : AC := (.ag k179_0 .skip)
def f179 : AF := .mk x179 []
def k134_1 : KF := K4 y0 y5 y6 y23 fun c i x h a b d e=>
 I e (C c 175 [a,(pi 3),b] h fun f h=>
 .nm (T26 a d) h) (.nm (T26 a d) h)
def k134_2 : KF := K2 y0 y6 fun c i x h a b=>
 C c 148 [a,b] h fun d h=>
 tR (cK .KH d h) fun e h=>
 .ret (T1 e) h
def k134_0 : KF := K2 y0 y1 fun c i x h a b=>
 J a h fun d h=>
 A 1 d h fun e h=>
 L e h fun f h=>
 C c 174 [a] h fun g h=>
 x (T0 a b f g) h
def x134 : AC := (.ag k134_0 (.seq (.seq (.ops [m d13 r0,
 oj d14 r13,
 of d15 2 r14,
 ol d16 r15,
 o d17 (.bin .eq r16 a0),
 m d18 r17,
 .g .h1 .h2 true d19 (.op (.mv r6)),
 .g .h1 .h2 true d20 (.op (.mv r1)),
 .g .h1 .h2 true d21 (.op (.max false [r20,a0])),
 .g .h1 .h2 true d22 (.op (.bin .gt r19 r21)),
 o d23 (.pick r18 r22 (.c (.bool false)))]) (.ag k134_1 .skip)) (.ag k134_2 .skip)))
def f134 : AF := .mk x134 [.t .h0 .h4]
def k174_0 : KF := K1 y0 fun c i x h a=>
 C c 105 [a,(pi 2)] h fun b h=>
 tR (cK (.toInt .i64) b h) fun d h=>
 .ret (T29 d) h
def x174 : AC := (.ag k174_0 .skip)
def f174 : AF := .mk x174 [.t .h0 .h2]
def k11_2 : KF := K1 y1 fun c i x h a=>
 U [i0,i0,i0,iS] [.mk 0 1 (.c i1),.mk 1 1 (.c i0),.mk 3 1 (.c (.str [120]))] h fun b h=>
 C c 6 [a,b] h fun d h=>
 C c 7 [a,(pi 20000)] h fun e h=>
 E 0 e h fun f h=>
 E 1 e h fun g h=>
 tR (eJ 59 4 d f h) fun j h=>
 x (T73 a j) h
def k11_1 : KF := K2 y1 y2 fun c i x h a b=>
 tR (bK .oP a .da h) fun d h=>
 gD d false (fun e=>e b h) h fun e h=>
 gD d false (fun f=>tR (gF e i0 h) fun g h=>
 f g h) h fun f h=>
 tR (gZ (.c d) (.c (.bool true)) (.c f) .nil h) fun g h=>
 I g (.ret (T14 (.bool false)) h) (x (T72 a) h)
def k11_0 : KF := fun c i x r h=>
 C c 5 [(pi 3)] h fun a h=>
 E 0 a h fun b h=>
 E 1 a h fun d h=>
 x (T58 b d) h
def x11 : AC := (.ag k11_0 (.ag k11_1 (.ag k11_2 (.seq (.ops [m d27 r3,
 o d28 (.len r27),
 o d29 (.bin .eq r28 a1),
 m d30 r29,
 .g .h1 .he true d31 (.op (.mv r3)),
 .g .h1 .he true d32 (.op (.AQ 4 r31 a0)),
 .g .h1 .he true d33 (.op (.ja 4 r32)),
 .g .h1 .he true d34 (.op (.build [i0,i0,iS,i0] [.mk 0 1 a1,.mk 2 1 (.c (.str [120]))])),
 .g .h1 .he true d35 (.op (.bin (.Oq [.i,.i,.s,.i]) r33 r34)),
 o d36 (.pick r30 r35 (.c (.bool false))),
 m d37 r36,
 .g .h2 .h5 true d38 (.op (.mv r1)),
 .g .h2 .h5 true d39 (.call 9 [r38,a0]),
 .g .h2 .h5 true d40 (.op (.dU 9 1 1 [iS] [.mk 0 1 (.c (.str [120]))])),
 .g .h2 .h5 true d41 (.call 26 [r39,r40]),
 o d42 (.pick r37 r41 (.c (.bool false))),
 m d43 r42,
 .g .h2 .hb true d44 (.op (.mv r1)),
 .g .h2 .hb true d45 (.call 9 [r44,a2]),
 .g .h2 .hb true d46 (.op (.dU 9 1 1 [iS] [.mk 0 1 (.c (.str [120]))])),
 .g .h2 .hb true d47 (.call 26 [r45,r46]),
 o d48 (.pick r43 r47 (.c (.bool false))),
 m d49 r48,
 .g .h3 .h1 true d50 (.op (.mv r1)),
 .g .h3 .h1 true d51 (.call 27 [r50]),
 .g .h3 .h1 true d52 (.op (.bin .eq r51 a0)),
 o d53 (.pick r49 r52 (.c (.bool false))),
 m d0 r53]) .ret))))
def f11 : AF := .mk x11 [.t .h0 .h0]
def k13_0 : KF := K4 y0 y1 y2 y3 fun c i x h a b d e=>
 C c 24 [a,b] h fun f h=>
 I f (J a h fun g h=>
 A 1 g h fun j h=>
 L j h fun k h=>
 X 1 k b h fun l h=>
 L l h fun m h=>
 C c 30 [m,d,e] h fun n h=>
 .nm T27 h) (.nm T27 h)
def x13 : AC := (.ag k13_0 .skip)
def f13 : AF := .mk x13 []
def k26_2 : KF := K3 y0 y1 y5 fun c i x h a b d=>
 G a h fun e h=>
 Y d e h fun f h=>
 I f (tQ (iX 1 a d h) fun g=>
 tQ (lD g h) fun j=>
 tQ (iX 1 b d h) fun k=>
 tQ (lD k h) fun l=>
 tQ (sM j l h) fun m=>
 I m (.ret (T1 (.bool false)) h) (D d i1 h fun n h=>
 .nm (T2 a b n) h)) (.ex 0 (T2 a b d) h)
def k26_1 : KF := K2 y0 y1 fun c i x h a b=>
 x (T2 a b i0) h
def k26_3 : KF := fun c i x r h=>
 .ret (T1 (.bool true)) h
def k26_0 : KF := K2 y0 y1 fun c i x h a b=>
 G a h fun d h=>
 G b h fun e h=>
 tR (gF d e h) fun f h=>
 I f (.ret (T1 (.bool false)) h) (x (T11 a b) h)
def x26 : AC := (.ag k26_0 (.seq (.ag k26_1 (.block 0 (.loop (.ag k26_2 .skip)))) (.ag k26_3 .skip)))
def f26 : AF := .mk x26 [.t .h0 .h4]
def k27_0 : KF := K1 y0 fun c i x h a=>
 J a h fun b h=>
 A 0 b h fun d h=>
 L d h fun e h=>
 C c 41 [e] h fun f h=>
 .ret (T29 f) h
def x27 : AC := (.ag k27_0 .skip)
def f27 : AF := .mk x27 [.t .h0 .h2]
def k30_3 : KF := K8 y0 y1 y2 y6 y11 y12 y13 y27 fun c i x h a b d e f g j k=>
 I k (.ex 1 (T76 a b d e f g j) h) (.nm (T76 a b d e f g j) h)
def k30_4 : KF := K4 y0 y1 y2 y6 fun c i x h a b d e=>
 tR (eS d h) fun f h=>
 I f (.ret T27 h) (x (T77 a b d e) h)
def k30_2 : KF := K6 y0 y1 y2 y11 y12 y13 fun c i x h a b d e f g=>
 X 6 e g h fun j h=>
 M 6 j h fun k h=>
 O 106 6 (.k1 (Y6 i0 i0 i0 (.bool false) iS i0)) h fun l h=>
 S 6 l k h fun m h=>
 x (T75 a b d g l e f g) h
def k30_5 : KF := K6 y0 y1 y2 y11 y12 y13 fun c i x h a b d e f g=>
 D g i1 h fun j h=>
 .nm (T74 a b d e f j) h
def k30_1 : KF := K6 y0 y1 y2 y11 y12 y13 fun c i x h a b d e f g=>
 Y g f h fun j h=>
 I j (x (T74 a b d e f g) h) (.ex 0 (T45 a b d) h)
def k30_0 : KF := K3 y0 y1 y2 fun c i x h a b d=>
 J a h fun e h=>
 A 17 e h fun f h=>
 L f h fun g h=>
 G g h fun j h=>
 x (T74 a b d g j i0) h
def k30_7 : KF := K1 y0 fun c i x h a=>
 J a h fun b h=>
 A 19 b h fun d h=>
 L d h fun e h=>
 Q e (pi 2) h fun f h=>
 I f (C c 52 [a] h fun g h=>
 .nm T27 h) (Q e i0 h fun g h=>
 I g (J a h fun j h=>
 A 3 j h fun k h=>
 L k h fun l h=>
 J a h fun m h=>
 A 23 m h fun n h=>
 W n l h fun o h=>
 C c 53 [a] h fun p h=>
 .nm T27 h) (.nm T27 h))
def k30_6 : KF := K3 y0 y1 y2 fun c i x h a b d=>
 J a h fun e h=>
 A 18 e h fun f h=>
 L f h fun g h=>
 D g i1 h fun j h=>
 J a h fun k h=>
 A 18 k h fun l h=>
 W l j h fun m h=>
 x (T45 a b d) h
def x30 : AC := (.seq (.ag k30_0 (.block 0 (.loop (.ag k30_1 (.seq (.block 1 (.ag k30_2 (.seq (.seq (.ops [of d18 4 r7,
 ol d19 r18,
 m d20 r1,
 o d21 (.bin .QO r19 r20),
 m d22 r21,
 .g .h1 .h6 false d23 (.op (.ig 3 r7)),
 .g .h1 .h6 false d24 (.op (.eU r23)),
 .g .h1 .h6 false d25 (.op (.mv r2)),
 .g .h1 .h6 false d26 (.op (.bin .bne r24 r25)),
 o d27 (.pick r22 (.c (.bool true)) r26)]) (.ag k30_3 .skip)) (.ag k30_4 (.seq (.eH [q 0 (m d31 r0),
 qj 0 d32 r31,
 qf 0 d33 17 r32,
 ql 0 d34 r33,
 q 0 (m d35 r6),
 q 0 (m d36 r6),
 q 0 (o d37 (.FL 6 r34 .none (.some r35) (.some r36))),
 q 0 (m d38 r0),
 qj 0 d39 r38,
 qf 0 d40 17 r39,
 ql 0 d41 r40,
 q 0 (m d42 r6),
 q 0 (o d43 (.bin .add r42 a1)),
 q 0 (o d44 (.FL 6 r41 (.some r43) .none .none)),
 w (o d45 (.app 106 6 r37 r44)),
 q 1 (m d30 r0),
 qj 0 d46 r30,
 qf 0 d47 17 r46,
 w (os r47 r45)]) (.exit 0)))))) (.ag k30_5 .skip)))))) (.ag k30_6 (.seq (.eH [q 0 (m d61 r0),
 qj 0 d62 r61,
 qf 0 d63 1 r62,
 ql 0 d64 r63,
 q 0 (m d65 r0),
 qj 0 d66 r65,
 qf 0 d67 6 r66,
 ql 0 d68 r67,
 q 0 (m d69 r0),
 qj 0 d70 r69,
 qf 0 d71 18 r70,
 ql 0 d72 r71,
 q 0 (o d73 (.build [i0,i0,i0] [.mk 0 1 r64,.mk 1 1 r68,.mk 2 1 r72])),
 q 0 (m d74 r2),
 q 0 (m d75 r1),
 q 0 (o d76 (.build [i0,i0,i0,(.bool false),iS,i0] [.mk 0 3 r73,.mk 3 1 r74,.mk 4 1 r75,.mk 5 1 (.c (ni 0))])),
 w (o d77 (.dU 106 6 1 [i0,i0,i0,(.bool false),iS,i0] [.mk 0 6 r76])),
 q 1 (m d57 r0),
 qj 1 d58 r57,
 qf 1 d59 17 r58,
 ql 1 d60 r59,
 w (o d78 (.app 106 6 r60 r77)),
 q 2 (m d56 r0),
 qj 0 d79 r56,
 qf 0 d80 17 r79,
 w (os r80 r78)]) (.ag k30_7 .skip))))
def f30 : AF := .mk x30 []
def k41_0 : KF := K1 y0 fun c i x h a=>
 J a h fun b h=>
 A 0 b h fun d h=>
 L d h fun e h=>
 G e h fun f h=>
 .ret (T29 f) h
def x41 : AC := (.ag k41_0 .skip)
def f41 : AF := .mk x41 [.t .h0 .h2]
def k52_1 : KF := K3 y0 y2 y17 fun c i x h a b d=>
 I d (.nm (T78 a b) h) (.ex 0 (T78 a b) h)
def k52_3 : KF := K4 y0 y2 y3 y36 fun c i x h a b d e=>
 I e (.ex 1 (T79 a b d) h) (.nm (T79 a b d) h)
def k52_5 : KF := K1 y0 fun c i x h a=>
 .nm (T78 a (ni 0)) h
def k52_4 : KF := K3 y0 y2 y3 fun c i x h a b d=>
 tQ (nC a h) fun e=>
 tQ (fA 17 e h) fun f=>
 tQ (lD f h) fun g=>
 tQ (nC a h) fun j=>
 tQ (fA 21 j h) fun k=>
 tQ (lD k h) fun l=>
 tQ (iX 6 g b h) fun m=>
 tQ (fA 5 m h) fun n=>
 tX (RV.iU (sT n l h)) fun o h=>
 J a h fun p h=>
 A 21 p h fun q h=>
 L q h fun s h=>
 D s i1 h fun t h=>
 J a h fun v h=>
 A 21 v h fun w h=>
 W w t h fun y h=>
 x (T15 a d) h
def k52_2 : KF := K2 y0 y2 fun c i x h a b=>
 J a h fun d h=>
 A 17 d h fun e h=>
 L e h fun f h=>
 X 6 f b h fun g h=>
 M 6 g h fun j h=>
 O 106 6 (.k1 (Y6 i0 i0 i0 (.bool false) iS i0)) h fun k h=>
 S 6 k j h fun l h=>
 x (T79 a b k) h
def k52_6 : KF := K2 y0 y2 fun c i x h a b=>
 D b i1 h fun d h=>
 .nm (T78 a d) h
def k52_0 : KF := K1 y0 fun c i x h a=>
 x (T78 a i0) h
def x52 : AC := (.ag k52_0 (.block 0 (.loop (.seq (.seq (.ops [m d4 r2,
 m d5 r0,
 oj d6 r5,
 of d7 17 r6,
 ol d8 r7,
 o d9 (.len r8),
 o d10 (.bin .lt r4 r9),
 m d11 r10,
 .g .h0 .hb true d12 (.op (.mv r0)),
 .g .h0 .hb true d13 (.op (.dk r12)),
 .g .h0 .hb true d14 (.op (.ig 19 r13)),
 .g .h0 .hb true d15 (.op (.eU r14)),
 .g .h0 .hb true d16 (.op (.bin .eq r15 a2)),
 o d17 (.pick r11 r16 (.c (.bool false)))]) (.ag k52_1 .skip)) (.seq (.block 1 (.ag k52_2 (.seq (.seq (.ops [of d27 5 r3,
 ol d28 r27,
 o d29 (.bin .ge r28 a0),
 m d30 r29,
 .g .h1 .he false d31 (.op (.mv r0)),
 .g .h1 .he false d32 (.op (.dk r31)),
 .g .h1 .he false d33 (.op (.ig 21 r32)),
 .g .h1 .he false d34 (.op (.eU r33)),
 .g .h1 .he false d35 (.op (.bin .ge r34 (.c (pi 1048576)))),
 o d36 (.pick r30 (.c (.bool true)) r35)]) (.ag k52_3 .skip)) (.ag k52_4 (.seq (.eH [q 0 (o d61 (.ja 6 r3)),
 w (oc d62 101 [r61]),
 q 1 (m d55 r0),
 q 1 (m d56 r0),
 qj 1 d57 r56,
 qf 1 d58 21 r57,
 ql 1 d59 r58,
 q 1 (o d60 (.bin .sub r59 a1)),
 w (oc d63 100 [r55,r60,r62])]) (.ag k52_5 .skip)))))) (.ag k52_6 .skip))))))
def f52 : AF := .mk x52 []
def k53_1 : KF := K3 y1 y2 y3 fun c i x h a b d=>
 L a h fun e h=>
 C c 69 [e,i1,(.fn 103 [b,d,a])] h fun f h=>
 L a h fun g h=>
 C c 104 [g] h fun j h=>
 .nm T27 h
def k53_0 : KF := K1 y0 fun c i x h a=>
 B 68 a h fun b h=>
 x (T72 b) h
def x53 : AC := (.ag k53_0 (.seq (.eH [ql 0 d8 r1,
 qj 0 d9 r8,
 qf 0 d10 7 r9,
 ql 0 d11 r10,
 w (oc d12 93 [r11]),
 ql 1 d4 r1,
 qj 1 d5 r4,
 qf 1 d6 8 r5,
 ql 1 d7 r6,
 w (oc d13 56 [r7,r12])]) (.seq (.eH [ql 0 d14 r1,
 qj 0 d17 r14,
 qf 0 d18 19 r17,
 w (os r18 a1),
 ql 1 d15 r1,
 qj 0 d19 r15,
 qf 0 d20 20 r19,
 n (o d16 (.nF)),
 w (os r20 r16)]) (.seq (.eH [ql 0 d25 r1,
 qj 0 d26 r25,
 qf 0 d27 9 r26,
 ql 0 d28 r27,
 w (oc d29 39 [r28]),
 ql 1 d21 r1,
 qj 1 d22 r21,
 qf 1 d23 8 r22,
 ql 1 d24 r23,
 w (oc d30 102 [r24,r29]),
 ql 2 d31 r1,
 qj 2 d32 r31,
 qf 2 d33 9 r32,
 ql 2 d34 r33,
 w (oc d35 39 [r34]),
 n (o d2 (.alloc 108 2 (.k1 (Y2 i0 i0)))),
 n (o d3 (.alloc 3 1 (.k1 (Y1 i0)))),
 w (o .no (.CS 2 r2 r30)),
 w (os r3 r35)]) (.ag k53_1 .skip)))))
def f53 : AF := .mk x53 []
def k56_0 : KF := K2 y0 y1 fun c i x h a b=>
 B 108 b h fun d h=>
 tQ (nC a h) fun e=>
 tQ (fA 2 e h) fun f=>
 tQ (lD f h) fun g=>
 tQ (fA 0 d h) fun j=>
 tQ (lD j h) fun k=>
 tQ (fW false [g,k] h) fun l=>
 tQ (nC a h) fun m=>
 tQ (fA 2 m h) fun n=>
 tX (RV.iU (sT n l h)) fun o h=>
 .nm T27 h
def x56 : AC := (.ag k56_0 .skip)
def f56 : AF := .mk x56 []
def k57_1 : KF := K5 y1 y4 y6 y8 y9 fun c i x h a b d e f=>
 L b h fun g h=>
 M 2 d h fun j h=>
 L e h fun k h=>
 C c 106 [g,j,k] h fun l h=>
 E 0 l h fun m h=>
 E 1 l h fun n h=>
 O 114 1 (.k1 (Y1 .al)) h fun o h=>
 W o m h fun p h=>
 tR (eS n h) fun q h=>
 I q (L b h fun s h=>
 C c 107 [s,a] h fun t h=>
 .ret T27 h) (L b h fun s h=>
 M 2 d h fun t h=>
 C c 62 [s,t] h fun v h=>
 L b h fun w h=>
 C c 108 [w,a,(pi 2),(.fn 109 [d,f,o,b,e])] h fun y h=>
 .nm T27 h)
def k57_0 : KF := K4 y0 y1 y2 y3 fun c i x h a b d e=>
 B 68 a h fun f h=>
 B 108 d h fun g h=>
 C c 61 [e] h fun j h=>
 C c 61 [e] h fun k h=>
 O 3 1 (.k1 (Y1 i0)) h fun l h=>
 O 2 1 (.k1 (Y1 i0)) h fun m h=>
 W l j h fun n h=>
 W m k h fun o h=>
 tQ (lD l h) fun p=>
 tQ (lD f h) fun q=>
 tQ (nC q h) fun s=>
 tQ (fA 13 s h) fun t=>
 tQ (fA 0 t h) fun v=>
 tQ (lD v h) fun w=>
 tQ (mY p w h) fun y=>
 I y (L f h fun z h=>
 L l h fun a0 h=>
 C c 65 [z,b,a0] h fun a1 h=>
 .ret T27 h) (x (T80 b f g l m) h)
def x57 : AC := (.ag k57_0 (.ag k57_1 .skip))
def f57 : AF := .mk x57 []
def k58_2 : KF := K8 y0 y1 y3 y6 y8 y9 y10 y24 fun c i x h a b d e f g j k=>
 I k (.nm (T82 a b d e f g j) h) (.ex 0 (T82 a b d e f g j) h)
def k58_3 : KF := K7 y0 y1 y3 y6 y8 y9 y10 fun c i x h a b d e f g j=>
 C c 55 [d] h fun k h=>
 U [i0,i0,i0,iS] [.mk 1 2 (.c k)] h fun l h=>
 O 117 4 (.k1 (Y4 i0 i0 i0 iS)) h fun m h=>
 S 4 m l h fun n h=>
 C c 61 [d] h fun o h=>
 A 0 m h fun p h=>
 W p o h fun q h=>
 C c 81 [d] h fun s h=>
 A 3 m h fun t h=>
 W t s h fun v h=>
 M 4 m h fun w h=>
 tR (bs 117 4 1 [i0,i0,i0,iS] [.mk 0 4 (.c w)] h) fun y h=>
 tR (eJ 117 4 g y h) fun z h=>
 Z j i1 h fun a0 h=>
 .nm (T82 a b d e f z a0) h
def k58_1 : KF := K6 y0 y1 y3 y6 y8 y9 fun c i x h a b d e f g=>
 C c 61 [d] h fun j h=>
 x (T82 a b d e f g j) h
def k58_5 : KF := K8 y0 y1 y6 y8 y9 y41 y42 y43 fun c i x h a b d e f g j k=>
 Y k j h fun l h=>
 I l (X 4 g k h fun m h=>
 M 4 m h fun n h=>
 O 117 4 (.k1 (Y4 i0 i0 i0 iS)) h fun o h=>
 S 4 o n h fun p h=>
 A 0 o h fun q h=>
 L q h fun s h=>
 A 3 o h fun t h=>
 L t h fun v h=>
 C c 64 [a,s,v] h fun w h=>
 D k i1 h fun y h=>
 .nm (T83 a b d e f g j y) h) (.ex 2 (T83 a b d e f g j k) h)
def k58_4 : KF := K6 y0 y1 y3 y6 y8 y9 fun c i x h a b d e f g=>
 C c 63 [d] h fun j h=>
 G j h fun k h=>
 x (T83 a b e f g j k i0) h
def k58_6 : KF := K5 y0 y1 y6 y9 y75 fun c i x h a b d e f=>
 I f (.ret T27 h) (.nm (T84 a b d e) h)
def k58_7 : KF := K4 y0 y1 y6 y9 fun c i x h a b d e=>
 tQ (nC a h) fun f=>
 tQ (fA 8 f h) fun g=>
 tQ (lD g h) fun j=>
 tQ (ja 2 d h) fun k=>
 tX (c 113 [j,b,k,e] h) fun l h=>
 J a h fun m h=>
 A 20 m h fun n h=>
 L n h fun o h=>
 tR (yj (.one .i) o b i1 h) fun p h=>
 C c 104 [a] h fun q h=>
 .nm T27 h
def k58_0 : KF := K4 y0 y1 y2 y3 fun c i x h a b d e=>
 B 108 d h fun f h=>
 C c 61 [e] h fun g h=>
 x (T81 a b e f g .al) h
def x58 : AC := (.ag k58_0 (.seq (.ag k58_1 (.block 0 (.loop (.seq (.seq (.ops [m d18 r10,
 o d19 (.bin .gt r18 a0),
 m d20 r19,
 .g .h1 .h4 true d21 (.op (.mv r3)),
 .g .h1 .h4 true d22 (.call 111 [r21]),
 .g .h1 .h4 true d23 (.op (.un .not r22)),
 o d24 (.pick r20 r23 (.c (.bool false)))]) (.ag k58_2 .skip)) (.ag k58_3 .skip))))) (.seq (.ag k58_4 (.block 2 (.loop (.ag k58_5 .skip)))) (.seq (.seq (.eH [q 0 (m d54 r8),
 q 0 (m d55 r0),
 qj 0 d56 r55,
 qf 0 d57 6 r56,
 ql 0 d58 r57,
 q 0 (o d59 (.bin .ne r54 r58)),
 q 0 (m d60 r59),
 q 0 (.g .h3 .hc false d61 (.op (.mv r0))),
 q 0 (.g .h3 .hc false d62 (.op (.dk r61))),
 q 0 (.g .h3 .hc false d63 (.op (.ig 19 r62))),
 q 0 (.g .h3 .hc false d64 (.op (.eU r63))),
 q 0 (.g .h3 .hc false d65 (.op (.bin .ne r64 a1))),
 q 0 (o d66 (.pick r60 (.c (.bool true)) r65)),
 q 0 (m d67 r66),
 q 0 (.g .h4 .h3 false d69 (.op (.mv r0))),
 q 0 (.g .h4 .h3 false d70 (.op (.dk r69))),
 q 0 (.g .h4 .h3 false d71 (.op (.ig 8 r70))),
 q 0 (.g .h4 .h3 false d72 (.op (.eU r71))),
 w (.g .h4 .h3 false d73 (.call 112 [r72])),
 q 1 (.g .h4 .h3 false d68 (.op (.ja 2 r6))),
 q 0 (.g .h4 .h3 false d74 (.op (.bin (.QP [.i,.i]) r68 r73))),
 q 0 (o d75 (.pick r67 (.c (.bool true)) r74))]) (.ag k58_6 .skip)) (.ag k58_7 .skip)))))
def f58 : AF := .mk x58 []
def k59_1 : KF := K5 y0 y1 y6 y8 y9 fun c i x h a b d e f=>
 M 2 d h fun g h=>
 L e h fun j h=>
 C c 114 [a,g,j,f] h fun k h=>
 tR (eS k h) fun l h=>
 I l (C c 107 [a,b] h fun m h=>
 .ret T27 h) (M 2 d h fun m h=>
 C c 62 [a,m] h fun n h=>
 C c 108 [a,b,(pi 4),(.fn 115 [d,e])] h fun o h=>
 .nm T27 h)
def k59_0 : KF := K4 y0 y1 y2 y3 fun c i x h a b d e=>
 B 108 d h fun f h=>
 C c 61 [e] h fun g h=>
 O 3 1 (.k1 (Y1 i0)) h fun j h=>
 W j g h fun k h=>
 C c 81 [e] h fun l h=>
 tQ (lD j h) fun m=>
 tQ (nC a h) fun n=>
 tQ (fA 13 n h) fun o=>
 tQ (fA 0 o h) fun p=>
 tQ (lD p h) fun q=>
 tQ (mY m q h) fun s=>
 I s (L j h fun t h=>
 C c 65 [a,b,t] h fun v h=>
 .ret T27 h) (x (T85 a b f j l) h)
def x59 : AC := (.ag k59_0 (.ag k59_1 .skip))
def f59 : AF := .mk x59 []
def k60_1 : KF := K3 y0 y3 y25 fun c i x h a b d=>
 I d (.ret T27 h) (.nm (T15 a b) h)
def k60_2 : KF := K2 y0 y3 fun c i x h a b=>
 J a h fun d h=>
 A 8 d h fun e h=>
 L e h fun f h=>
 C c 117 [f,b,iS] h fun g h=>
 E 0 g h fun j h=>
 E 1 g h fun k h=>
 I k (C c 118 [a,b,j] h fun l h=>
 .nm T27 h) (.nm T27 h)
def k60_0 : KF := K4 y0 y1 y2 y3 fun c i x h a b d e=>
 B 108 d h fun f h=>
 x (T86 a b e f) h
def x60 : AC := (.ag k60_0 (.seq (.seq (.eH [q 0 (m d10 r0),
 qj 0 d11 r10,
 qf 0 d12 19 r11,
 ql 0 d13 r12,
 q 0 (o d14 (.bin .ne r13 a2)),
 q 0 (m d15 r14),
 q 0 (.g .h0 .hf false d16 (.op (.mv r0))),
 q 0 (.g .h0 .hf false d17 (.op (.dk r16))),
 q 0 (.g .h0 .hf false d18 (.op (.ig 8 r17))),
 q 0 (.g .h0 .hf false d19 (.op (.eU r18))),
 q 0 (.g .h0 .hf false d20 (.op (.mv r1))),
 q 0 (.g .h0 .hf false d21 (.op (.ja 2 r6))),
 q 0 (.g .h0 .hf false d22 (.op (.mv r3))),
 w (.g .h0 .hf false d23 (.call 116 [r19,r20,r21,r22])),
 q 0 (.g .h0 .hf false d24 (.op (.un .not r23))),
 q 0 (o d25 (.pick r15 (.c (.bool true)) r24))]) (.ag k60_1 .skip)) (.ag k60_2 .skip)))
def f60 : AF := .mk x60 []
def k62_1 : KF := K2 y0 y17 fun c i x h a b=>
 I b (J a h fun d h=>
 A 19 d h fun e h=>
 W e i0 h fun f h=>
 .nm T27 h) (.nm T27 h)
def k62_0 : KF := K2 y0 y1 fun c i x h a b=>
 B 108 b h fun d h=>
 x (T15 a d) h
def x62 : AC := (.ag k62_0 (.seq (.eH [q 0 (m d4 r0),
 qj 0 d5 r4,
 qf 0 d6 19 r5,
 ql 0 d7 r6,
 q 0 (o d8 (.bin .ne r7 a0)),
 q 0 (m d9 r8),
 q 0 (.g .h0 .h9 true d10 (.op (.mv r0))),
 q 0 (.g .h0 .h9 true d11 (.op (.dk r10))),
 q 0 (.g .h0 .h9 true d12 (.op (.ig 8 r11))),
 q 0 (.g .h0 .h9 true d13 (.op (.eU r12))),
 w (.g .h0 .h9 true d14 (.call 112 [r13])),
 q 1 (.g .h0 .h9 true d15 (.op (.ja 2 r3))),
 w (.g .h0 .h9 true d16 (.call 119 [r14,r15])),
 q 0 (o d17 (.pick r9 r16 (.c (.bool false))))]) (.ag k62_1 .skip)))
def f62 : AF := .mk x62 []
def k63_2 : KF := K4 y0 y3 y4 y14 fun c i x h a b d e=>
 I e (.nm (T36 a b d) h) (.ex 0 (T36 a b d) h)
def k63_3 : KF := K3 y0 y3 y4 fun c i x h a b d=>
 C c 61 [a] h fun e h=>
 C c 81 [a] h fun f h=>
 U [i0,i0,i0,iS] [.mk 0 1 (.c e),.mk 3 1 (.c f)] h fun g h=>
 tR (bs 117 4 1 [i0,i0,i0,iS] [.mk 0 4 (.c g)] h) fun j h=>
 tR (eJ 117 4 b j h) fun k h=>
 Z d i1 h fun l h=>
 .nm (T36 a k l) h
def k63_1 : KF := K2 y0 y3 fun c i x h a b=>
 C c 61 [a] h fun d h=>
 x (T36 a b d) h
def k63_4 : KF := K1 y3 fun c i x h a=>
 .ret (T29 a) h
def k63_0 : KF := K1 y0 fun c i x h a=>
 x (T15 a .al) h
def x63 : AC := (.ag k63_0 (.seq (.ag k63_1 (.block 0 (.loop (.seq (.seq (.ops [m d8 r4,
 o d9 (.bin .gt r8 a0),
 m d10 r9,
 .g .h0 .ha true d11 (.op (.mv r0)),
 .g .h0 .ha true d12 (.call 111 [r11]),
 .g .h0 .ha true d13 (.op (.un .not r12)),
 o d14 (.pick r10 r13 (.c (.bool false)))]) (.ag k63_2 .skip)) (.ag k63_3 .skip))))) (.ag k63_4 .skip)))
def f63 : AF := .mk x63 [.t .h0 .h2]
def k64_1 : KF := K5 y0 y4 y5 y6 y21 fun c i x h a b d e f=>
 I f (W e (pi 5) h fun g h=>
 .nm (T51 a b d e) h) (.nm (T51 a b d e) h)
def k64_2 : KF := K4 y0 y4 y5 y6 fun c i x h a b d e=>
 L e h fun f h=>
 C c 120 [a,(.bool false),f,(.fn 121 [b,e,d])] h fun g h=>
 C c 51 [a] h fun j h=>
 x (T14 a) h
def k64_0 : KF := K3 y0 y1 y2 fun c i x h a b d=>
 B 3 b h fun e h=>
 B 9 d h fun f h=>
 L e h fun g h=>
 L f h fun j h=>
 C c 83 [a,g,j] h fun k h=>
 tR (eS k h) fun l h=>
 I l (.ret T27 h) (O 3 1 (.k1 (Y1 i0)) h fun m h=>
 W m (pi 4) h fun n h=>
 x (T51 a e f m) h)
def x64 : AC := (.ag k64_0 (.seq (.seq (.eH [q 0 (m d12 r0),
 ql 0 d13 r4,
 w (oc d14 95 [r12,r13]),
 q 0 (m d15 r14),
 q 0 (.g .h0 .hf true d16 (.op (.mv r0))),
 q 0 (.g .h0 .hf true d17 (.op (.eU r4))),
 w (.g .h0 .hf true d18 (.call 80 [r16,r17])),
 q 1 (.g .h0 .hf true d19 (.op (.eU r5))),
 q 0 (.g .h0 .hf true d20 (.op (.bin .seq r18 r19))),
 q 0 (o d21 (.pick r15 r20 (.c (.bool false))))]) (.ag k64_1 .skip)) (.ag k64_2 (.eH [q 0 (m d29 r0),
 qj 0 d30 r29,
 qf 0 d31 24 r30,
 ql 0 d32 r31,
 q 0 (m d33 r32),
 q 0 (.g .h2 .h1 false d38 (.op (.mv r0))),
 q 0 (.g .h2 .h1 false d39 (.op (.dk r38))),
 q 0 (.g .h2 .h1 false d40 (.op (.ig 9 r39))),
 q 0 (.g .h2 .h1 false d41 (.op (.eU r40))),
 w (.g .h2 .h1 false d42 (.call 39 [r41])),
 q 1 (m d28 r0),
 q 1 (.g .h2 .h1 false d34 (.op (.mv r0))),
 q 1 (.g .h2 .h1 false d35 (.op (.dk r34))),
 q 1 (.g .h2 .h1 false d36 (.op (.ig 10 r35))),
 q 1 (.g .h2 .h1 false d37 (.op (.eU r36))),
 q 0 (.g .h2 .h1 false d43 (.op (.bin .gt r37 r42))),
 q 0 (o d44 (.pick r33 (.c (.bool true)) r43)),
 qj 0 d45 r28,
 qf 0 d46 24 r45,
 w (os r46 r44)]))))
def f64 : AF := .mk x64 []
def k80_0 : KF := K2 y0 y1 fun c i x h a b=>
 J a h fun d h=>
 A 7 d h fun e h=>
 L e h fun f h=>
 C c 133 [f,b] h fun g h=>
 E 0 g h fun j h=>
 E 1 g h fun k h=>
 O 117 4 (.k1 (Y4 i0 i0 i0 iS)) h fun l h=>
 S 4 l j h fun m h=>
 A 3 l h fun n h=>
 L n h fun o h=>
 .ret (T1 o) h
def x80 : AC := (.ag k80_0 .skip)
def f80 : AF := .mk x80 [.t .h0 .h4]
def k81_2 : KF := K4 y0 y3 y4 y15 fun c i x h a b d e=>
 I e (.nm (T36 a b d) h) (.ex 0 (T36 a b d) h)
def k81_3 : KF := K3 y0 y3 y4 fun c i x h a b d=>
 C c 134 [a,(pi 65535)] h fun e h=>
 tR (nX 5 (.c b) (.c e) .nil h) fun f h=>
 .nm (T36 a f d) h
def k81_1 : KF := K2 y0 y3 fun c i x h a b=>
 C c 61 [a] h fun d h=>
 x (T36 a b d) h
def k81_4 : KF := K1 y3 fun c i x h a=>
 tR (cK .KH a h) fun b h=>
 .ret (T29 b) h
def k81_0 : KF := K1 y0 fun c i x h a=>
 x (T15 a .al) h
def x81 : AC := (.ag k81_0 (.seq (.ag k81_1 (.block 0 (.loop (.seq (.seq (.ops [m d7 r3,
 o d8 (.len r7),
 m d9 r4,
 o d10 (.bin .lt r8 r9),
 m d11 r10,
 .g .h0 .hb true d12 (.op (.mv r0)),
 .g .h0 .hb true d13 (.call 111 [r12]),
 .g .h0 .hb true d14 (.op (.un .not r13)),
 o d15 (.pick r11 r14 (.c (.bool false)))]) (.ag k81_2 .skip)) (.ag k81_3 .skip))))) (.ag k81_4 .skip)))
def f81 : AF := .mk x81 [.t .h0 .h2]
def k83_1 : KF := K3 y0 y1 y23 fun c i x h a b d=>
 I d (.ret (T12 (.bool false)) h) (.nm (T11 a b) h)
def k83_2 : KF := K2 y0 y1 fun c i x h a b=>
 J a h fun d h=>
 A 10 d h fun e h=>
 L e h fun f h=>
 D b i1 h fun g h=>
 tR (fW false [f,g] h) fun j h=>
 J a h fun k h=>
 A 10 k h fun l h=>
 W l j h fun m h=>
 .ret (T12 (.bool true)) h
def k83_0 : KF := K3 y0 y1 y2 fun c i x h a b d=>
 x (T45 a b d) h
def x83 : AC := (.ag k83_0 (.seq (.seq (.ops [m d7 r1,
 m d8 r0,
 oj d9 r8,
 of d10 13 r9,
 of d11 0 r10,
 ol d12 r11,
 o d13 (.bin .lt r7 r12),
 m d14 r13,
 .g .h0 .he false d15 (.op (.mv r0)),
 .g .h0 .he false d16 (.op (.dk r15)),
 .g .h0 .he false d17 (.op (.ig 9 r16)),
 .g .h0 .he false d18 (.op (.eU r17)),
 .g .h0 .he false d19 (.op (.mv r1)),
 .g .h0 .he false d20 (.op (.mv r2)),
 .g .h0 .he false d21 (.call 135 [r18,r19,r20]),
 .g .h0 .he false d22 (.op (.un .not r21)),
 o d23 (.pick r14 (.c (.bool true)) r22)]) (.ag k83_1 .skip)) (.ag k83_2 .skip)))
def f83 : AF := .mk x83 [.t .h0 .h6]
def k91_1 : KF := K2 y0 y1 fun c i x h a b=>
 tR (lx b h) fun d h=>
 tR (fj d i0 h) fun e h=>
 I e (tR (lx b h) fun f h=>
 tR (fW true [f,(pi 65535)] h) fun g h=>
 tR (jo (.c b) .none (.some (.c g)) .nil h) fun j h=>
 C c 145 [a,j] h fun k h=>
 tR (jo (.c b) (.some (.c g)) .none .nil h) fun l h=>
 .nm (T11 a l) h) (.ex 0 (T11 a b) h)
def k91_0 : KF := K2 y0 y1 fun c i x h a b=>
 tR (lx b h) fun d h=>
 C c 71 [a,d] h fun e h=>
 x (T11 a b) h
def x91 : AC := (.ag k91_0 (.block 0 (.loop (.ag k91_1 .skip))))
def f91 : AF := .mk x91 []
def k95_0 : KF := K2 y0 y1 fun c i x h a b=>
 J a h fun d h=>
 A 7 d h fun e h=>
 L e h fun f h=>
 C c 133 [f,b] h fun g h=>
 E 0 g h fun j h=>
 E 1 g h fun k h=>
 O 117 4 (.k1 (Y4 i0 i0 i0 iS)) h fun l h=>
 S 4 l j h fun m h=>
 .ret (T1 k) h
def x95 : AC := (.ag k95_0 .skip)
def f95 : AF := .mk x95 [.t .h0 .h4]
def k99_1 : KF := K6 y0 y1 y6 y7 y8 y10 fun c i x h a b d e f g=>
 I g (.ret T27 h) (.nm (T87 a b d e f) h)
def k99_3 : KF := K6 y0 y1 y6 y7 y8 y12 fun c i x h a b d e f g=>
 x (T89 a b d f g e) h
def k99_5 : KF := K3 y0 y8 y12 fun c i x h a b d=>
 tQ (nC a h) fun e=>
 tQ (fA 0 e h) fun f=>
 tQ (lD f h) fun g=>
 tQ (nC g h) fun j=>
 tQ (fA 2 j h) fun k=>
 tQ (lD k h) fun l=>
 tQ (nC a h) fun m=>
 tQ (fA 1 m h) fun n=>
 tQ (lD n h) fun o=>
 tQ (nC a h) fun p=>
 tQ (fA 12 p h) fun q=>
 tQ (lD q h) fun s=>
 tQ (hR s i1 h) fun t=>
 tQ (nC l h) fun v=>
 tX (i 4 l [o,t,b,d] h) fun w h=>
 .nm T27 h
def k99_4 : KF := K5 y0 y1 y6 y8 y12 fun c i x h a b d e f=>
 tQ (nC a h) fun g=>
 tQ (fA 11 g h) fun j=>
 tQ (lD j h) fun k=>
 tQ (ja 3 d h) fun l=>
 tQ (nC a h) fun m=>
 tQ (fA 12 m h) fun n=>
 tQ (lD n h) fun o=>
 tQ (bl [i0,i0] [.mk 0 1 (.c b),.mk 1 1 (.c o)] h) fun p=>
 tX (RV.iU (yj (.agg [.i,.i,.i]) k l p h)) fun q h=>
 J a h fun s h=>
 A 12 s h fun t h=>
 L t h fun v h=>
 D v i1 h fun w h=>
 J a h fun y h=>
 A 12 y h fun z h=>
 W z w h fun a0 h=>
 x (T90 a e f) h
def k99_2 : KF := K5 y0 y1 y6 y7 y8 fun c i x h a b d e f=>
 M 3 d h fun g h=>
 C c 124 [a,g] h fun j h=>
 E 0 j h fun k h=>
 E 1 j h fun l h=>
 O 106 6 (.k1 (Y6 i0 i0 i0 (.bool false) iS i0)) h fun m h=>
 S 6 m k h fun n h=>
 J a h fun o h=>
 A 22 o h fun p h=>
 W p i0 h fun q h=>
 x (T88 a b d e f l) h
def k99_0 : KF := K3 y0 y1 y2 fun c i x h a b d=>
 C c 147 [d] h fun e h=>
 E 0 e h fun f h=>
 E 1 e h fun g h=>
 E 2 e h fun j h=>
 O 104 3 (.k1 (Y3 i0 i0 i0)) h fun k h=>
 S 3 k f h fun l h=>
 x (T87 a b k g j) h
def x99 : AC := (.ag k99_0 (.seq (.seq (.eH [w (o d9 (.alloc 125 2 (.k1 (Y2 i0 i0)))),
 q 1 (m d20 r0),
 qj 1 d21 r20,
 qf 1 d22 11 r21,
 ql 1 d23 r22,
 q 1 (o d24 (.ja 3 r6)),
 q 1 (o d25 (.uZ (.agg [.i,.i,.i]) (.agg [i0,i0]) true r23 r24)),
 q 1 (m d19 r25),
 q 1 (oe d26 0 r19),
 w (o .no (.CS 2 r9 r26)),
 q 2 (oe d27 1 r19),
 q 0 (m d10 r27)]) (.ag k99_1 .skip)) (.ag k99_2 (.seq (.ag k99_3 (.cond r38 (.bad 0) .skip)) (.ag k99_4 (.ag k99_5 .skip))))))
def f99 : AF := .mk x99 []
def k100_1 : KF := K5 y0 y1 y2 y6 y31 fun c i x h a b d e f=>
 I f (.ret T27 h) (.nm (T77 a b d e) h)
def k100_4 : KF := K4 y0 y1 y2 y6 fun c i x h a b d e=>
 M 2 e h fun f h=>
 C c 128 [a,f,b,d] h fun g h=>
 .nm T27 h
def k100_3 : KF := K4 y0 y1 y2 y6 fun c i x h a b d e=>
 tQ (nC a h) fun f=>
 tQ (fA 8 f h) fun g=>
 tQ (lD g h) fun j=>
 tQ (nC a h) fun k=>
 tQ (fA 1 k h) fun l=>
 tQ (lD l h) fun m=>
 tQ (ja 2 e h) fun n=>
 tX (c 116 [j,m,n,b] h) fun o h=>
 I o (C c 118 [a,b,d] h fun p h=>
 x (T77 a b d e) h) (x (T77 a b d e) h)
def k100_2 : KF := K4 y0 y1 y2 y6 fun c i x h a b d e=>
 M 2 e h fun f h=>
 C c 114 [a,f,b,d] h fun g h=>
 tR (eS g h) fun j h=>
 I j (J a h fun k h=>
 A 19 k h fun l h=>
 W l i0 h fun m h=>
 .ret T27 h) (x (T77 a b d e) h)
def k100_0 : KF := K3 y0 y1 y2 fun c i x h a b d=>
 J a h fun e h=>
 A 8 e h fun f h=>
 L f h fun g h=>
 C c 112 [g] h fun j h=>
 O 108 2 (.k1 (Y2 i0 i0)) h fun k h=>
 S 2 k j h fun l h=>
 J a h fun m h=>
 A 8 m h fun n h=>
 L n h fun o h=>
 C c 117 [o,b,d] h fun p h=>
 E 0 p h fun q h=>
 E 1 p h fun s h=>
 x (T91 a b q k s) h
def x100 : AC := (.ag k100_0 (.seq (.seq (.ops [m d23 r7,
 o d24 (.un .not r23),
 m d25 r24,
 .g .h1 .h9 false d26 (.op (.mv r0)),
 .g .h1 .h9 false d27 (.op (.dk r26)),
 .g .h1 .h9 false d28 (.op (.ig 19 r27)),
 .g .h1 .h9 false d29 (.op (.eU r28)),
 .g .h1 .h9 false d30 (.op (.bin .ne r29 a2)),
 o d31 (.pick r25 (.c (.bool true)) r30)]) (.ag k100_1 .skip)) (.ag k100_2 (.ag k100_3 (.ag k100_4 .skip)))))
def f100 : AF := .mk x100 []
def k101_1 : KF := K2 y1 y3 fun c i x h a b=>
 A 3 a h fun d h=>
 L d h fun e h=>
 I e (C c 140 [b] h fun f h=>
 tR (cK .KH f h) fun g h=>
 .ret (T29 g) h) (x (T73 a b) h)
def k101_0 : KF := K1 y0 fun c i x h a=>
 B 106 a h fun b h=>
 C c 137 [] h fun d h=>
 A 0 b h fun e h=>
 M 3 e h fun f h=>
 C c 144 [d,f] h fun g h=>
 A 3 b h fun j h=>
 L j h fun k h=>
 I k (C c 138 [d,i1] h fun l h=>
 x (T73 b d) h) (C c 138 [d,i0] h fun l h=>
 x (T73 b d) h)
def x101 : AC := (.ag k101_0 (.ag k101_1 (.seq (.eH [q 0 (m d20 r3),
 w (oc d21 140 [r20]),
 q 0 (o d22 (.conv .KH r21)),
 qf 1 d23 4 r1,
 ql 1 d24 r23,
 q 0 (o d25 (.bin .cat r22 r24)),
 q 0 (m d2 r25)]) .ret)))
def f101 : AF := .mk x101 [.t .h0 .h2]
def k102_2 : KF := K2 y0 y4 fun c i x h a b=>
 J a h fun d h=>
 A 3 d h fun e h=>
 M 2 e h fun f h=>
 S 2 b f h fun g h=>
 .ret (T1 b) h
def k102_1 : KF := K3 y0 y1 y4 fun c i x h a b d=>
 tR (fW false [b,i0] h) fun e h=>
 J a h fun f h=>
 A 5 f h fun g h=>
 W g e h fun j h=>
 tR (KB h) fun k h=>
 J a h fun l h=>
 A 6 l h fun m h=>
 W m k h fun n h=>
 tR (KB h) fun o h=>
 J a h fun p h=>
 A 7 p h fun q h=>
 W q o h fun s h=>
 tR (KB h) fun t h=>
 J a h fun v h=>
 A 8 v h fun w h=>
 W w t h fun y h=>
 x (T33 a d) h
def k102_0 : KF := K2 y0 y1 fun c i x h a b=>
 O 108 2 (.k1 (Y2 i0 i0)) h fun d h=>
 J a h fun e h=>
 A 2 e h fun f h=>
 L f h fun g h=>
 tR (fW true [g,(pi 1073741823)] h) fun j h=>
 D j i1 h fun k h=>
 J a h fun l h=>
 A 2 l h fun m h=>
 W m k h fun n h=>
 tQ (nC a h) fun o=>
 tQ (fA 2 o h) fun p=>
 tQ (lD p h) fun q=>
 tQ (nC a h) fun s=>
 tQ (fA 0 s h) fun t=>
 tQ (lD t h) fun v=>
 tQ (bl [i0,i0] [.mk 0 1 (.c q),.mk 1 1 (.c v)] h) fun w=>
 tQ (nC a h) fun y=>
 tQ (fA 3 y h) fun z=>
 tX (RV.iU (CS 2 z w h)) fun a0 h=>
 x (T92 a b d) h
def x102 : AC := (.ag k102_0 (.ag k102_1 (.ag k102_2 .skip)))
def f102 : AF := .mk x102 [.agg 2 .h0 .h4]
def k103_0 : KF := K4 y0 y1 y2 y3 fun c i x h a b d e=>
 M 2 b h fun f h=>
 C c 90 [a,f] h fun g h=>
 L d h fun j h=>
 C c 71 [a,j] h fun k h=>
 L e h fun l h=>
 J l h fun m h=>
 A 6 m h fun n h=>
 L n h fun o h=>
 C c 71 [a,o] h fun p h=>
 .nm T27 h
def x103 : AC := (.ag k103_0 .skip)
def f103 : AF := .mk x103 []
def k104_0 : KF := K2 y0 y31 fun c i x h a b=>
 I b (.ret T27 h) (.nm (T14 a) h)
def k104_4 : KF := K4 y0 y84 y85 y86 fun c i x h a b d e=>
 Y e d h fun f h=>
 I f (X 1 b e h fun g h=>
 L g h fun j h=>
 J a h fun k h=>
 A 21 k h fun l h=>
 L l h fun m h=>
 D j i1 h fun n h=>
 tR (fW false [m,n] h) fun o h=>
 J a h fun p h=>
 A 21 p h fun q h=>
 W q o h fun s h=>
 D e i1 h fun t h=>
 .nm (T93 a b d t) h) (.ex 0 (T93 a b d e) h)
def k104_3 : KF := K1 y0 fun c i x h a=>
 J a h fun b h=>
 A 8 b h fun d h=>
 L d h fun e h=>
 C c 127 [e] h fun f h=>
 G f h fun g h=>
 x (T93 a f g i0) h
def k104_6 : KF := K3 y0 y7 y8 fun c i x h a b d=>
 D b i1 h fun e h=>
 .nm (T94 a e d) h
def k104_5 : KF := K3 y0 y7 y8 fun c i x h a b d=>
 Y b d h fun e h=>
 I e (J a h fun f h=>
 A 9 f h fun g h=>
 L g h fun j h=>
 C c 76 [j,b] h fun k h=>
 E 0 k h fun l h=>
 E 1 k h fun m h=>
 tR (eS m h) fun n h=>
 I n (C c 100 [a,b,iS] h fun o h=>
 x (T94 a b d) h) (x (T94 a b d) h)) (.ex 2 (T14 a) h)
def k104_8 : KF := K3 y0 y133 y134 fun c i x h a b d=>
 Y d b h fun e h=>
 I e (J a h fun f h=>
 A 17 f h fun g h=>
 L g h fun j h=>
 X 6 j d h fun k h=>
 A 5 k h fun l h=>
 W l (ni 0) h fun m h=>
 D d i1 h fun n h=>
 .nm (T95 a b n) h) (.ex 4 (T95 a b d) h)
def k104_7 : KF := K1 y0 fun c i x h a=>
 J a h fun b h=>
 A 17 b h fun d h=>
 L d h fun e h=>
 G e h fun f h=>
 x (T95 a f i0) h
def k104_9 : KF := K1 y0 fun c i x h a=>
 C c 52 [a] h fun b h=>
 .nm T27 h
def k104_2 : KF := K4 y0 y2 y3 y4 fun c i x h a b d e=>
 tR (eS e h) fun f h=>
 I f (J a h fun g h=>
 A 19 g h fun j h=>
 W j i0 h fun k h=>
 .ret T27 h) (tQ (nC a h) fun g=>
 tQ (fA 8 g h) fun j=>
 tQ (lD j h) fun k=>
 tQ (nC a h) fun l=>
 tQ (fA 1 l h) fun m=>
 tQ (lD m h) fun n=>
 tQ (ja 2 b h) fun o=>
 tX (c 113 [k,n,o,d] h) fun p h=>
 J a h fun q h=>
 A 19 q h fun s h=>
 W s (pi 2) h fun t h=>
 x (T14 a) h)
def k104_1 : KF := K1 y0 fun c i x h a=>
 J a h fun b h=>
 A 8 b h fun d h=>
 L d h fun e h=>
 C c 112 [e] h fun f h=>
 O 108 2 (.k1 (Y2 i0 i0)) h fun g h=>
 S 2 g f h fun j h=>
 x (T78 a g) h
def x104 : AC := (.seq (.seq (.eH [q 0 (m d12 r0),
 qj 0 d13 r12,
 qf 0 d14 19 r13,
 ql 0 d15 r14,
 q 0 (o d16 (.bin .ne r15 a1)),
 q 0 (m d17 r16),
 q 0 (.g .h1 .h1 false d18 (.op (.mv r0))),
 q 0 (.g .h1 .h1 false d19 (.op (.dk r18))),
 q 0 (.g .h1 .h1 false d20 (.op (.ig 20 r19))),
 q 0 (.g .h1 .h1 false d21 (.op (.eU r20))),
 q 0 (.g .h1 .h1 false d22 (.op (.DZ r21))),
 q 0 (.g .h1 .h1 false d25 (.op (.mv r0))),
 q 0 (.g .h1 .h1 false d26 (.op (.dk r25))),
 q 0 (.g .h1 .h1 false d27 (.op (.ig 0 r26))),
 q 0 (.g .h1 .h1 false d28 (.op (.eU r27))),
 w (.g .h1 .h1 false d29 (.call 45 [r28])),
 q 1 (.g .h1 .h1 false d23 (.op (.bin .add r22 a1))),
 q 1 (.g .h1 .h1 false d24 (.op (.bin .mul a2 r23))),
 q 0 (.g .h1 .h1 false d30 (.op (.bin .le r24 r29))),
 q 0 (o d31 (.pick r17 (.c (.bool true)) r30))]) (.ag k104_0 .skip)) (.ag k104_1 (.seq (.eH [q 0 (m d40 r0),
 qj 0 d41 r40,
 qf 0 d42 9 r41,
 ql 0 d43 r42,
 w (oc d44 39 [r43]),
 q 1 (m d38 r0),
 q 1 (o d39 (.ja 2 r2)),
 w (oc d45 106 [r38,r39,r44]),
 q 0 (m d37 r45),
 q 0 (oe d46 0 r37),
 q 0 (oe d47 1 r37),
 q 0 (m d3 r46),
 q 0 (m d4 r47)]) (.ag k104_2 (.seq (.eH [q 0 (m d68 r0),
 qj 0 d69 r68,
 qf 0 d70 9 r69,
 ql 0 d71 r70,
 w (oc d72 39 [r71]),
 q 1 (m d67 r0),
 q 1 (m d73 r0),
 qj 1 d74 r73,
 qf 1 d75 10 r74,
 ql 1 d76 r75,
 q 0 (o d77 (.max false [r72,r76])),
 qj 0 d78 r67,
 qf 0 d79 21 r78,
 w (os r79 r77)]) (.seq (.ag k104_3 (.block 0 (.loop (.ag k104_4 .skip)))) (.seq (.seq (.eH [q 0 (m d101 r0),
 qj 0 d102 r101,
 qf 0 d103 9 r102,
 ql 0 d104 r103,
 w (oc d105 39 [r104]),
 q 1 (m d106 r0),
 qj 1 d107 r106,
 qf 1 d108 21 r107,
 ql 1 d109 r108,
 q 0 (m d7 r105),
 q 0 (m d8 r109)]) (.block 2 (.loop (.ag k104_5 (.ag k104_6 .skip))))) (.seq (.ag k104_7 (.block 4 (.loop (.ag k104_8 .skip)))) (.ag k104_9 .skip)))))))))
def f104 : AF := .mk x104 []
def k106_1 : KF := K4 y0 y2 y4 y23 fun c i x h a b d e=>
 I e (.ret (T65 .al (.bool false)) h) (.nm (T96 a b d) h)
def k106_2 : KF := K3 y0 y2 y4 fun c i x h a b d=>
 tQ (nC a h) fun e=>
 tQ (fA 7 e h) fun f=>
 tQ (lD f h) fun g=>
 tQ (ja 2 d h) fun j=>
 tX (c 79 [g,j,b] h) fun k h=>
 tQ (ext 0 k h) fun l=>
 tQ (ext 1 k h) fun m=>
 .ret (T65 m l) h
def k106_0 : KF := K3 y0 y1 y2 fun c i x h a b d=>
 B 108 b h fun e h=>
 x (T96 a d e) h
def x106 : AC := (.ag k106_0 (.seq (.seq (.eH [q 0 (m d10 r0),
 qj 0 d11 r10,
 qf 0 d12 7 r11,
 ql 0 d13 r12,
 w (oc d14 93 [r13]),
 q 1 (o d15 (.ja 2 r4)),
 w (oc d16 119 [r14,r15]),
 q 0 (o d17 (.un .not r16)),
 q 0 (m d18 r17),
 q 0 (.g .h1 .h2 false d19 (.op (.mv r0))),
 q 0 (.g .h1 .h2 false d20 (.op (.Ra 149 [r4]))),
 w (.g .h1 .h2 false d21 (.call 120 [r19,(.c (.bool true)),a1,r20])),
 q 0 (.g .h1 .h2 false d22 (.op (.un .not r21))),
 q 0 (o d23 (.pick r18 (.c (.bool true)) r22))]) (.ag k106_1 .skip)) (.ag k106_2 .skip)))
def f106 : AF := .mk x106 [.t .h0 .h6,.t .h0 .h7]
def k109_2 : KF := K6 y0 y4 y5 y19 y20 y21 fun c i x h a b d e f g=>
 Y g f h fun j h=>
 I j (X 4 e g h fun k h=>
 M 4 k h fun l h=>
 O 117 4 (.k1 (Y4 i0 i0 i0 iS)) h fun m h=>
 S 4 m l h fun n h=>
 A 1 m h fun o h=>
 M 2 o h fun p h=>
 C c 90 [a,p] h fun q h=>
 A 0 m h fun s h=>
 L s h fun t h=>
 C c 71 [a,t] h fun v h=>
 A 3 m h fun w h=>
 L w h fun y h=>
 C c 91 [a,y] h fun z h=>
 D g i1 h fun a0 h=>
 .nm (T98 a b d e f a0) h) (.ex 0 (T98 a b d e f g) h)
def k109_1 : KF := K4 y0 y3 y4 y5 fun c i x h a b d e=>
 L b h fun f h=>
 G f h fun g h=>
 x (T98 a d e f g i0) h
def k109_3 : KF := K3 y0 y4 y5 fun c i x h a b d=>
 L b h fun e h=>
 L d h fun f h=>
 C c 94 [e,f] h fun g h=>
 C c 110 [a,g] h fun j h=>
 .nm T27 h
def k109_0 : KF := K6 y0 y1 y2 y3 y4 y5 fun c i x h a b d e f g=>
 M 2 b h fun j h=>
 C c 90 [a,j] h fun k h=>
 L d h fun l h=>
 C c 71 [a,l] h fun m h=>
 L e h fun n h=>
 G n h fun o h=>
 C c 71 [a,o] h fun p h=>
 x (T97 a e f g) h
def x109 : AC := (.ag k109_0 (.seq (.ag k109_1 (.block 0 (.loop (.ag k109_2 .skip)))) (.ag k109_3 .skip)))
def f109 : AF := .mk x109 []
def k110_1 : KF := K4 y0 y10 y11 y12 fun c i x h a b d e=>
 Y e d h fun f h=>
 I f (X 4 b e h fun g h=>
 M 4 g h fun j h=>
 O 117 4 (.k1 (Y4 i0 i0 i0 iS)) h fun k h=>
 S 4 k j h fun l h=>
 A 0 k h fun m h=>
 L m h fun n h=>
 C c 71 [a,n] h fun o h=>
 A 3 k h fun p h=>
 L p h fun q h=>
 C c 91 [a,q] h fun s h=>
 D e i1 h fun t h=>
 .nm (T99 a b d t) h) (.ex 0 (T99 a b d e) h)
def k110_0 : KF := K2 y0 y1 fun c i x h a b=>
 G b h fun d h=>
 C c 71 [a,d] h fun e h=>
 G b h fun f h=>
 x (T99 a b f i0) h
def x110 : AC := (.ag k110_0 (.block 0 (.loop (.ag k110_1 .skip))))
def f110 : AF := .mk x110 []
def k112_0 : KF := K1 y0 fun c i x h a=>
 O 108 2 (.k1 (Y2 i0 i0)) h fun b h=>
 J a h fun d h=>
 A 3 d h fun e h=>
 M 2 e h fun f h=>
 S 2 b f h fun g h=>
 .ret (T29 b) h
def x112 : AC := (.ag k112_0 .skip)
def f112 : AF := .mk x112 [.agg 2 .h0 .h2]
def k113_2 : KF := K5 y0 y1 y3 y8 y40 fun c i x h a b d e f=>
 I f (.go 0 (T101 a b d e) h) (.nm (T101 a b d e) h)
def k113_4 : KF := K2 y3 y8 fun c i x h a b=>
 G a h fun d h=>
 Y b d h fun e h=>
 x (T103 e) h
def k113_3 : KF := K4 y0 y1 y3 y8 fun c i x h a b d e=>
 J a h fun f h=>
 A 6 f h fun g h=>
 L g h fun j h=>
 tR (yj (.one .i) j b i1 h) fun k h=>
 x (T102 d e) h
def k113_1 : KF := K4 y0 y1 y3 y6 fun c i x h a b d e=>
 M 2 e h fun f h=>
 C c 56 [a,f] h fun g h=>
 x (T100 a b d e i0) h
def k113_0 : KF := K4 y0 y1 y2 y3 fun c i x h a b d e=>
 B 108 d h fun f h=>
 x (T86 a b e f) h
def x113 : AC := (.ag k113_0 (.scope (.ag k113_1 (.seq (.seq (.eH [q 0 (o d15 (.ja 2 r6)),
 q 0 (m d16 r0),
 qj 0 d17 r16,
 qf 0 d18 3 r17,
 q 0 (o d19 (.ja 2 r18)),
 q 0 (o d20 (.bin (.QP [.i,.i]) r15 r19)),
 q 0 (m d21 r20),
 q 0 (.g .h1 .h5 false d22 (.op (.ja 2 r6))),
 q 0 (.g .h1 .h5 false d23 (.op (.build [i0,i0] []))),
 q 0 (.g .h1 .h5 false d24 (.op (.bin (.Oq [.i,.i]) r22 r23))),
 q 0 (o d25 (.pick r21 (.c (.bool true)) r24)),
 q 0 (m d26 r25),
 q 0 (.g .h1 .ha false d27 (.op (.mv r0))),
 q 0 (.g .h1 .ha false d28 (.op (.mv r1))),
 w (.g .h1 .ha false d29 (.call 151 [r27,r28])),
 q 0 (.g .h1 .ha false d30 (.op (.un .not r29))),
 q 0 (o d31 (.pick r26 (.c (.bool true)) r30)),
 q 0 (m d32 r31),
 q 0 (.g .h2 .h0 false d33 (.op (.mv r0))),
 q 0 (.g .h2 .h0 false d34 (.op (.dk r33))),
 q 0 (.g .h2 .h0 false d35 (.op (.ig 6 r34))),
 q 0 (.g .h2 .h0 false d36 (.op (.eU r35))),
 q 0 (.g .h2 .h0 false d37 (.op (.mv r1))),
 q 0 (.g .h2 .h0 false d38 (.op (.uZ (.one .i) i0 false r36 r37))),
 q 0 (.g .h2 .h0 false d39 (.op (.bin .gt r38 a0))),
 q 0 (o d40 (.pick r32 (.c (.bool true)) r39))]) (.ag k113_2 .skip)) (.ag k113_3 (.seq (.label 1) (.seq (.ag k113_4 (.cond r49 (.bad 0) .skip)) (.label 0))))))))
def f113 : AF := .mk x113 []
def k114_1 : KF := K5 y0 y5 y6 y7 y35 fun c i x h a b d e f=>
 I f (.ret (T104 (.bool false)) h) (.nm (T56 a b d e) h)
def k114_3 : KF := K6 y0 y5 y6 y7 y9 y45 fun c i x h a b d e f g=>
 I g (W f (pi 3) h fun j h=>
 .nm (T105 a b d e f) h) (.nm (T105 a b d e f) h)
def k114_4 : KF := K5 y0 y5 y6 y7 y9 fun c i x h a b d e f=>
 L f h fun g h=>
 C c 120 [a,(.bool true),g,(.fn 152 [b,d,f,e])] h fun j h=>
 x (T106 a b d e j) h
def k114_2 : KF := K4 y0 y5 y6 y7 fun c i x h a b d e=>
 O 3 1 (.k1 (Y1 i0)) h fun f h=>
 W f (pi 2) h fun g h=>
 x (T105 a b d e f) h
def k114_0 : KF := K4 y0 y1 y2 y3 fun c i x h a b d e=>
 B 108 b h fun f h=>
 B 3 d h fun g h=>
 B 9 e h fun j h=>
 x (T56 a f g j) h
def x114 : AC := (.ag k114_0 (.seq (.seq (.eH [q 0 (m d12 r0),
 qj 0 d13 r12,
 qf 0 d14 7 r13,
 ql 0 d15 r14,
 w (oc d16 93 [r15]),
 q 1 (o d11 (.ja 2 r5)),
 w (oc d17 119 [r11,r16]),
 q 0 (m d18 r17),
 q 0 (.g .h1 .h2 false d19 (.op (.ja 2 r5))),
 q 0 (.g .h1 .h2 false d20 (.op (.build [i0,i0] []))),
 q 0 (.g .h1 .h2 false d21 (.op (.bin (.Oq [.i,.i]) r19 r20))),
 q 0 (o d22 (.pick r18 (.c (.bool true)) r21)),
 q 0 (m d23 r22),
 q 0 (.g .h1 .h7 false d24 (.op (.eU r6))),
 q 0 (.g .h1 .h7 false d25 (.op (.mv r0))),
 q 0 (.g .h1 .h7 false d26 (.op (.dk r25))),
 q 0 (.g .h1 .h7 false d27 (.op (.ig 13 r26))),
 q 0 (.g .h1 .h7 false d28 (.op (.ig 0 r27))),
 q 0 (.g .h1 .h7 false d29 (.op (.eU r28))),
 q 0 (.g .h1 .h7 false d30 (.op (.bin .lt r24 r29))),
 q 0 (o d31 (.pick r23 (.c (.bool true)) r30)),
 q 0 (m d32 r31),
 q 0 (.g .h2 .h0 false d33 (.op (.eU r6))),
 q 0 (.g .h2 .h0 false d34 (.op (.bin .ge r33 (.c (pi 1048576))))),
 q 0 (o d35 (.pick r32 (.c (.bool true)) r34))]) (.ag k114_1 .skip)) (.ag k114_2 (.seq (.seq (.eH [q 0 (m d36 r0),
 ql 0 d37 r6,
 w (oc d38 95 [r36,r37]),
 q 0 (m d39 r38),
 q 0 (.g .h2 .h7 true d40 (.op (.mv r0))),
 q 0 (.g .h2 .h7 true d41 (.op (.eU r6))),
 w (.g .h2 .h7 true d42 (.call 80 [r40,r41])),
 q 1 (.g .h2 .h7 true d43 (.op (.eU r7))),
 q 0 (.g .h2 .h7 true d44 (.op (.bin .seq r42 r43))),
 q 0 (o d45 (.pick r39 r44 (.c (.bool false))))]) (.ag k114_3 .skip)) (.ag k114_4 (.seq (.eH [q 0 (m d50 r10),
 q 0 (m d51 r50),
 q 0 (.g .h3 .h3 true d52 (.op (.mv r0))),
 q 0 (.g .h3 .h3 true d53 (.op (.dk r52))),
 q 0 (.g .h3 .h3 true d54 (.op (.ig 7 r53))),
 q 0 (.g .h3 .h3 true d55 (.op (.eU r54))),
 q 0 (.g .h3 .h3 true d56 (.op (.ja 2 r5))),
 q 0 (.g .h3 .h3 true d57 (.op (.eU r6))),
 q 0 (.g .h3 .h3 true d58 (.op (.eU r7))),
 w (.g .h3 .h3 true d59 (.call 153 [r55,r56,r57,r58])),
 q 0 (o d60 (.pick r51 r59 (.c (.bool false)))),
 q 0 (m d8 r60)]) .ret))))))
def f114 : AF := .mk x114 [.t .h0 .h8]
def k115_0 : KF := K3 y0 y1 y2 fun c i x h a b d=>
 M 2 b h fun e h=>
 C c 90 [a,e] h fun f h=>
 L d h fun g h=>
 C c 71 [a,g] h fun j h=>
 .nm T27 h
def x115 : AC := (.ag k115_0 .skip)
def f115 : AF := .mk x115 []
def k116_1 : KF := K4 y0 y1 y9 y31 fun c i x h a b d e=>
 I e (.ret (T104 (.bool false)) h) (.nm (T107 a b d) h)
def k116_2 : KF := K3 y0 y1 y9 fun c i x h a b d=>
 J d h fun e h=>
 A 1 e h fun f h=>
 L f h fun g h=>
 tR (yj (.one .i) g b i1 h) fun j h=>
 J d h fun k h=>
 A 1 k h fun l h=>
 L l h fun m h=>
 tR (TR m h) fun n h=>
 C c 154 [a,n] h fun o h=>
 .ret (T104 o) h
def k116_0 : KF := K4 y0 y1 y2 y3 fun c i x h a b d e=>
 B 108 d h fun f h=>
 J a h fun g h=>
 A 8 g h fun j h=>
 L j h fun k h=>
 tR (uZ (.one .i) .da false k e h) fun l h=>
 x (T84 a b f l) h
def x116 : AC := (.ag k116_0 (.seq (.seq (.eH [q 0 (o d16 (.ja 2 r6)),
 q 0 (m d17 r0),
 qj 0 d18 r17,
 qf 0 d19 3 r18,
 q 0 (o d20 (.ja 2 r19)),
 q 0 (o d21 (.bin (.QP [.i,.i]) r16 r20)),
 q 0 (m d22 r21),
 q 0 (.g .h1 .h6 false d23 (.op (.mv r0))),
 q 0 (.g .h1 .h6 false d24 (.op (.mv r1))),
 w (.g .h1 .h6 false d25 (.call 151 [r23,r24])),
 q 0 (.g .h1 .h6 false d26 (.op (.un .not r25))),
 q 0 (o d27 (.pick r22 (.c (.bool true)) r26)),
 q 0 (m d28 r27),
 q 0 (.g .h1 .hc false d29 (.op (.mv r9))),
 q 0 (.g .h1 .hc false d30 (.op (.bin .oP r29 (.c .da)))),
 q 0 (o d31 (.pick r28 (.c (.bool true)) r30))]) (.ag k116_1 .skip)) (.ag k116_2 .skip)))
def f116 : AF := .mk x116 [.t .h0 .h8]
def k117_1 : KF := K4 y0 y1 y2 y25 fun c i x h a b d e=>
 I e (.ret (T65 iS (.bool false)) h) (.nm (T45 a b d) h)
def k117_4 : KF := K3 y0 y1 y2 fun c i x h a b d=>
 J a h fun e h=>
 A 8 e h fun f h=>
 L f h fun g h=>
 tR (KB h) fun j h=>
 U [iS,.db] [.mk 0 1 (.c d),.mk 1 1 (.c j)] h fun k h=>
 B 199 k h fun l h=>
 tR (yj (.one .i) g b l h) fun m h=>
 .ret (T65 d (.bool true)) h
def k117_3 : KF := K3 y0 y1 y2 fun c i x h a b d=>
 J a h fun e h=>
 A 7 e h fun f h=>
 L f h fun g h=>
 tR (uZ (.one .i) (.agg [i0,i0,i0,iS]) true g b h) fun j h=>
 E 0 j h fun k h=>
 E 1 j h fun l h=>
 O 117 4 (.k1 (Y4 i0 i0 i0 iS)) h fun m h=>
 S 4 m k h fun n h=>
 I l (A 3 m h fun o h=>
 L o h fun p h=>
 x (T45 a b p) h) (x (T45 a b d) h)
def k117_2 : KF := K3 y0 y1 y2 fun c i x h a b d=>
 J a h fun e h=>
 A 8 e h fun f h=>
 L f h fun g h=>
 tR (uZ (.one .i) .da false g b h) fun j h=>
 tR (bK .SM j .da h) fun k h=>
 I k (J j h fun l h=>
 A 0 l h fun m h=>
 L m h fun n h=>
 .ret (T65 n (.bool true)) h) (x (T45 a b d) h)
def k117_0 : KF := K3 y0 y1 y2 fun c i x h a b d=>
 x (T45 a b d) h
def x117 : AC := (.ag k117_0 (.seq (.seq (.ops [m d11 r0,
 oc d12 155 [r11],
 o d13 (.un .not r12),
 m d14 r13,
 .g .h0 .he false d15 (.op (.mv r1)),
 .g .h0 .he false d16 (.op (.mv r0)),
 .g .h0 .he false d17 (.op (.dk r16)),
 .g .h0 .he false d18 (.op (.ig 5 r17)),
 .g .h0 .he false d19 (.op (.eU r18)),
 .g .h0 .he false d20 (.op (.bin .lt r15 r19)),
 o d21 (.pick r14 (.c (.bool true)) r20),
 m d22 r21,
 .g .h1 .h6 false d23 (.op (.mv r1)),
 .g .h1 .h6 false d24 (.op (.bin .ge r23 (.c (pi 1048576)))),
 o d25 (.pick r22 (.c (.bool true)) r24)]) (.ag k117_1 .skip)) (.ag k117_2 (.ag k117_3 (.ag k117_4 .skip)))))
def f117 : AF := .mk x117 [.t .h0 .h6,.t .h0 .h7]
def k118_2 : KF := K4 y0 y4 y5 y26 fun c i x h a b d e=>
 I e (.ret T27 h) (.nm (T50 a b d) h)
def k118_1 : KF := K3 y0 y4 y5 fun c i x h a b d=>
 tQ (nC a h) fun e=>
 tQ (fA 9 e h) fun f=>
 tQ (lD f h) fun g=>
 tQ (lD b h) fun j=>
 tX (c 76 [g,j] h) fun k h=>
 tQ (ext 0 k h) fun l=>
 tQ (ext 1 k h) fun m=>
 x (T108 a b d m) h
def k118_3 : KF := K3 y0 y4 y5 fun c i x h a b d=>
 L b h fun e h=>
 L d h fun f h=>
 C c 64 [a,e,f] h fun g h=>
 C c 69 [a,(pi 6),(.fn 156 [b,d])] h fun j h=>
 .nm T27 h
def k118_0 : KF := K3 y0 y1 y2 fun c i x h a b d=>
 B 3 b h fun e h=>
 B 9 d h fun f h=>
 x (T50 a e f) h
def x118 : AC := (.ag k118_0 (.seq (.ag k118_1 (.seq (.eH [q 0 (m d17 r7),
 q 0 (m d18 r17),
 q 0 (.g .h1 .h2 false d20 (.op (.mv r0))),
 q 0 (.g .h1 .h2 false d21 (.op (.dk r20))),
 q 0 (.g .h1 .h2 false d22 (.op (.ig 9 r21))),
 q 0 (.g .h1 .h2 false d23 (.op (.eU r22))),
 w (.g .h1 .h2 false d24 (.call 73 [r23])),
 q 1 (.g .h1 .h2 false d19 (.op (.eU r4))),
 q 0 (.g .h1 .h2 false d25 (.op (.bin .lt r19 r24))),
 q 0 (o d26 (.pick r18 (.c (.bool true)) r25))]) (.ag k118_2 .skip))) (.ag k118_3 .skip)))
def f118 : AF := .mk x118 []
def k120_2 : KF := K2 y0 y1 fun c i x h a b=>
 I b (J a h fun d h=>
 A 2 d h fun e h=>
 L e h fun f h=>
 C c 159 [f] h fun g h=>
 .ret (T104 (.bool true)) h) (.ret (T104 (.bool true)) h)
def k120_1 : KF := K3 y0 y1 y9 fun c i x h a b d=>
 J a h fun e h=>
 A 2 e h fun f h=>
 L f h fun g h=>
 C c 158 [g,d] h fun j h=>
 tR (gF j i0 h) fun k h=>
 I k (.ret (T104 (.bool false)) h) (J a h fun l h=>
 A 5 l h fun m h=>
 L m h fun n h=>
 G d h fun o h=>
 D n o h fun p h=>
 J a h fun q h=>
 A 5 q h fun s h=>
 W s p h fun t h=>
 x (T11 a b) h)
def k120_0 : KF := K4 y0 y1 y2 y3 fun c i x h a b d e=>
 C c 85 [d,e] h fun f h=>
 J a h fun g h=>
 A 5 g h fun j h=>
 L j h fun k h=>
 G f h fun l h=>
 D k l h fun m h=>
 tR (fj m (pi 2097152) h) fun n h=>
 I n (C c 50 [a] h fun o h=>
 x (T107 a b f) h) (x (T107 a b f) h)
def x120 : AC := (.ag k120_0 (.ag k120_1 (.ag k120_2 .skip)))
def f120 : AF := .mk x120 [.t .h0 .h8]
def k121_0 : KF := K4 y0 y1 y2 y3 fun c i x h a b d e=>
 L b h fun f h=>
 C c 71 [a,f] h fun g h=>
 L d h fun j h=>
 Q j (pi 4) h fun k h=>
 I k (L e h fun l h=>
 C c 91 [a,l] h fun m h=>
 .nm T27 h) (.nm T27 h)
def x121 : AC := (.ag k121_0 .skip)
def f121 : AF := .mk x121 []
def k124_2 : KF := K2 y4 y7 fun c i x h a b=>
 M 6 b h fun d h=>
 S 6 a d h fun e h=>
 .ret (T20 a (.bool true)) h
def k124_1 : KF := K3 y0 y4 y6 fun c i x h a b d=>
 J a h fun e h=>
 A 17 e h fun f h=>
 L f h fun g h=>
 X 6 g d h fun j h=>
 M 6 j h fun k h=>
 O 106 6 (.k1 (Y6 i0 i0 i0 (.bool false) iS i0)) h fun l h=>
 S 6 l k h fun m h=>
 J a h fun n h=>
 A 17 n h fun o h=>
 L o h fun p h=>
 C c 163 [p] h fun q h=>
 D d i1 h fun s h=>
 C c 162 [q,d,s] h fun t h=>
 J a h fun v h=>
 A 17 v h fun w h=>
 W w t h fun y h=>
 x (T110 b l) h
def k124_0 : KF := K2 y0 y1 fun c i x h a b=>
 B 104 b h fun d h=>
 O 106 6 (.k1 (Y6 i0 i0 i0 (.bool false) iS i0)) h fun e h=>
 J a h fun f h=>
 A 17 f h fun g h=>
 L g h fun j h=>
 C c 160 [j,(.fn 161 [d])] h fun k h=>
 Y k i0 h fun l h=>
 I l (U [i0,i0,i0,(.bool false),iS,i0] [] h fun m h=>
 S 6 e m h fun n h=>
 .ret (T20 e (.bool false)) h) (x (T109 a e k) h)
def x124 : AC := (.ag k124_0 (.ag k124_1 (.ag k124_2 .skip)))
def f124 : AF := .mk x124 [.agg 6 .h0 .h4,.t .h0 .h5]
def k125_0 : KF := K1 y0 fun c i x h a=>
 O 104 3 (.k1 (Y3 i0 i0 i0)) h fun b h=>
 C c 61 [a] h fun d h=>
 U [i0,i0,i0] [.mk 0 1 (.c d)] h fun e h=>
 O 104 3 (.k1 (Y3 i0 i0 i0)) h fun f h=>
 S 3 f e h fun g h=>
 C c 61 [a] h fun j h=>
 A 1 f h fun k h=>
 W k j h fun l h=>
 C c 61 [a] h fun m h=>
 A 2 f h fun n h=>
 W n m h fun o h=>
 M 3 f h fun p h=>
 S 3 b p h fun q h=>
 .ret (T29 b) h
def x125 : AC := (.ag k125_0 .skip)
def f125 : AF := .mk x125 [.agg 3 .h0 .h2]
def k127_2 : KF := K4 y1 y3 y11 y13 fun c i x h a b d e=>
 I e (tR (oU (.c d) .nil h) fun f h=>
 E 0 f h fun g h=>
 tR (yj (.one .i) b g i1 h) fun j h=>
 .nm (T111 a b d) h) (.ex 0 (T111 a b d) h)
def k127_1 : KF := K2 y1 y3 fun c i x h a b=>
 L a h fun d h=>
 J d h fun e h=>
 A 7 e h fun f h=>
 L f h fun g h=>
 tR (jZ (.c g) .nil h) fun j h=>
 x (T111 a b j) h
def k127_4 : KF := K4 y1 y3 y22 y24 fun c i x h a b d e=>
 I e (tR (oU (.c d) .nil h) fun f h=>
 E 0 f h fun g h=>
 tR (yj (.one .i) b g i1 h) fun j h=>
 .nm (T112 a b d) h) (.ex 2 (T112 a b d) h)
def k127_3 : KF := K2 y1 y3 fun c i x h a b=>
 L a h fun d h=>
 J d h fun e h=>
 A 8 e h fun f h=>
 L f h fun g h=>
 tR (jZ (.c g) .nil h) fun j h=>
 x (T112 a b j) h
def k127_5 : KF := K2 y1 y3 fun c i x h a b=>
 C c 166 [b] h fun d h=>
 C c 165 [d] h fun e h=>
 C c 164 [e,(.fn 167 [a])] h fun f h=>
 .ret (T29 f) h
def k127_0 : KF := K1 y0 fun c i x h a=>
 B 72 a h fun b h=>
 tR (KB h) fun d h=>
 x (T73 b d) h
def x127 : AC := (.ag k127_0 (.seq (.ag k127_1 (.block 0 (.loop (.seq (.ops [.o d12 (.yk false r11),
 oe d13 0 r12]) (.ag k127_2 .skip))))) (.seq (.ag k127_3 (.block 2 (.loop (.seq (.ops [.o d23 (.yk false r22),
 oe d24 0 r23]) (.ag k127_4 .skip))))) (.ag k127_5 .skip))))
def f127 : AF := .Nq x127 [.t .h0 .h2]
def k128_0 : KF := K4 y0 y1 y2 y3 fun c i x h a b d e=>
 B 108 b h fun f h=>
 B 3 d h fun g h=>
 B 9 e h fun j h=>
 C c 69 [a,(pi 3),(.fn 168 [f,g,j])] h fun k h=>
 .nm T27 h
def x128 : AC := (.ag k128_0 .skip)
def f128 : AF := .mk x128 []
def k133_0 : KF := K2 y0 y1 fun c i x h a b=>
 O 117 4 (.k1 (Y4 i0 i0 i0 iS)) h fun d h=>
 J a h fun e h=>
 A 2 e h fun f h=>
 L f h fun g h=>
 tR (uZ (.one .i) (.agg [i0,i0,i0,iS]) true g b h) fun j h=>
 E 0 j h fun k h=>
 E 1 j h fun l h=>
 O 117 4 (.k1 (Y4 i0 i0 i0 iS)) h fun m h=>
 S 4 m k h fun n h=>
 M 4 m h fun o h=>
 S 4 d o h fun p h=>
 .ret (T20 d l) h
def x133 : AC := (.ag k133_0 .skip)
def f133 : AF := .mk x133 [.agg 4 .h0 .h4,.t .h0 .h5]
def k135_2 : KF := K4 y0 y1 y2 y30 fun c i x h a b d e=>
 I e (.ret (T12 (.bool false)) h) (.nm (T45 a b d) h)
def k135_1 : KF := K3 y0 y1 y2 fun c i x h a b d=>
 J a h fun e h=>
 A 0 e h fun f h=>
 L f h fun g h=>
 tR (uZ (.one .i) iS true g b h) fun j h=>
 E 0 j h fun k h=>
 E 1 j h fun l h=>
 x (T113 a b d l) h
def k135_3 : KF := K3 y0 y1 y2 fun c i x h a b d=>
 J a h fun e h=>
 A 0 e h fun f h=>
 L f h fun g h=>
 tR (yj (.one .i) g b d h) fun j h=>
 .ret (T12 (.bool true)) h
def k135_0 : KF := K3 y0 y1 y2 fun c i x h a b d=>
 x (T45 a b d) h
def x135 : AC := (.ag k135_0 (.seq (.ag k135_1 (.seq (.ops [m d18 r8,
 m d19 r18,
 .g .h1 .h3 false d20 (.op (.mv r1)),
 .g .h1 .h3 false d21 (.op (.mv r0)),
 .g .h1 .h3 false d22 (.op (.dk r21)),
 .g .h1 .h3 false d23 (.op (.ig 1 r22)),
 .g .h1 .h3 false d24 (.op (.eU r23)),
 .g .h1 .h3 false d25 (.op (.bin .lt r20 r24)),
 o d26 (.pick r19 (.c (.bool true)) r25),
 m d27 r26,
 .g .h1 .hb false d28 (.op (.mv r1)),
 .g .h1 .hb false d29 (.op (.bin .ge r28 (.c (pi 1048576)))),
 o d30 (.pick r27 (.c (.bool true)) r29)]) (.ag k135_2 .skip))) (.ag k135_3 .skip)))
def f135 : AF := .mk x135 [.t .h0 .h6]
def k144_0 : KF := K2 y0 y1 fun c i x h a b=>
 B 104 b h fun d h=>
 A 0 d h fun e h=>
 L e h fun f h=>
 C c 71 [a,f] h fun g h=>
 A 1 d h fun j h=>
 L j h fun k h=>
 C c 71 [a,k] h fun l h=>
 A 2 d h fun m h=>
 L m h fun n h=>
 C c 71 [a,n] h fun o h=>
 .nm T27 h
def x144 : AC := (.ag k144_0 .skip)
def f144 : AF := .mk x144 []
def k147_0 : KF := K1 y0 fun c i x h a=>
 O 104 3 (.k1 (Y3 i0 i0 i0)) h fun b h=>
 tR (cK (.SO 5) a h) fun d h=>
 C c 49 [d] h fun e h=>
 C c 125 [e] h fun f h=>
 O 104 3 (.k1 (Y3 i0 i0 i0)) h fun g h=>
 S 3 g f h fun j h=>
 C c 54 [e] h fun k h=>
 Q k i1 h fun l h=>
 x (T114 a b e g l) h
def x147 : AC := (.ag k147_0 (.seq (.eH [q 0 (m d21 r5),
 w (oc d22 180 [r21]),
 q 1 (o d16 (.ja 3 r6)),
 w (o .no (.CS 3 r2 r16)),
 q 2 (m d17 r7),
 q 2 (m d18 r0),
 q 2 (m d19 r0),
 q 2 (o d20 (.lx r19)),
 q 1 (o d23 (.bin .sub r20 r22)),
 q 1 (o d24 (.Gp r18 (.some r23) .none)),
 q 0 (m d3 r17),
 q 0 (m d4 r24)]) .ret))
def f147 : AF := .mk x147 [.agg 3 .h0 .h2,.t .h0 .h3,.t .h0 .h4]
def k149_0 : KF := K2 y0 y1 fun c i x h a b=>
 M 2 b h fun d h=>
 C c 90 [a,d] h fun e h=>
 .nm T27 h
def x149 : AC := (.ag k149_0 .skip)
def f149 : AF := .mk x149 []
def k151_0 : KF := K2 y0 y1 fun c i x h a b=>
 x (T11 a b) h
def x151 : AC := (.ag k151_0 (.seq (.ops [m d5 r1,
 o d6 (.bin .ge r5 a0),
 m d7 r6,
 .g .h0 .h7 true d8 (.op (.mv r1)),
 .g .h0 .h7 true d9 (.op (.mv r0)),
 .g .h0 .h7 true d10 (.op (.dk r9)),
 .g .h0 .h7 true d11 (.op (.ig 1 r10)),
 .g .h0 .h7 true d12 (.op (.eU r11)),
 .g .h0 .h7 true d13 (.op (.bin .lt r8 r12)),
 o d14 (.pick r7 r13 (.c (.bool false))),
 m d4 r14]) .ret))
def f151 : AF := .mk x151 [.t .h0 .h4]
def k152_0 : KF := K5 y0 y1 y2 y3 y4 fun c i x h a b d e f=>
 M 2 b h fun g h=>
 C c 90 [a,g] h fun j h=>
 L d h fun k h=>
 C c 71 [a,k] h fun l h=>
 L e h fun m h=>
 Q m (pi 2) h fun n h=>
 I n (L f h fun o h=>
 C c 91 [a,o] h fun p h=>
 .nm T27 h) (.nm T27 h)
def x152 : AC := (.ag k152_0 .skip)
def f152 : AF := .mk x152 []
def k153_1 : KF := K5 y0 y2 y3 y5 y27 fun c i x h a b d e f=>
 I f (.ret (T104 (.bool false)) h) (.nm (T115 a b d e) h)
def k153_3 : KF := K2 y0 y2 fun c i x h a b=>
 J a h fun d h=>
 A 3 d h fun e h=>
 L e h fun f h=>
 D b i1 h fun g h=>
 tR (fW false [f,g] h) fun j h=>
 J a h fun k h=>
 A 3 k h fun l h=>
 W l j h fun m h=>
 .ret (T104 (.bool true)) h
def k153_2 : KF := K4 y0 y2 y3 y5 fun c i x h a b d e=>
 M 2 e h fun f h=>
 J a h fun g h=>
 A 0 g h fun j h=>
 S 2 j f h fun k h=>
 tQ (nC a h) fun l=>
 tQ (fA 2 l h) fun m=>
 tQ (lD m h) fun n=>
 tQ (ja 2 e h) fun o=>
 tQ (bl [i0,i0,i0,iS] [.mk 0 1 (.c b),.mk 1 2 (.c o),.mk 3 1 (.c d)] h) fun p=>
 tX (RV.iU (yj (.one .i) n b p h)) fun q h=>
 x (T78 a b) h
def k153_0 : KF := K4 y0 y1 y2 y3 fun c i x h a b d e=>
 B 108 b h fun f h=>
 x (T115 a d e f) h
def x153 : AC := (.ag k153_0 (.seq (.seq (.eH [q 0 (o d9 (.ja 2 r5)),
 q 0 (m d10 r0),
 qj 0 d11 r10,
 qf 0 d12 0 r11,
 q 0 (o d13 (.ja 2 r12)),
 w (oc d14 119 [r9,r13]),
 q 0 (m d15 r14),
 q 0 (.g .h0 .hf false d16 (.op (.ja 2 r5))),
 q 0 (.g .h0 .hf false d17 (.op (.build [i0,i0] []))),
 q 0 (.g .h0 .hf false d18 (.op (.bin (.Oq [.i,.i]) r16 r17))),
 q 0 (o d19 (.pick r15 (.c (.bool true)) r18)),
 q 0 (m d20 r19),
 q 0 (.g .h1 .h4 false d21 (.op (.mv r2))),
 q 0 (.g .h1 .h4 false d22 (.op (.bin .lt r21 a0))),
 q 0 (o d23 (.pick r20 (.c (.bool true)) r22)),
 q 0 (m d24 r23),
 q 0 (.g .h1 .h8 false d25 (.op (.mv r2))),
 q 0 (.g .h1 .h8 false d26 (.op (.bin .ge r25 (.c (pi 1048576))))),
 q 0 (o d27 (.pick r24 (.c (.bool true)) r26))]) (.ag k153_1 .skip)) (.ag k153_2 (.ag k153_3 .skip))))
def f153 : AF := .mk x153 [.t .h0 .h8]
def k154_0 : KF := K2 y0 y1 fun c i x h a b=>
 tR (vz (pi 2) b h) fun d h=>
 J a h fun e h=>
 A 1 e h fun f h=>
 L f h fun g h=>
 tR (fj d g h) fun j h=>
 .ret (T1 j) h
def x154 : AC := (.ag k154_0 .skip)
def f154 : AF := .mk x154 [.t .h0 .h4]
def k155_0 : KF := K1 y0 fun c i x h a=>
 J a h fun b h=>
 A 6 b h fun d h=>
 L d h fun e h=>
 tR (TR e h) fun f h=>
 C c 154 [a,f] h fun g h=>
 .ret (T29 g) h
def x155 : AC := (.ag k155_0 .skip)
def f155 : AF := .mk x155 [.t .h0 .h2]
def k156_0 : KF := K3 y0 y1 y2 fun c i x h a b d=>
 L b h fun e h=>
 L d h fun f h=>
 U [i0,i0,i0,iS] [.mk 0 1 (.c e),.mk 3 1 (.c f)] h fun g h=>
 tR (bs 117 4 1 [i0,i0,i0,iS] [.mk 0 4 (.c g)] h) fun j h=>
 C c 110 [a,j] h fun k h=>
 .nm T27 h
def x156 : AC := (.ag k156_0 .skip)
def f156 : AF := .mk x156 []
def k158_0 : KF := K2 y0 y1 fun c i x h a b=>
 G b h fun d h=>
 J a h fun e h=>
 A 0 e h fun f h=>
 L f h fun g h=>
 G g h fun j h=>
 Z (pi 4194304) j h fun k h=>
 tR (fj d k h) fun l h=>
 I l (.ret (T1 (pi 13)) h) (J a h fun m h=>
 A 0 m h fun n h=>
 L n h fun o h=>
 tR (eJ 5 1 o b h) fun p h=>
 J a h fun q h=>
 A 0 q h fun s h=>
 W s p h fun t h=>
 x (T1 i0) h)
def x158 : AC := (.ag k158_0 .ret)
def f158 : AF := .mk x158 [.t .h0 .h4]
def k159_0 : KF := K1 y0 fun c i x h a=>
 J a h fun b h=>
 A 0 b h fun d h=>
 L d h fun e h=>
 G e h fun f h=>
 J a h fun g h=>
 A 1 g h fun j h=>
 W j f h fun k h=>
 .nm T27 h
def x159 : AC := (.ag k159_0 .skip)
def f159 : AF := .mk x159 []
def k160_2 : KF := K4 y0 y1 y7 y8 fun c i x h a b d e=>
 Y e d h fun f h=>
 I f (X 6 a e h fun g h=>
 M 6 g h fun j h=>
 tT (cd c b [j] h) fun k h=>
 I k (.ret (T1 e) h) (D e i1 h fun l h=>
 .nm (T116 a b d l) h)) (.ex 0 (T116 a b d e) h)
def k160_1 : KF := K2 y0 y1 fun c i x h a b=>
 G a h fun d h=>
 x (T116 a b d i0) h
def k160_3 : KF := fun c i x r h=>
 .ret (T1 (ni 0)) h
def k160_0 : KF := K2 y0 y1 fun c i x h a b=>
 x (T11 a b) h
def x160 : AC := (.ag k160_0 (.seq (.ag k160_1 (.block 0 (.loop (.ag k160_2 .skip)))) (.ag k160_3 .skip)))
def f160 : AF := .mk x160 [.t .h0 .h4]
def k161_0 : KF := K2 y0 y1 fun c i x h a b=>
 B 106 a h fun d h=>
 A 0 d h fun e h=>
 M 3 e h fun f h=>
 M 3 b h fun g h=>
 tR (bK (.Oq [.i,.i,.i]) f g h) fun j h=>
 .ret (T66 j) h
def x161 : AC := (.ag k161_0 .skip)
def f161 : AF := .mk x161 [.t .h0 .h3]
def k162_1 : KF := K4 y0 y1 y2 y7 fun c i x h a b d e=>
 tQ (cY 6 (.c a) .none (.some (.c b)) .none .nil h) fun f=>
 tQ (cY 6 (.c a) (.some (.c d)) .none .none .nil h) fun g=>
 tX (RV.iU (eJ 106 6 f g h)) fun j h=>
 G j h fun k h=>
 tR (cY 6 (.c j) (.some (.c k)) (.some (.c e)) .none .nil h) fun l h=>
 tR (nB [i0,i0,i0,(.bool false),iS,i0] (.c l) .nil h) fun m h=>
 .ret (T12 j) h
def k162_0 : KF := K3 y0 y1 y2 fun c i x h a b d=>
 G a h fun e h=>
 tR (cY 6 (.c a) (.some (.c b)) (.some (.c d)) (.some (.c e)) .nil h) fun f h=>
 Q b d h fun g h=>
 I g (.ret (T12 a) h) (G a h fun j h=>
 x (T35 a b d j) h)
def x162 : AC := (.ag k162_0 (.ag k162_1 .skip))
def f162 : AF := .mk x162 [.t .h0 .h6]
def k163_0 : KF := K1 y0 fun c i x h a=>
 tR (bK (.gE .s) a .al h) fun b h=>
 I b (.ret (T29 .al) h) (tR (bs 106 6 0 [] [] h) fun d h=>
 tR (eJ 106 6 d a h) fun e h=>
 .ret (T29 e) h)
def x163 : AC := (.ag k163_0 .skip)
def f163 : AF := .mk x163 [.t .h0 .h2]
def k164_3 : KF := K4 y0 y1 y5 y6 fun c i x h a b d e=>
 D e i1 h fun f h=>
 .nm (T0 a b d f) h
def k164_2 : KF := K4 y0 y1 y5 y6 fun c i x h a b d e=>
 G a h fun f h=>
 Y e f h fun g h=>
 I g (X 1 a e h fun j h=>
 L j h fun k h=>
 tT (cd c b [k] h) fun l h=>
 tR (eS l h) fun m h=>
 I m (X 1 a d h fun n h=>
 W n k h fun o h=>
 D d i1 h fun p h=>
 x (T0 a b p e) h) (x (T0 a b d e) h)) (.ex 0 (T4 a d) h)
def k164_1 : KF := K3 y0 y1 y5 fun c i x h a b d=>
 D d i1 h fun e h=>
 x (T0 a b d e) h
def k164_4 : KF := K2 y0 y5 fun c i x h a b=>
 tR (cY 1 (.c a) (.some (.c b)) .none .none .nil h) fun d h=>
 tR (nB [i0] (.c d) .nil h) fun e h=>
 tR (cY 1 (.c a) .none (.some (.c b)) .none .nil h) fun f h=>
 .ret (T1 f) h
def k164_0 : KF := K2 y0 y1 fun c i x h a b=>
 C c 183 [a,b] h fun d h=>
 Q d (ni 0) h fun e h=>
 I e (.ret (T1 a) h) (x (T2 a b d) h)
def x164 : AC := (.ag k164_0 (.seq (.ag k164_1 (.block 0 (.loop (.ag k164_2 (.ag k164_3 .skip))))) (.ag k164_4 .skip)))
def f164 : AF := .mk x164 [.t .h0 .h4]
def k165_0 : KF := K1 y0 fun c i x h a=>
 C c 184 [a] h fun b h=>
 C c 185 [b] h fun d h=>
 .ret (T29 b) h
def x165 : AC := (.ag k165_0 .skip)
def f165 : AF := .mk x165 [.t .h0 .h2]
def k166_0 : KF := K1 y0 fun c i x h a=>
 B 79 a h fun b h=>
 .ret (T29 (.fn 186 [b])) h
def x166 : AC := (.ag k166_0 .skip)
def f166 : AF := .mk x166 [.t .h0 .h2]
def k168_0 : KF := K4 y0 y1 y2 y3 fun c i x h a b d e=>
 M 2 b h fun f h=>
 C c 90 [a,f] h fun g h=>
 L d h fun j h=>
 C c 71 [a,j] h fun k h=>
 L e h fun l h=>
 C c 91 [a,l] h fun m h=>
 .nm T27 h
def x168 : AC := (.ag k168_0 .skip)
def f168 : AF := .mk x168 []
def k173_4 : KF := K5 y3 y7 y8 y9 y17 fun c i x h a b d e f=>
 Y f (pi 8) h fun g h=>
 I g (tR (sL a (.int .u32 (.ofNat 1)) h) fun j h=>
 tR (bK .shr a (.int .u64 (.ofNat 1)) h) fun k h=>
 Q j (.int .u32 (.ofNat 1)) h fun l h=>
 I l (tR (nv k (.int .u32 (.ofNat 3988292384)) h) fun m h=>
 D f i1 h fun n h=>
 .nm (T118 m b d e n) h) (D f i1 h fun m h=>
 .nm (T118 k b d e m) h)) (.ex 2 (T118 a b d e f) h)
def k173_3 : KF := K4 y3 y7 y8 y9 fun c i x h a b d e=>
 X 1 b e h fun f h=>
 L f h fun g h=>
 tR (cK (.toInt .u32) g h) fun j h=>
 tR (nv a j h) fun k h=>
 x (T118 k b d e i0) h
def k173_5 : KF := K4 y3 y7 y8 y9 fun c i x h a b d e=>
 D e i1 h fun f h=>
 .nm (T117 a b d f) h
def k173_2 : KF := K4 y3 y7 y8 y9 fun c i x h a b d e=>
 Y e d h fun f h=>
 I f (x (T117 a b d e) h) (.ex 0 (T66 a) h)
def k173_1 : KF := K2 y0 y3 fun c i x h a b=>
 G a h fun d h=>
 x (T117 b a d i0) h
def k173_6 : KF := K1 y3 fun c i x h a=>
 tR (sO a h) fun b h=>
 .ret (T29 b) h
def k173_0 : KF := K1 y0 fun c i x h a=>
 x (T15 a (.int .u32 (.ofNat 4294967295))) h
def p173 : PK := .Rf
def x173 : AC := (.ag k173_0 (.seq (.ag k173_1 (.block 0 (.loop (.ag k173_2 (.seq (.block 1 (.ag k173_3 (.block 2 (.loop (.ag k173_4 .skip))))) (.ag k173_5 .skip)))))) (.ag k173_6 .skip)))
def f173 : AF := .oV p173 x173 [.t .h0 .h2]
def k180_0 : KF := K1 y0 fun c i x h a=>
 J a h fun b h=>
 A 2 b h fun d h=>
 L d h fun e h=>
 tR (gF e i0 h) fun f h=>
 I f (.ret (T29 i0) h) (tQ (nC a h) fun g=>
 tQ (fA 0 g h) fun j=>
 tQ (lD j h) fun k=>
 tQ (len k h) fun l=>
 tQ (nC a h) fun m=>
 tQ (fA 1 m h) fun n=>
 tQ (lD n h) fun o=>
 tQ (hR l o h) fun p=>
 .ret (T29 p) h)
def x180 : AC := (.ag k180_0 .skip)
def f180 : AF := .mk x180 [.t .h0 .h2]
def k183_2 : KF := K4 y0 y1 y7 y8 fun c i x h a b d e=>
 Y e d h fun f h=>
 I f (X 1 a e h fun g h=>
 L g h fun j h=>
 tT (cd c b [j] h) fun k h=>
 I k (.ret (T1 e) h) (D e i1 h fun l h=>
 .nm (T116 a b d l) h)) (.ex 0 (T116 a b d e) h)
def k183_1 : KF := K2 y0 y1 fun c i x h a b=>
 G a h fun d h=>
 x (T116 a b d i0) h
def k183_3 : KF := fun c i x r h=>
 .ret (T1 (ni 0)) h
def k183_0 : KF := K2 y0 y1 fun c i x h a b=>
 x (T11 a b) h
def x183 : AC := (.ag k183_0 (.seq (.ag k183_1 (.block 0 (.loop (.ag k183_2 .skip)))) (.ag k183_3 .skip)))
def f183 : AF := .mk x183 [.t .h0 .h4]
def k184_0 : KF := K1 y0 fun c i x h a=>
 C c 191 [.al,a] h fun b h=>
 .ret (T29 b) h
def x184 : AC := (.ag k184_0 .skip)
def f184 : AF := .mk x184 [.t .h0 .h2]
def k185_0 : KF := K1 y0 fun c i x h a=>
 G a h fun b h=>
 tR (cK (.toInt .u64) b h) fun d h=>
 C c 189 [d] h fun e h=>
 C c 192 [a,i0,b,e] h fun f h=>
 .nm T27 h
def x185 : AC := (.ag k185_0 .skip)
def f185 : AF := .mk x185 []
def k189_0 : KF := K1 y0 fun c i x h a=>
 I (.bool false) (tR (cK (.toInt .u32) a h) fun b h=>
 C c 201 [b] h fun d h=>
 .ret (T29 d) h) (C c 202 [a] h fun b h=>
 .ret (T29 b) h)
def x189 : AC := (.ag k189_0 .skip)
def f189 : AF := .mk x189 [.t .h0 .h2]
def k190_0 : KF := K1 y0 fun c i x h a=>
 tR (gF a a h) fun b h=>
 .ret (T29 b) h
def x190 : AC := (.ag k190_0 .skip)
def f190 : AF := .mk x190 [.t .h0 .h2]
def k191_1 : KF := K1 y1 fun c i x h a=>
 x T27 h
def k191_2 : KF := K1 y2 fun c i x h a=>
 L a h fun b h=>
 .ret (T1 b) h
def k191_0 : KF := K2 y0 y1 fun c i x h a b=>
 B 176 a h fun d h=>
 x (T72 b) h
def p191_0 : List GI := [o d2 (.box 176 r0),m d4 (.c .al)]
def p191_1 : List GI := [m d6 r1]
def p191_2 : List GI := [ol d4 r1,o d5 (.Ea r4)]
def p191_3 : List GI := [.o d6 (.yk false r5),oe d7 0 r6]
def p191_4 : List GI := [o d8 (.QD r5),oe d9 0 r8,m d3 r9]
def p191_5 : List GI := [m d11 r3]
def p191_6 : List GI := [m d5 r7]
def p191_7 : List GI := [ol d8 r2,m d9 r5,o d10 (.dU 3 1 1 [i0] [.mk 0 1 r9]),o d11 (.app 3 1 r8 r10),os r2 r11]
def p191_8 : List GI := [ol d12 r2,m d4 r12]
def p191 : PK := (.Oy 186 p191_0 p191_1 p191_2 p191_3 p191_4 p191_5 p191_6 p191_7 p191_8)
def x191 : AC := (.ag k191_0 (.seq (.ag k191_1 (.block 0 (.bad 402))) (.ag k191_2 .skip)))
def f191 : AF := .oV p191 x191 [.t .h0 .h4]
def k192_4 : KF := K9 y0 y1 y2 y3 y8 y9 y10 y11 y68 fun c i x h a b d e f g j k l=>
 I l (C c 208 [a,b,d] h fun m h=>
 I m (.ret T27 h) (.nm (T122 a b d e f g j k) h)) (.nm (T122 a b d e f g j k) h)
def k192_5 : KF := K9 y0 y1 y2 y3 y8 y9 y10 y11 y87 fun c i x h a b d e f g j k l=>
 I l (C c 210 [a,b,d,k] h fun m h=>
 .ex 1 (T122 a m d e f g j k) h) (.nm (T122 a b d e f g j k) h)
def k192_8 : KF := K10 y0 y1 y2 y3 y9 y14 y16 y17 y18 y113 fun c i x h a b d e f g j k l m=>
 I m (tR (kY j l h) fun n h=>
 C c 192 [a,b,g,e] h fun o h=>
 D g i1 h fun p h=>
 .nm (T119 a p d e n f) h) (tR (kY k l h) fun n h=>
 D g i1 h fun o h=>
 C c 192 [a,o,d,e] h fun p h=>
 .nm (T119 a b g e n f) h)
def k192_7 : KF := K9 y0 y1 y2 y3 y9 y14 y16 y17 y18 fun c i x h a b d e f g j k l=>
 Y j k h fun m h=>
 x (T124 a b d e f g j k l m) h
def k192_6 : KF := K6 y0 y1 y2 y3 y10 y11 fun c i x h a b d e f g=>
 C c 211 [a,b,d,g] h fun j h=>
 E 0 j h fun k h=>
 E 1 j h fun l h=>
 Z k b h fun m h=>
 Z d k h fun n h=>
 tR (FU f (pi 8) h) fun o h=>
 x (T123 a b d e l k m n o) h
def k192_3 : KF := K7 y0 y1 y2 y3 y8 y9 y10 fun c i x h a b d e f g j=>
 C c 206 [a,b,d] h fun k h=>
 E 0 k h fun l h=>
 E 1 k h fun m h=>
 Q m (pi 2) h fun n h=>
 I n (C c 207 [a,b,d] h fun o h=>
 Z d i1 h fun p h=>
 Z l b h fun q h=>
 Z p q h fun s h=>
 x (T121 a b d e f g j s i1) h) (x (T121 a b d e f g j l m) h)
def k192_2 : KF := K7 y0 y1 y2 y3 y8 y9 y10 fun c i x h a b d e f g j=>
 tR (eS f h) fun k h=>
 I k (C c 205 [a,b,d] h fun l h=>
 Z e i1 h fun m h=>
 x (T120 a b d m f g j) h) (x (T120 a b d e f g j) h)
def k192_1 : KF := K6 y0 y1 y2 y3 y8 y9 fun c i x h a b d e f g=>
 Z d b h fun j h=>
 tR (KN j (pi 12) h) fun k h=>
 I k (C c 203 [a,b,d] h fun l h=>
 .ret T27 h) (Q e i0 h fun l h=>
 I l (C c 204 [a,b,d] h fun m h=>
 .ret T27 h) (x (T120 a b d e f g j) h))
def k192_0 : KF := K4 y0 y1 y2 y3 fun c i x h a b d e=>
 x (T119 a b d e (.bool true) (.bool true)) h
def x192 : AC := (.ag k192_0 (.block 0 (.loop (.block 1 (.ag k192_1 (.ag k192_2 (.ag k192_3 (.seq (.seq (.ops [m d61 r8,
 m d62 r61,
 .g .h3 .he true d63 (.op (.mv r9)),
 o d64 (.pick r62 r63 (.c (.bool false))),
 m d65 r64,
 .g .h4 .h1 true d66 (.op (.mv r12)),
 .g .h4 .h1 true d67 (.op (.bin .eq r66 a1)),
 o d68 (.pick r65 r67 (.c (.bool false)))]) (.ag k192_4 .skip)) (.seq (.seq (.eH [q 0 (m d73 r1),
 q 0 (o d74 (.bin .gt r73 a0)),
 q 0 (m d75 r74),
 q 0 (.g .h4 .hb true d76 (.op (.mv r0))),
 q 0 (.g .h4 .hb true d77 (.op (.mv r1))),
 q 0 (.g .h4 .hb true d78 (.op (.bin .sub r77 a1))),
 q 0 (.g .h4 .hb true d79 (.op (.AQ 1 r76 r78))),
 q 0 (.g .h4 .hb true d80 (.op (.eU r79))),
 q 0 (.g .h4 .hb true d81 (.op (.mv r0))),
 q 0 (.g .h4 .hb true d82 (.op (.mv r11))),
 q 0 (.g .h4 .hb true d83 (.op (.AQ 1 r81 r82))),
 q 0 (.g .h4 .hb true d84 (.op (.eU r83))),
 w (.g .h4 .hb true d85 (.call 209 [r80,r84])),
 q 0 (.g .h4 .hb true d86 (.op (.un .not r85))),
 q 0 (o d87 (.pick r75 r86 (.c (.bool false))))]) (.ag k192_5 .skip)) (.ag k192_6 (.ag k192_7 (.ag k192_8 .skip))))))))))))
def f192 : AF := .mk x192 []
def k202_2 : KF := K2 y0 y2 fun c i x h a b=>
 tR (kY a (.int .u64 (.ofNat 256)) h) fun d h=>
 I d (tR (bK .shr a (.int .u64 (.ofNat 8)) h) fun e h=>
 D b (pi 8) h fun f h=>
 tR (cK (.toInt .u8) e h) fun g h=>
 tR (lu (.c (.str [0,1,2,2,3,3,3,3,4,4,4,4,4,4,4,4,5,5,5,5,5,5,5,5,5,5,5,5,5,5,5,5,6,6,6,6,6,6,6,6,6,6,6,6,6,6,6,6,6,6,6,6,6,6,6,6,6,6,6,6,6,6,6,6,7,7,7,7,7,7,7,7,7,7,7,7,7,7,7,7,7,7,7,7,7,7,7,7,7,7,7,7,7,7,7,7,7,7,7,7,7,7,7,7,7,7,7,7,7,7,7,7,7,7,7,7,7,7,7,7,7,7,7,7,7,7,7,7,8,8,8,8,8,8,8,8,8,8,8,8,8,8,8,8,8,8,8,8,8,8,8,8,8,8,8,8,8,8,8,8,8,8,8,8,8,8,8,8,8,8,8,8,8,8,8,8,8,8,8,8,8,8,8,8,8,8,8,8,8,8,8,8,8,8,8,8,8,8,8,8,8,8,8,8,8,8,8,8,8,8,8,8,8,8,8,8,8,8,8,8,8,8,8,8,8,8,8,8,8,8,8,8,8,8,8,8,8,8,8,8,8,8,8,8,8,8,8,8,8,8,8,8,8,8,8,8])) (.c g) .nil h) fun j h=>
 tR (cK (.toInt .i64) j h) fun k h=>
 D f k h fun l h=>
 x (T29 l) h) (tR (cK (.toInt .u8) a h) fun e h=>
 tR (lu (.c (.str [0,1,2,2,3,3,3,3,4,4,4,4,4,4,4,4,5,5,5,5,5,5,5,5,5,5,5,5,5,5,5,5,6,6,6,6,6,6,6,6,6,6,6,6,6,6,6,6,6,6,6,6,6,6,6,6,6,6,6,6,6,6,6,6,7,7,7,7,7,7,7,7,7,7,7,7,7,7,7,7,7,7,7,7,7,7,7,7,7,7,7,7,7,7,7,7,7,7,7,7,7,7,7,7,7,7,7,7,7,7,7,7,7,7,7,7,7,7,7,7,7,7,7,7,7,7,7,7,8,8,8,8,8,8,8,8,8,8,8,8,8,8,8,8,8,8,8,8,8,8,8,8,8,8,8,8,8,8,8,8,8,8,8,8,8,8,8,8,8,8,8,8,8,8,8,8,8,8,8,8,8,8,8,8,8,8,8,8,8,8,8,8,8,8,8,8,8,8,8,8,8,8,8,8,8,8,8,8,8,8,8,8,8,8,8,8,8,8,8,8,8,8,8,8,8,8,8,8,8,8,8,8,8,8,8,8,8,8,8,8,8,8,8,8,8,8,8,8,8,8,8,8,8,8,8,8])) (.c e) .nil h) fun f h=>
 tR (cK (.toInt .i64) f h) fun g h=>
 D b g h fun j h=>
 x (T29 j) h)
def k202_1 : KF := K2 y0 y2 fun c i x h a b=>
 tR (kY a (.int .u64 (.ofNat 65536)) h) fun d h=>
 I d (tR (bK .shr a (.int .u64 (.ofNat 16)) h) fun e h=>
 D b (pi 16) h fun f h=>
 x (T78 e f) h) (x (T78 a b) h)
def k202_0 : KF := K1 y0 fun c i x h a=>
 tR (kY a (.int .u64 (.ofNat 4294967296)) h) fun b h=>
 I b (tR (bK .shr a (.int .u64 (.ofNat 32)) h) fun d h=>
 x (T78 d (pi 32)) h) (x (T78 a i0) h)
def x202 : AC := (.ag k202_0 (.ag k202_1 (.ag k202_2 .ret)))
def f202 : AF := .mk x202 [.t .h0 .h2]
def k203_3 : KF := K6 y0 y1 y2 y6 y7 y30 fun c i x h a b d e f g=>
 I g (.nm (T91 a b d e f) h) (.ex 2 (T91 a b d e f) h)
def k203_4 : KF := K5 y0 y1 y2 y6 y7 fun c i x h a b d e f=>
 Z f i1 h fun g h=>
 .nm (T91 a b d e g) h
def k203_2 : KF := K4 y0 y1 y2 y6 fun c i x h a b d e=>
 x (T91 a b d e e) h
def k203_5 : KF := K4 y0 y1 y2 y6 fun c i x h a b d e=>
 D e i1 h fun f h=>
 .nm (T77 a b d f) h
def k203_1 : KF := K4 y0 y1 y2 y6 fun c i x h a b d e=>
 Y e d h fun f h=>
 I f (x (T77 a b d e) h) (.ex 0 T27 h)
def k203_0 : KF := K3 y0 y1 y2 fun c i x h a b d=>
 D b i1 h fun e h=>
 x (T77 a b d e) h
def x203 : AC := (.ag k203_0 (.block 0 (.loop (.ag k203_1 (.seq (.block 1 (.ag k203_2 (.block 2 (.loop (.seq (.seq (.eH [q 0 (m d16 r7),
 q 0 (m d17 r1),
 q 0 (o d18 (.bin .gt r16 r17)),
 q 0 (m d19 r18),
 q 0 (.g .h1 .h3 true d20 (.op (.mv r0))),
 q 0 (.g .h1 .h3 true d21 (.op (.mv r7))),
 q 0 (.g .h1 .h3 true d22 (.op (.AQ 1 r20 r21))),
 q 0 (.g .h1 .h3 true d23 (.op (.eU r22))),
 q 0 (.g .h1 .h3 true d24 (.op (.mv r0))),
 q 0 (.g .h1 .h3 true d25 (.op (.mv r7))),
 q 0 (.g .h1 .h3 true d26 (.op (.bin .sub r25 a1))),
 q 0 (.g .h1 .h3 true d27 (.op (.AQ 1 r24 r26))),
 q 0 (.g .h1 .h3 true d28 (.op (.eU r27))),
 w (.g .h1 .h3 true d29 (.call 209 [r23,r28])),
 q 0 (o d30 (.pick r19 r29 (.c (.bool false))))]) (.ag k203_3 .skip)) (.seq (.block 3 (.eH [q 0 (m d33 r0),
 q 0 (m d34 r7),
 q 0 (m d38 r0),
 q 0 (m d39 r7),
 q 0 (o d40 (.bin .sub r39 a1)),
 q 0 (o d41 (.AQ 1 r38 r40)),
 ql 0 d42 r41,
 q 0 (m d43 r0),
 q 0 (m d44 r7),
 q 0 (o d45 (.AQ 1 r43 r44)),
 ql 0 d46 r45,
 q 0 (o d47 (.AQ 1 r33 r34)),
 w (os r47 r42),
 q 1 (m d35 r0),
 q 1 (m d36 r7),
 q 1 (o d37 (.bin .sub r36 a1)),
 q 0 (o d48 (.AQ 1 r35 r37)),
 w (os r48 r46)])) (.ag k203_4 .skip))))))) (.ag k203_5 .skip))))))
def f203 : AF := .mk x203 []
def k238_0 : KF := K5 y0 y1 y2 y3 y4 fun c i x h a b d e f=>
 I f (C c 239 [a,b,d,e] h fun g h=>
 .nm T27 h) (.nm T27 h)
def x238 : AC := (.seq (.eH [q 0 (m d19 r3),
 w (o d20 (.dU 9 1 1 [iS] [.mk 0 1 r19])),
 q 1 (m d12 r0),
 q 1 (m d13 r1),
 qj 1 d14 r12,
 qf 1 d15 0 r14,
 q 1 (o d16 (.FM 5 3 r15 r13)),
 qf 1 d17 2 r16,
 ql 1 d18 r17,
 w (o d21 (.app 9 1 r18 r20)),
 q 2 (m d10 r0),
 q 2 (m d11 r1),
 qj 2 d22 r10,
 qf 2 d23 0 r22,
 q 0 (o d24 (.FM 5 3 r23 r11)),
 qf 0 d25 2 r24,
 w (os r25 r21)]) (.ag k238_0 .skip))
def f238 : AF := .mk x238 []
def k239_0 : KF := K4 y0 y1 y2 y3 fun c i x h a b d e=>
 J a h fun f h=>
 A 15 f h fun g h=>
 L g h fun j h=>
 U [i0,i0,iS,i0] [.mk 0 1 (.c i1),.mk 1 1 (.c b),.mk 2 1 (.c e),.mk 3 1 (.c d)] h fun k h=>
 tR (bs 59 4 1 [i0,i0,iS,i0] [.mk 0 4 (.c k)] h) fun l h=>
 tR (eJ 59 4 j l h) fun m h=>
 J a h fun n h=>
 A 15 n h fun o h=>
 W o m h fun p h=>
 .nm T27 h
def x239 : AC := (.ag k239_0 .skip)
def f239 : AF := .mk x239 []
def PI : F1 := (.mk .none .none .none f3 f4 f5 f6 f7 f8 f9 f10 f11 f12 f13 f14 f15)
def RP : F1 := (.mk f16 f17 f18 f19 f20 f21 f22 .none f24 f25 f26 f27 f28 f29 f30 f31)
def RQ : F1 := (.mk f32 f33 f34 f35 f36 f37 f38 f39 f40 f41 f42 f43 f44 f45 f46 f47)
def RR : F1 := (.mk f48 f49 f50 f51 f52 f53 f54 f55 f56 f57 f58 f59 f60 f61 f62 f63)
def RU : F1 := (.mk f64 f65 .none .none f68 f69 f70 f71 .none f73 .none f75 f76 f77 f78 f79)
def RW : F1 := (.mk f80 f81 .none f83 .none f85 f86 .none .none f89 f90 f91 f92 f93 f94 f95)
def RX : F1 := (.mk .none f97 f98 f99 f100 f101 f102 f103 f104 f105 f106 .none f108 f109 f110 f111)
def RY : F1 := (.mk f112 f113 f114 f115 f116 f117 f118 f119 f120 f121 .none .none f124 f125 f126 f127)
def RZ : F1 := (.mk f128 .none .none f131 f132 f133 f134 f135 .none f137 f138 f139 f140 .none .none .none)
def Sa : F1 := (.mk f144 f145 .none f147 f148 f149 .none f151 f152 f153 f154 f155 f156 f157 f158 f159)
def NG : F1 := (.mk f160 f161 f162 f163 f164 f165 f166 .none f168 .none .none .none .none f173 f174 f175)
def NH : F1 := (.mk .none .none .none f179 f180 f181 f182 f183 f184 f185 .none .none .none f189 f190 f191)
def NI : F1 := (.mk f192 .none .none .none .none .none .none .none .none .none f202 f203 .none .none .none .none)
def NJ : F1 := (.mk .none .none .none .none .none .none .none .none .none .none .none .none .none .none f238 f239)
def NL : F1 := (.mk .none f241 .none .none .none .none .none .none .none .none .none .none .none .none .none .none)
def ID : F2 := .mk PI RP RQ RR RU RW RX RY RZ Sa NG NH NI .nil NJ NL
def pg : Pg := .mk (.mk ID .nil .nil .nil .nil .nil .nil .nil .nil .nil .nil .nil .nil .nil .nil .nil) [.mk 48 2 20, .mk 42 2 240, .mk 42 1 239, .mk 42 4 238, .mk 42 3 242, .mk 42 0 241]
end
end Go.Am.Seat
