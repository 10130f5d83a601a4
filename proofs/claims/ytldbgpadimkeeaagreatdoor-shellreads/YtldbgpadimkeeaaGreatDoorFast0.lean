/- The program's code in a form that runs fast, written by program. Nothing is asked. -/
import Derived.Test.YtldbgpadimkeeaaGreatDoorHead
set_option linter.all false
namespace Go.Am.Seat
set_option maxRecDepth 20000
noncomputable section
def T0 (a : AV) : A2 := N0 (Y3 u u a)
def T1 (a b : AV) : A2 := N0 (Y4 u a u b)
def T2 (a : AV) : A2 := N0 (Y4 u u u a)
def T3 (a b : AV) : A2 := N0 (Y5 u u u a b)
def T4 (a b : AV) : A2 := N0 (Y6 u u u a u b)
def T5 : A2 := .nil
def T6 (a b d : AV) : A2 := N0 (Y7 u u u a u b d)
def T7 (a b : AV) : A2 := N0 (Y4 a u u b)
def T8 (a b d : AV) : A2 := N0 (Y5 a u u b d)
def T9 (a b d e : AV) : A2 := N0 (Y6 a u u b d e)
def T10 (a b : AV) : A2 := N0 (Y3 u a b)
def T11 (a b d : AV) : A2 := N0 (Y4 u a b d)
def T12 (a b d e : AV) : A2 := N0 (Y5 u a b d e)
def T13 (a : AV) : A2 := N0 (Y1 a)
def T14 (a b d e f : AV) : A2 := N2 (Y4 u a u b) .nil (Y12 u u u u u u u u u d e f)
def T15 (a b d e : AV) : A2 := N4 (Y4 u u u a) .nil .nil (.mk u u u u u u u u u u u u u u b d) (Y1 e)
def T16 (a b d e f : AV) : A2 := N4 (Y8 u u u a u u u b) .nil .nil (.mk u u u u u u u u u u u u u u d e) (Y1 f)
def T17 (a b d e f g j k : AV) : A2 := N5 (Y8 u u u a u u u b) .nil .nil (.mk u u u u u u u u u u u u u u d e) (.mk f u u u u u u u u u u u u u g j) (Y1 k)
def T18 (a : AV) : A2 := N0 (Y5 u u u u a)
def T19 (a b : AV) : A2 := N0 (Y6 u a u u u b)
def T20 (a b d : AV) : A2 := N0 (Y7 u a u u u b d)
def T21 (a b d : AV) : A2 := N0 (Y6 a b u u u d)
def T22 (a b d e : AV) : A2 := N0 (Y7 a b u u u d e)
def T23 (a b d e f : AV) : A2 := N0 (Y8 a b u u u d e f)
def T24 (a b d e f g : AV) : A2 := N0 (Y9 a b u u u d e f g)
def T25 (a b d e f g j : AV) : A2 := N0 (Y10 a b u u u d e f g j)
def T26 (a : AV) : A2 := N0 (Y2 u a)
def T27 (a b d e : AV) : A2 := N2 (Y2 u a) .nil (Y9 u u u u u u b d e)
def T28 (a b d e f : AV) : A2 := N2 (Y5 u a u u b) .nil (Y9 u u u u u u d e f)
def T29 (a b d : AV) : A2 := N3 .nil .nil .nil (Y13 u u u u u u u u u u a b d)
def T30 (a b d e : AV) : A2 := N3 (Y7 u u u u u u a) .nil .nil (Y13 u u u u u u u u u u b d e)
def T31 (a b d : AV) : A2 := N0 (Y7 a b u u u u d)
def T32 (a b d : AV) : A2 := N0 (Y8 u u u u u a b d)
def T33 (a b d : AV) : A2 := N0 (Y11 u u u u u u u u a b d)
def T34 (a b d e : AV) : A2 := N0 (Y11 u u u u a u u u b d e)
def T35 (a b d : AV) : A2 := N0 (Y6 u u u a b d)
def T36 (a b : AV) : A2 := N0 (Y2 a b)
def T37 (a : AV) : A2 := N0 (Y7 u u u u u u a)
def T38 (a b d e f : AV) : A2 := N0 (Y14 a b u u u u u u u u u d e f)
def T39 (a b : AV) : A2 := N0 (Y10 a u u u u u u u u b)
def T40 (a b : AV) : A2 := N0 (Y4 u u a b)
def T41 (a b d e : AV) : A2 := N0 (Y6 a u b u d e)
def T42 (a b d e f : AV) : A2 := N0 (Y7 a u b u d e f)
def T43 (a b d e f : AV) : A2 := N0 (Y9 a u b u d e u u f)
def T44 (a b d e : AV) : A2 := N0 (Y10 a u b u u d u u u e)
def T45 (a b : AV) : A2 := N0 (Y6 u u a u u b)
def T46 (a b d e : AV) : A2 := N0 (Y8 u u u u a b d e)
def T47 (a b : AV) : A2 := N0 (Y7 a u u u u u b)
def T48 (a b d : AV) : A2 := N0 (Y4 a u b d)
def T49 (a b d e : AV) : A2 := N0 (Y5 a u b d e)
def T50 (a b d e f : AV) : A2 := N0 (Y10 a b d e u u u u u f)
def T51 (a b d e f g : AV) : A2 := N0 (Y11 a b d e u u u u u f g)
def T52 (a b d e : AV) : A2 := N0 (Y10 a u b d u u u u u e)
def T53 (a b : AV) : A2 := N0 (Y12 a u u u u u u u u u u b)
def T54 (a b : AV) : A2 := N0 (Y14 u u u u u u u u u u u a u b)
def T55 (a b d e f g j : AV) : A2 := N0 (Y10 u u u a b d e f g j)
def T56 (a b d e f g j k : AV) : A2 := N0 (Y12 u u u a b d e f g u j k)
def T57 (a b d e f g j : AV) : A2 := N0 (Y11 u u u a b d e f g u j)
def T58 (a b d : AV) : A2 := N0 (Y3 a b d)
def T59 (a b d : AV) : A2 := N0 (Y8 a u b u u u u d)
def T60 (a b : AV) : A2 := N0 (Y7 u u u u u a b)
def T61 (a b d e : AV) : A2 := N0 (Y9 u u u a u u b d e)
def T62 (a b : AV) : A2 := N0 (Y6 u u u u a b)
def T63 (a b d e : AV) : A2 := N1 (Y1 a) (Y15 u u u u u u u u u u u u b d e)
def T64 (a b d e f g : AV) : A2 := N1 (Y7 a u u u u b d) (Y15 u u u u u u u u u u u u e f g)
def T65 (a b d e f g j k l : AV) : A2 := N2 (Y7 a u u u u b d) (Y15 u u u u u u u u u u u u e f g) (Y6 u u u j k l)
def T66 (a : AV) : A2 := N1 .nil (Y4 u u u a)
def T67 (a b d : AV) : A2 := N0 (Y12 a b u u u u u u u u u d)
def T68 (a b d e : AV) : A2 := N0 (Y8 a u u u u b d e)
def T69 (a b d e : AV) : A2 := N0 (Y8 u a u u b d u e)
def T70 (a b d e f : AV) : A2 := N0 (Y9 u a u u b d u e f)
def T71 (a b d : AV) : A2 := N0 (Y8 u u u u a b u d)
def T72 (a b d : AV) : A2 := N1 (Y7 u u u u u u a) (Y7 u u u u u b d)
def T73 (a b d : AV) : A2 := N0 (Y11 u u u a u u u u u b d)
def T74 (a b : AV) : A2 := N0 (Y6 a u u u u b)
def T75 (a b d : AV) : A2 := N0 (Y14 u u u u u a u u u u u u b d)
def T76 (a : AV) : A2 := N0 (Y6 u u u u u a)
def T77 (a b d e : AV) : A2 := N0 (Y14 u u u u u a b u u u u u d e)
def T78 (a b d e : AV) : A2 := N2 (Y6 u u u u u a) .nil (Y5 u u b d e)
def T79 (a b : AV) : A2 := N0 (Y5 a u u u b)
def T80 (a b d e : AV) : A2 := N5 (Y1 a) .nil .nil .nil .nil (Y4 u b d e)
def T81 (a b d : AV) : A2 := N0 (Y6 a u u u b d)
def T82 (a b d e : AV) : A2 := N0 (Y7 a u u u b d e)
def T83 (a b d e f : AV) : A2 := N1 (Y3 u a b) (.mk u u u u u u u u u u u u u d e f)
def T84 (a b d e f : AV) : A2 := N3 (Y3 u a b) .nil .nil (Y5 u u d e f)
def T85 (a b d e f g j : AV) : A2 := N3 (Y8 u a b u u u d e) .nil .nil (Y5 u u f g j)
def T86 (a b d e f : AV) : A2 := N1 (.mk a u b u u u u u u u u u u u d e) (Y1 f)
def T87 (a b d : AV) : A2 := N0 (Y7 a u u u u b d)
def T88 (a b d e : AV) : A2 := N0 (Y10 u u u a u u u b d e)
def T89 (a b d e f : AV) : A2 := N1 (Y10 u u u a u u u b d e) (Y2 u f)
def f112 : AF := .ext .Fv
def k5_0 : KF := K1 y0 fun c i x h a=>
 B 30 a h fun b h=>
 O 30 12 (.k1 (Y12 i0 i0 i0 i0 iS i0 i0 i0 iS iS .ai .ai)) h fun d h=>
 A 5 b h fun e h=>
 M 7 e h fun f h=>
 C c 15 [f] h fun g h=>
 A 5 b h fun j h=>
 S 7 j g h fun k h=>
 M 12 b h fun l h=>
 S 12 d l h fun m h=>
 .ret (T0 d) h
def x5 : AC := (.ag k5_0 .skip)
def f5 : AF := .mk x5 [.agg 12 .h0 .h2]
def k4_1 : KF := K2 y3 y70 fun c i x h a b=>
 I b (.ret (T0 (.bool false)) h) (.nm (T2 a) h)
def Fw : KF := K2 y3 y4 fun c i x h a b=>
 A 5 a h fun d h=>
 L d h fun e h=>
 G e h fun f h=>
 Y b f h fun g h=>
 I g (A 5 a h fun j h=>
 L j h fun k h=>
 X 2 k b h fun l h=>
 A 1 l h fun m h=>
 L m h fun n h=>
 C c 14 [n] h fun o h=>
 tR (jz o h) fun p h=>
 I p (.ret (T0 (.bool false)) h) (D b i1 h fun q h=>
 .nm (T3 a q) h)) (.ex 0 (T3 a b) h)
def k4_2 : KF := K1 y3 fun c i x h a=>
 x (T3 a i0) h
def k4_8 : KF := K3 y3 y5 y6 fun c i x h a b d=>
 A 6 a h fun e h=>
 L e h fun f h=>
 X 3 f b h fun g h=>
 A 1 g h fun j h=>
 L j h fun k h=>
 X 3 k d h fun l h=>
 A 0 l h fun m h=>
 L m h fun n h=>
 C c 14 [n] h fun o h=>
 tR (jz o h) fun p h=>
 I p (.ret (T0 (.bool false)) h) (D d i1 h fun q h=>
 .nm (T6 a b q) h)
def Fx : KF := K3 y3 y5 y6 fun c i x h a b d=>
 A 6 a h fun e h=>
 L e h fun f h=>
 X 3 f b h fun g h=>
 A 1 g h fun j h=>
 L j h fun k h=>
 G k h fun l h=>
 Y d l h fun m h=>
 I m (x (T6 a b d) h) (.ex 4 (T4 a b) h)
def k4_6 : KF := K2 y3 y5 fun c i x h a b=>
 A 6 a h fun d h=>
 L d h fun e h=>
 X 3 e b h fun f h=>
 A 1 f h fun g h=>
 L g h fun j h=>
 G j h fun k h=>
 tR (cB k (pi 255) h) fun l h=>
 I l (.ret (T0 (.bool false)) h) (x (T6 a b i0) h)
def k4_9 : KF := K2 y3 y5 fun c i x h a b=>
 D b i1 h fun d h=>
 .nm (T4 a d) h
def k4_5 : KF := K2 y3 y5 fun c i x h a b=>
 A 6 a h fun d h=>
 L d h fun e h=>
 G e h fun f h=>
 Y b f h fun g h=>
 I g (x (T4 a b) h) (.ex 2 T5 h)
def k4_4 : KF := K1 y3 fun c i x h a=>
 x (T4 a i0) h
def k4_10 : KF := fun c i x r h=>
 .ret (T0 (.bool true)) h
def k4_0 : KF := K1 y0 fun c i x h a=>
 B 30 a h fun b h=>
 A 5 b h fun d h=>
 M 7 d h fun e h=>
 O 28 7 (.k1 (Y7 i0 i0 i0 iS iS .ai .ai)) h fun f h=>
 S 7 f e h fun g h=>
 x (T1 b f) h
def x4 : AC := (.ag k4_0 (.seq (.seq (.ops [of d9 0 r1,
 ol d10 r9,
 o d11 (.bin .lt r10 a1),
 m d12 r11,
 .g .h0 .hc false d13 (.op (.fP 0 r1)),
 .g .h0 .hc false d14 (.op (.fQ r13)),
 .g .h0 .hc false d15 (.op (.bin .gt r14 (.c (pi 9)))),
 o d16 (.pick r12 (.c (.bool true)) r15),
 m d17 r16,
 .g .h1 .h1 false d18 (.op (.fP 1 r1)),
 .g .h1 .h1 false d19 (.op (.fQ r18)),
 .g .h1 .h1 false d20 (.call 14 [r19]),
 .g .h1 .h1 false d21 (.op (.un .not r20)),
 o d22 (.pick r17 (.c (.bool true)) r21),
 m d23 r22,
 .g .h1 .h7 false d24 (.op (.fP 2 r1)),
 .g .h1 .h7 false d25 (.op (.fQ r24)),
 .g .h1 .h7 false d26 (.call 14 [r25]),
 .g .h1 .h7 false d27 (.op (.un .not r26)),
 o d28 (.pick r23 (.c (.bool true)) r27),
 m d29 r28,
 .g .h1 .hd false d30 (.op (.fP 3 r1)),
 .g .h1 .hd false d31 (.op (.fQ r30)),
 .g .h1 .hd false d32 (.call 14 [r31]),
 .g .h1 .hd false d33 (.op (.un .not r32)),
 o d34 (.pick r29 (.c (.bool true)) r33),
 m d35 r34,
 .g .h2 .h3 false d36 (.op (.fP 4 r1)),
 .g .h2 .h3 false d37 (.op (.fQ r36)),
 .g .h2 .h3 false d38 (.op (.jA r37)),
 .g .h2 .h3 false d39 (.op (.bin .gt r38 (.c (pi 255)))),
 o d40 (.pick r35 (.c (.bool true)) r39),
 m d41 r40,
 .g .h2 .h9 false d42 (.op (.fP 0 r3)),
 .g .h2 .h9 false d43 (.op (.fQ r42)),
 .g .h2 .h9 false d44 (.call 14 [r43]),
 .g .h2 .h9 false d45 (.op (.un .not r44)),
 o d46 (.pick r41 (.c (.bool true)) r45),
 m d47 r46,
 .g .h2 .hf false d48 (.op (.fP 1 r3)),
 .g .h2 .hf false d49 (.op (.fQ r48)),
 .g .h2 .hf false d50 (.call 14 [r49]),
 .g .h2 .hf false d51 (.op (.un .not r50)),
 o d52 (.pick r47 (.c (.bool true)) r51),
 m d53 r52,
 .g .h3 .h5 false d54 (.op (.fP 2 r3)),
 .g .h3 .h5 false d55 (.op (.fQ r54)),
 .g .h3 .h5 false d56 (.call 14 [r55]),
 .g .h3 .h5 false d57 (.op (.un .not r56)),
 o d58 (.pick r53 (.c (.bool true)) r57),
 m d59 r58,
 .g .h3 .hb false d60 (.op (.fP 5 r3)),
 .g .h3 .hb false d61 (.op (.fQ r60)),
 .g .h3 .hb false d62 (.op (.len r61)),
 .g .h3 .hb false d63 (.op (.bin .gt r62 (.c (pi 255)))),
 o d64 (.pick r59 (.c (.bool true)) r63),
 m d65 r64,
 .g .h4 .h1 false d66 (.op (.fP 6 r3)),
 .g .h4 .h1 false d67 (.op (.fQ r66)),
 .g .h4 .h1 false d68 (.op (.len r67)),
 .g .h4 .h1 false d69 (.op (.bin .gt r68 (.c (pi 255)))),
 o d70 (.pick r65 (.c (.bool true)) r69)]) (.ag k4_1 .skip)) (.seq (.ag k4_2 (.block 0 (.loop (.ag Fw .skip)))) (.seq (.ag k4_4 (.block 2 (.loop (.ag k4_5 (.seq (.block 3 (.ag k4_6 (.block 4 (.loop (.ag Fx (.ag k4_8 .skip)))))) (.ag k4_9 .skip)))))) (.ag k4_10 .skip)))))
def f4 : AF := .mk x4 [.t .h0 .h2]
def k6_3 : KF := K3 y0 y3 y4 fun c i x h a b d=>
 X 12 a d h fun e h=>
 M 12 e h fun f h=>
 O 30 12 (.k1 (Y12 i0 i0 i0 i0 iS i0 i0 i0 iS iS .ai .ai)) h fun g h=>
 S 12 g f h fun j h=>
 A 0 g h fun k h=>
 L k h fun l h=>
 C c 16 [b,l] h fun m h=>
 x (T9 a m d g) h
def k6_4 : KF := K3 y0 y3 y4 fun c i x h a b d=>
 D d i1 h fun e h=>
 .nm (T8 a b e) h
def k6_2 : KF := K3 y0 y3 y4 fun c i x h a b d=>
 G a h fun e h=>
 Y d e h fun f h=>
 I f (x (T8 a b d) h) (.ex 0 (T2 b) h)
def k6_1 : KF := K2 y0 y3 fun c i x h a b=>
 x (T8 a b i0) h
def k6_5 : KF := K1 y3 fun c i x h a=>
 .ret (T0 a) h
def k6_0 : KF := K1 y0 fun c i x h a=>
 x (T7 a .ai) h
def x6 : AC := (.ag k6_0 (.seq (.ag k6_1 (.block 0 (.loop (.ag k6_2 (.seq (.block 1 (.ag k6_3 (.seq (.nT [q 0 (m d20 r3),
 qf 0 d21 1 r5,
 ql 0 d22 r21,
 w (oc d23 17 [r20,r22]),
 qf 1 d24 2 r5,
 ql 1 d25 r24,
 w (oc d26 17 [r23,r25]),
 qf 2 d27 3 r5,
 ql 2 d28 r27,
 w (oc d29 17 [r26,r28]),
 q 0 (m d3 r29)]) (.nT [q 0 (m d30 r3),
 qf 0 d31 4 r5,
 ql 0 d32 r31,
 w (oc d33 18 [r30,r32]),
 qf 1 d34 5 r5,
 q 1 (o d35 (.pk 7 r34)),
 w (oc d36 19 [r35]),
 q 0 (o d37 (.conv .Kh r36)),
 w (oc d38 18 [r33,r37]),
 q 0 (m d3 r38)])))) (.ag k6_4 .skip)))))) (.ag k6_5 .skip)))
def f6 : AF := .mk x6 [.t .h0 .h2]
def k15_4 : KF := K5 y1 y2 y3 y4 y44 fun c i x h a b d e f=>
 I f (.nm (T12 a b d e) h) (.ex 0 (T12 a b d e) h)
def k15_5 : KF := K4 y1 y2 y3 y4 fun c i x h a b d e=>
 A 5 a h fun f h=>
 L f h fun g h=>
 X 2 g e h fun j h=>
 M 2 j h fun k h=>
 O 42 2 (.k1 (Y2 iS i0)) h fun l h=>
 S 2 l k h fun m h=>
 A 1 l h fun n h=>
 L n h fun o h=>
 C c 33 [o] h fun p h=>
 A 1 l h fun q h=>
 W q p h fun s h=>
 M 2 l h fun t h=>
 tR (bs 42 2 1 [iS,i0] [.mk 0 2 (.c t)] h) fun v h=>
 tR (df 42 2 d v h) fun w h=>
 D e i1 h fun y h=>
 .nm (T12 a b w y) h
def k15_3 : KF := K3 y1 y2 y3 fun c i x h a b d=>
 x (T12 a b d i0) h
def k15_6 : KF := K3 y1 y2 y3 fun c i x h a b d=>
 A 5 a h fun e h=>
 W e d h fun f h=>
 A 6 a h fun g h=>
 L g h fun j h=>
 C c 34 [j,(pi 9)] h fun k h=>
 A 6 a h fun l h=>
 W l k h fun m h=>
 M 7 a h fun n h=>
 S 7 b n h fun o h=>
 .ret (T0 b) h
def xG : KF := K2 y1 y2 fun c i x h a b=>
 A 5 a h fun d h=>
 L d h fun e h=>
 G e h fun f h=>
 tR (cB f (pi 8) h) fun g h=>
 I g (A 5 a h fun j h=>
 L j h fun k h=>
 tR (fu 2 (.c k) .none (.some (.c (pi 8))) .none .nil h) fun l h=>
 A 5 a h fun m h=>
 W m l h fun n h=>
 x (T11 a b .ai) h) (x (T11 a b .ai) h)
def xH : KF := K2 y1 y2 fun c i x h a b=>
 A 4 a h fun d h=>
 L d h fun e h=>
 tR (jA e h) fun f h=>
 tR (cB f (pi 700) h) fun g h=>
 I g (A 4 a h fun j h=>
 L j h fun k h=>
 tR (fw (.c k) .none (.some (.c (pi 700))) .nil h) fun l h=>
 A 4 a h fun m h=>
 W m l h fun n h=>
 x (T10 a b) h) (x (T10 a b) h)
def xI : KF := K1 y0 fun c i x h a=>
 B 28 a h fun b h=>
 O 28 7 (.k1 (Y7 i0 i0 i0 iS iS .ai .ai)) h fun d h=>
 A 3 b h fun e h=>
 L e h fun f h=>
 tR (jA f h) fun g h=>
 tR (cB g (pi 20) h) fun j h=>
 I j (A 3 b h fun k h=>
 L k h fun l h=>
 tR (fw (.c l) .none (.some (.c (pi 20))) .nil h) fun m h=>
 A 3 b h fun n h=>
 W n m h fun o h=>
 x (T10 b d) h) (x (T10 b d) h)
def x15 : AC := (.ag xI (.ag xH (.ag xG (.seq (.ag k15_3 (.block 0 (.loop (.seq (.seq (.ops [m d30 r4,
 of d31 5 r1,
 ol d32 r31,
 o d33 (.len r32),
 o d34 (.bin .lt r30 r33),
 m d35 r34,
 .g .h2 .h3 true d36 (.op (.fP 5 r1)),
 .g .h2 .h3 true d37 (.op (.fQ r36)),
 .g .h2 .h3 true d38 (.op (.mv r4)),
 .g .h2 .h3 true d39 (.op (.Fp 2 r37 r38)),
 .g .h2 .h3 true d40 (.op (.fP 0 r39)),
 .g .h2 .h3 true d41 (.op (.fQ r40)),
 .g .h2 .h3 true d42 (.op (.jA r41)),
 .g .h2 .h3 true d43 (.op (.bin .le r42 (.c (pi 20)))),
 o d44 (.pick r35 r43 (.c (.bool false)))]) (.ag k15_4 .skip)) (.ag k15_5 .skip))))) (.ag k15_6 .skip)))))
def f15 : AF := .mk x15 [.agg 7 .h0 .h2]
def k14_0 : KF := K1 y0 fun c i x h a=>
 tR (we a (ni 2147483647) h) fun b h=>
 gD b true (fun d=>d a h) h fun d h=>
 gD b true (fun e=>Y d (pi 2147483648) h fun f h=>
 e f h) h fun e h=>
 tR (dX (.c b) (.c e) (.c (.bool false)) .nil h) fun f h=>
 .ret (T0 f) h
def x14 : AC := (.ag k14_0 .skip)
def f14 : AF := .mk x14 [.t .h0 .h2]
def k37_0 : KF := fun c i x r h=>
 U [.ai] [] h fun a h=>
 B 123 a h fun b h=>
 .ret (T13 b) h
def x37 : AC := (.ag k37_0 .skip)
def f37 : AF := .mk x37 [.t .h0 .h0]
def k40_0 : KF := K2 y0 y1 fun c i x h a b=>
 tR (cK (.toInt .u64) b h) fun d h=>
 C c 66 [a,d,i1] h fun e h=>
 .nm T5 h
def x40 : AC := (.ag k40_0 .skip)
def f40 : AF := .mk x40 []
def k45_0 : KF := K1 y0 fun c i x h a=>
 tQ (nC a h) fun b=>
 tQ (fA 1 b h) fun d=>
 tQ (nC a h) fun e=>
 tQ (fA 2 e h) fun f=>
 tQ (nC a h) fun g=>
 tQ (fA 3 g h) fun j=>
 tX (RV.nU (bs 99 1 3 [.cV,.cV,.cV] [.mk 0 1 (.c d),.mk 1 1 (.c f),.mk 2 1 (.c j)] h)) fun k h=>
 .ret (T0 k) h
def x45 : AC := (.ag k45_0 .skip)
def f45 : AF := .mk x45 [.t .h0 .h2]
def k38_0 : KF := K2 y0 y1 fun c i x h a b=>
 tR (cK (.toInt .u64) b h) fun d h=>
 C c 66 [a,d,(pi 8)] h fun e h=>
 .nm T5 h
def x38 : AC := (.ag k38_0 .skip)
def f38 : AF := .mk x38 []
def k39_0 : KF := K2 y0 y1 fun c i x h a b=>
 tR (jA b h) fun d h=>
 C c 67 [a,d] h fun e h=>
 J a h fun f h=>
 A 0 f h fun g h=>
 L g h fun j h=>
 tR (jj 5 (.c j) (.c b) .nil h) fun k h=>
 J a h fun l h=>
 A 0 l h fun m h=>
 W m k h fun n h=>
 .nm T5 h
def x39 : AC := (.ag k39_0 .skip)
def f39 : AF := .mk x39 []
def k19_3 : KF := K5 y1 y3 y41 y42 y43 fun c i x h a b d e f=>
 Y f e h fun g h=>
 I g (X 2 d f h fun j h=>
 M 2 j h fun k h=>
 O 42 2 (.k1 (Y2 iS i0)) h fun l h=>
 S 2 l k h fun m h=>
 A 0 l h fun n h=>
 L n h fun o h=>
 C c 39 [b,o] h fun p h=>
 A 1 l h fun q h=>
 L q h fun s h=>
 C c 38 [b,s] h fun t h=>
 D f i1 h fun v h=>
 .nm (T14 a b d e v) h) (.ex 0 (T14 a b d e f) h)
def k19_2 : KF := K2 y1 y3 fun c i x h a b=>
 A 5 a h fun d h=>
 L d h fun e h=>
 G e h fun f h=>
 x (T14 a b e f i0) h
def xJ : KF := K8 y3 y7 y62 y63 y64 y78 y79 y80 fun c i x h a b d e f g j k=>
 Y k j h fun l h=>
 I l (X 3 g k h fun m h=>
 M 3 m h fun n h=>
 O 48 3 (.k1 (Y3 i0 i0 iS)) h fun o h=>
 S 3 o n h fun p h=>
 A 0 o h fun q h=>
 L q h fun s h=>
 C c 38 [a,s] h fun t h=>
 A 1 o h fun v h=>
 L v h fun w h=>
 C c 38 [a,w] h fun y h=>
 A 2 o h fun z h=>
 L z h fun a0 h=>
 C c 39 [a,a0] h fun a1 h=>
 D k i1 h fun a2 h=>
 .nm (T17 a b d e f g j a2) h) (.ex 4 (T17 a b d e f g j k) h)
def k19_8 : KF := K5 y3 y7 y62 y63 y64 fun c i x h a b d e f=>
 A 1 b h fun g h=>
 L g h fun j h=>
 G j h fun k h=>
 x (T17 a b d e f j k i0) h
def k19_10 : KF := K5 y3 y7 y62 y63 y64 fun c i x h a b d e f=>
 A 2 b h fun g h=>
 L g h fun j h=>
 I j (C c 40 [a,i1] h fun k h=>
 .nm (T15 a d e f) h) (C c 40 [a,i0] h fun k h=>
 .nm (T15 a d e f) h)
def k19_7 : KF := K4 y3 y62 y63 y64 fun c i x h a b d e=>
 X 3 b e h fun f h=>
 M 3 f h fun g h=>
 O 46 3 (.k1 (Y3 iS .ai (.bool false))) h fun j h=>
 S 3 j g h fun k h=>
 A 0 j h fun l h=>
 L l h fun m h=>
 C c 39 [a,m] h fun n h=>
 A 1 j h fun o h=>
 L o h fun p h=>
 G p h fun q h=>
 C c 40 [a,q] h fun s h=>
 x (T16 a j b d e) h
def k19_11 : KF := K4 y3 y62 y63 y64 fun c i x h a b d e=>
 D e i1 h fun f h=>
 .nm (T15 a b d f) h
def k19_6 : KF := K4 y3 y62 y63 y64 fun c i x h a b d e=>
 Y e d h fun f h=>
 I f (x (T15 a b d e) h) (.ex 2 (T2 a) h)
def k19_5 : KF := K2 y1 y3 fun c i x h a b=>
 A 6 a h fun d h=>
 L d h fun e h=>
 G e h fun f h=>
 x (T15 b e f i0) h
def k19_12 : KF := K1 y3 fun c i x h a=>
 C c 41 [a] h fun b h=>
 .ret (T0 b) h
def k19_4 : KF := K2 y1 y3 fun c i x h a b=>
 A 6 a h fun d h=>
 L d h fun e h=>
 G e h fun f h=>
 C c 40 [b,f] h fun g h=>
 x (T1 a b) h
def k19_1 : KF := K2 y1 y3 fun c i x h a b=>
 A 3 a h fun d h=>
 L d h fun e h=>
 C c 39 [b,e] h fun f h=>
 A 4 a h fun g h=>
 L g h fun j h=>
 C c 39 [b,j] h fun k h=>
 A 5 a h fun l h=>
 L l h fun m h=>
 G m h fun n h=>
 C c 40 [b,n] h fun o h=>
 x (T1 a b) h
def k19_0 : KF := K1 y0 fun c i x h a=>
 B 28 a h fun b h=>
 M 7 b h fun d h=>
 C c 36 [d] h fun e h=>
 tR (jz e h) fun f h=>
 I f (.ret (T0 .ai) h) (C c 37 [] h fun g h=>
 A 0 b h fun j h=>
 L j h fun k h=>
 C c 38 [g,k] h fun l h=>
 A 1 b h fun m h=>
 L m h fun n h=>
 C c 38 [g,n] h fun o h=>
 A 2 b h fun p h=>
 L p h fun q h=>
 C c 38 [g,q] h fun s h=>
 x (T1 b g) h)
def x19 : AC := (.ag k19_0 (.ag k19_1 (.seq (.ag k19_2 (.block 0 (.loop (.ag k19_3 .skip)))) (.ag k19_4 (.seq (.ag k19_5 (.block 2 (.loop (.ag k19_6 (.seq (.block 3 (.ag k19_7 (.seq (.ag k19_8 (.block 4 (.loop (.ag xJ .skip)))) (.ag k19_10 .skip)))) (.ag k19_11 .skip)))))) (.ag k19_12 .skip))))))
def f19 : AF := .mk x19 [.t .h0 .h2]
def k41_0 : KF := K1 y0 fun c i x h a=>
 J a h fun b h=>
 A 0 b h fun d h=>
 L d h fun e h=>
 C c 43 [e] h fun f h=>
 .ret (T0 f) h
def x41 : AC := (.ag k41_0 .skip)
def f41 : AF := .mk x41 [.t .h0 .h2]
def k16_0 : KF := K2 y0 y1 fun c i x h a b=>
 tR (bs 5 1 0 [] [] h) fun d h=>
 tR (df 5 1 d a h) fun e h=>
 tR (cK (.toInt .u8) b h) fun f h=>
 tR (bs 5 1 1 [(.int .u8 (.ofNat 0))] [.mk 0 1 (.c f)] h) fun g h=>
 tR (df 5 1 e g h) fun j h=>
 .ret (T18 j) h
def x16 : AC := (.ag k16_0 .skip)
def f16 : AF := .mk x16 [.t .h0 .h4]
def k17_2 : KF := K3 y1 y5 y6 fun c i x h a b d=>
 Y d (pi 8) h fun e h=>
 I e (tR (uF (pi 8) d h) fun f h=>
 tR (cK (.toInt .u64) f h) fun g h=>
 tR (bK .shr a g h) fun j h=>
 tR (cK (.toInt .u8) j h) fun k h=>
 tR (bs 5 1 1 [(.int .u8 (.ofNat 0))] [.mk 0 1 (.c k)] h) fun l h=>
 tR (df 5 1 b l h) fun m h=>
 D d i1 h fun n h=>
 .nm (T20 a m n) h) (.ex 0 (T20 a b d) h)
def k17_1 : KF := K2 y1 y5 fun c i x h a b=>
 x (T20 a b i0) h
def k17_3 : KF := K1 y5 fun c i x h a=>
 .ret (T18 a) h
def k17_0 : KF := K2 y0 y1 fun c i x h a b=>
 tR (bs 5 1 0 [] [] h) fun d h=>
 tR (df 5 1 d a h) fun e h=>
 x (T19 b e) h
def x17 : AC := (.ag k17_0 (.seq (.ag k17_1 (.block 0 (.loop (.ag k17_2 .skip)))) (.ag k17_3 .skip)))
def f17 : AF := .mk x17 [.t .h0 .h4]
def k18_0 : KF := K2 y0 y1 fun c i x h a b=>
 tR (jA b h) fun d h=>
 C c 35 [a,d] h fun e h=>
 tR (jj 5 (.c e) (.c b) .nil h) fun f h=>
 .ret (T18 f) h
def x18 : AC := (.ag k18_0 .skip)
def f18 : AF := .mk x18 [.t .h0 .h4]
def k33_1 : KF := K1 y0 fun c i x h a=>
 .ret (T0 a) h
def k33_0 : KF := K1 y0 fun c i x h a=>
 Y a (ni 999) h fun b h=>
 gD b false (fun d=>d a h) h fun d h=>
 gD b false (fun e=>tR (cB d (pi 1000) h) fun f h=>
 e f h) h fun e h=>
 tR (dX (.c b) (.c (.bool true)) (.c e) .nil h) fun f h=>
 I f (.ret (T0 i0) h) (x (T13 a) h)
def x33 : AC := (.ag k33_0 (.ag k33_1 .skip))
def f33 : AF := .mk x33 [.t .h0 .h2]
def k34_2 : KF := K5 y0 y1 y5 y6 y18 fun c i x h a b d e f=>
 I f (.nm (T22 a b d e) h) (.ex 0 (T22 a b d e) h)
def k34_8 : KF := K7 y0 y1 y5 y6 y7 y8 y9 fun c i x h a b d e f g j=>
 D j i1 h fun k h=>
 .nm (T25 a b d e f g k) h
def uG : KF := K7 y0 y1 y5 y6 y7 y8 y9 fun c i x h a b d e f g j=>
 X 3 g j h fun k h=>
 A 2 k h fun l h=>
 L l h fun m h=>
 tR (jA m h) fun n h=>
 tR (cB n (pi 41) h) fun o h=>
 I o (X 3 g j h fun p h=>
 A 2 p h fun q h=>
 L q h fun s h=>
 tR (fw (.c s) .none (.some (.c (pi 41))) .nil h) fun t h=>
 X 3 g j h fun v h=>
 A 2 v h fun w h=>
 W w t h fun y h=>
 X 3 g j h fun z h=>
 A 0 z h fun a0 h=>
 L a0 h fun a1 h=>
 C c 33 [a1] h fun a2 h=>
 X 3 g j h fun a3 h=>
 A 0 a3 h fun a4 h=>
 W a4 a2 h fun a5 h=>
 x (T25 a b d e f g j) h) (X 3 g j h fun p h=>
 A 0 p h fun q h=>
 L q h fun s h=>
 C c 33 [s] h fun t h=>
 X 3 g j h fun v h=>
 A 0 v h fun w h=>
 W w t h fun y h=>
 x (T25 a b d e f g j) h)
def uH : KF := K7 y0 y1 y5 y6 y7 y8 y9 fun c i x h a b d e f g j=>
 G g h fun k h=>
 Y j k h fun l h=>
 I l (x (T25 a b d e f g j) h) (.ex 2 (T24 a b d e f g) h)
def k34_5 : KF := K6 y0 y1 y5 y6 y7 y8 fun c i x h a b d e f g=>
 x (T25 a b d e f g i0) h
def k34_9 : KF := K6 y0 y1 y5 y6 y7 y8 fun c i x h a b d e f g=>
 A 1 f h fun j h=>
 W j g h fun k h=>
 M 3 f h fun l h=>
 tR (bs 46 3 1 [iS,.ai,(.bool false)] [.mk 0 3 (.c l)] h) fun m h=>
 tR (df 46 3 d m h) fun n h=>
 .nm (T22 a b n e) h
def k34_4 : KF := K5 y0 y1 y5 y6 y7 fun c i x h a b d e f=>
 tR (bs 48 3 0 [] [] h) fun g h=>
 A 1 f h fun j h=>
 L j h fun k h=>
 tR (df 48 3 g k h) fun l h=>
 G l h fun m h=>
 tR (cB m (pi 7) h) fun n h=>
 I n (tR (fu 3 (.c l) .none (.some (.c (pi 7))) .none .nil h) fun o h=>
 x (T24 a b d e f o) h) (x (T24 a b d e f l) h)
def k34_3 : KF := K4 y0 y1 y5 y6 fun c i x h a b d e=>
 X 3 a e h fun f h=>
 M 3 f h fun g h=>
 O 46 3 (.k1 (Y3 iS .ai (.bool false))) h fun j h=>
 S 3 j g h fun k h=>
 A 0 j h fun l h=>
 L l h fun m h=>
 tR (jA m h) fun n h=>
 tR (cB n (pi 20) h) fun o h=>
 I o (A 0 j h fun p h=>
 L p h fun q h=>
 tR (fw (.c q) .none (.some (.c (pi 20))) .nil h) fun s h=>
 A 0 j h fun t h=>
 W t s h fun v h=>
 x (T23 a b d e j) h) (x (T23 a b d e j) h)
def k34_10 : KF := K4 y0 y1 y5 y6 fun c i x h a b d e=>
 D e i1 h fun f h=>
 .nm (T22 a b d f) h
def k34_1 : KF := K3 y0 y1 y5 fun c i x h a b d=>
 x (T22 a b d i0) h
def k34_11 : KF := K1 y5 fun c i x h a=>
 .ret (T18 a) h
def k34_0 : KF := K2 y0 y1 fun c i x h a b=>
 x (T21 a b .ai) h
def x34 : AC := (.ag k34_0 (.seq (.ag k34_1 (.block 0 (.loop (.seq (.seq (.ops [m d10 r6,
 m d11 r0,
 o d12 (.len r11),
 o d13 (.bin .lt r10 r12),
 m d14 r13,
 .g .h0 .he true d15 (.op (.mv r6)),
 .g .h0 .he true d16 (.op (.mv r1)),
 .g .h0 .he true d17 (.op (.bin .lt r15 r16)),
 o d18 (.pick r14 r17 (.c (.bool false)))]) (.ag k34_2 .skip)) (.seq (.block 1 (.ag k34_3 (.ag k34_4 (.seq (.ag k34_5 (.block 2 (.loop (.ag uH (.ag uG (.ag k34_8 .skip)))))) (.ag k34_9 .skip))))) (.ag k34_10 .skip)))))) (.ag k34_11 .skip)))
def f34 : AF := .mk x34 [.t .h0 .h4]
def k36_1 : KF := K2 y1 y36 fun c i x h a b=>
 I b (.ret (T0 (.bool false)) h) (.nm (T26 a) h)
def k36_5 : KF := K5 y1 y38 y39 y40 y55 fun c i x h a b d e f=>
 I f (.ret (T0 (.bool false)) h) (.nm (T27 a b d e) h)
def k36_4 : KF := K4 y1 y38 y39 y40 fun c i x h a b d e=>
 X 2 b e h fun f h=>
 M 2 f h fun g h=>
 O 42 2 (.k1 (Y2 iS i0)) h fun j h=>
 S 2 j g h fun k h=>
 x (T28 a j b d e) h
def k36_6 : KF := K4 y1 y38 y39 y40 fun c i x h a b d e=>
 D e i1 h fun f h=>
 .nm (T27 a b d f) h
def k36_3 : KF := K4 y1 y38 y39 y40 fun c i x h a b d e=>
 Y e d h fun f h=>
 I f (x (T27 a b d e) h) (.ex 0 (T26 a) h)
def k36_2 : KF := K1 y1 fun c i x h a=>
 A 5 a h fun b h=>
 L b h fun d h=>
 G d h fun e h=>
 x (T27 a d e i0) h
def k36_10 : KF := K4 y58 y59 y60 y74 fun c i x h a b d e=>
 I e (.ret (T0 (.bool false)) h) (.nm (T29 a b d) h)
def k36_9 : KF := K3 y58 y59 y60 fun c i x h a b d=>
 X 3 a d h fun e h=>
 M 3 e h fun f h=>
 O 46 3 (.k1 (Y3 iS .ai (.bool false))) h fun g h=>
 S 3 g f h fun j h=>
 x (T30 g a b d) h
def k36_11 : KF := K3 y58 y59 y60 fun c i x h a b d=>
 D d i1 h fun e h=>
 .nm (T29 a b e) h
def k36_8 : KF := K3 y58 y59 y60 fun c i x h a b d=>
 Y d b h fun e h=>
 I e (x (T29 a b d) h) (.ex 2 T5 h)
def k36_7 : KF := K1 y1 fun c i x h a=>
 A 6 a h fun b h=>
 L b h fun d h=>
 G d h fun e h=>
 x (T29 d e i0) h
def k36_12 : KF := fun c i x r h=>
 .ret (T0 (.bool true)) h
def k36_0 : KF := K1 y0 fun c i x h a=>
 B 28 a h fun b h=>
 x (T26 b) h
def x36 : AC := (.ag k36_0 (.seq (.seq (.ops [of d7 0 r1,
 ol d8 r7,
 of d9 1 r1,
 ol d10 r9,
 of d11 2 r1,
 ol d12 r11,
 o d13 (.cG 3 1 3 [i0,i0,i0] [.mk 0 1 r8,.mk 1 1 r10,.mk 2 1 r12]),
 oc d14 63 [r13],
 o d15 (.un .not r14),
 m d16 r15,
 .g .h1 .h0 false d17 (.op (.fP 3 r1)),
 .g .h1 .h0 false d18 (.op (.fQ r17)),
 .g .h1 .h0 false d19 (.op (.fP 4 r1)),
 .g .h1 .h0 false d20 (.op (.fQ r19)),
 .g .h1 .h0 false d21 (.op (.cG 9 1 2 [iS,iS] [.mk 0 1 r18,.mk 1 1 r20])),
 .g .h1 .h0 false d22 (.call 64 [r21]),
 .g .h1 .h0 false d23 (.op (.un .not r22)),
 o d24 (.pick r16 (.c (.bool true)) r23),
 m d25 r24,
 .g .h1 .h9 false d26 (.op (.fP 5 r1)),
 .g .h1 .h9 false d27 (.op (.fQ r26)),
 .g .h1 .h9 false d28 (.op (.len r27)),
 .g .h1 .h9 false d29 (.op (.bin .gt r28 (.c (pi 255)))),
 o d30 (.pick r25 (.c (.bool true)) r29),
 m d31 r30,
 .g .h1 .hf false d32 (.op (.fP 6 r1)),
 .g .h1 .hf false d33 (.op (.fQ r32)),
 .g .h1 .hf false d34 (.op (.len r33)),
 .g .h1 .hf false d35 (.op (.bin .gt r34 (.c (pi 255)))),
 o d36 (.pick r31 (.c (.bool true)) r35)]) (.ag k36_1 .skip)) (.seq (.ag k36_2 (.block 0 (.loop (.ag k36_3 (.seq (.block 1 (.ag k36_4 (.seq (.ops [of d44 1 r4,
 ol d45 r44,
 o d46 (.cG 3 1 1 [i0] [.mk 0 1 r45]),
 oc d47 63 [r46],
 o d48 (.un .not r47),
 m d49 r48,
 .g .h3 .h1 false d50 (.op (.fP 0 r4)),
 .g .h3 .h1 false d51 (.op (.fQ r50)),
 .g .h3 .h1 false d52 (.op (.cG 9 1 1 [iS] [.mk 0 1 r51])),
 .g .h3 .h1 false d53 (.call 64 [r52]),
 .g .h3 .h1 false d54 (.op (.un .not r53)),
 o d55 (.pick r49 (.c (.bool true)) r54)]) (.ag k36_5 .skip)))) (.ag k36_6 .skip)))))) (.seq (.ag k36_7 (.block 2 (.loop (.ag k36_8 (.seq (.block 3 (.ag k36_9 (.seq (.ops [of d64 0 r6,
 ol d65 r64,
 o d66 (.cG 9 1 1 [iS] [.mk 0 1 r65]),
 oc d67 64 [r66],
 o d68 (.un .not r67),
 m d69 r68,
 .g .h4 .h5 false d70 (.op (.fP 1 r6)),
 .g .h4 .h5 false d71 (.op (.fQ r70)),
 .g .h4 .h5 false d72 (.call 65 [r71]),
 .g .h4 .h5 false d73 (.op (.un .not r72)),
 o d74 (.pick r69 (.c (.bool true)) r73)]) (.ag k36_10 .skip)))) (.ag k36_11 .skip)))))) (.ag k36_12 .skip)))))
def f36 : AF := .mk x36 [.t .h0 .h2]
def qk : KF := K3 y0 y1 y6 fun c i x h a b d=>
 Q d i0 h fun e h=>
 I e (.ret T5 h) (J a h fun f h=>
 A 0 f h fun g h=>
 L g h fun j h=>
 tR (cK (.toInt .u8) b h) fun k h=>
 tR (bs 5 1 1 [(.int .u8 (.ofNat 0))] [.mk 0 1 (.c k)] h) fun l h=>
 tR (df 5 1 j l h) fun m h=>
 J a h fun n h=>
 A 0 n h fun o h=>
 W o m h fun p h=>
 tR (bK .shr b (.int .u64 (.ofNat 8)) h) fun q h=>
 Z d i1 h fun s h=>
 .go 0 (T31 a q s) h)
def k66_0 : KF := K3 y0 y1 y2 fun c i x h a b d=>
 x (T31 a b d) h
def x66 : AC := (.scope (.ag k66_0 (.seq (.label 0) (.ag qk .skip))))
def f66 : AF := .mk x66 []
def k67_0 : KF := K2 y0 y1 fun c i x h a b=>
 tR (cK (.toInt .u64) b h) fun d h=>
 C c 66 [a,d,(pi 2)] h fun e h=>
 .nm T5 h
def x67 : AC := (.ag k67_0 .skip)
def f67 : AF := .mk x67 []
def xK : KF := K1 y0 fun c i x h a=>
 tR (bK (.jB .s) a .ai h) fun b h=>
 I b (.ret (T0 .ai) h) (tR (bs 5 1 0 [] [] h) fun d h=>
 tR (df 5 1 d a h) fun e h=>
 .ret (T0 e) h)
def x43 : AC := (.ag xK .skip)
def f43 : AF := .mk x43 [.t .h0 .h2]
def k35_0 : KF := K2 y0 y1 fun c i x h a b=>
 tR (bs 5 1 0 [] [] h) fun d h=>
 tR (df 5 1 d a h) fun e h=>
 tR (cK (.toInt .u8) b h) fun f h=>
 tR (bK .shr b (.int .u64 (.ofNat 8)) h) fun g h=>
 tR (cK (.toInt .u8) g h) fun j h=>
 tR (bs 5 1 2 [(.int .u8 (.ofNat 0)),(.int .u8 (.ofNat 0))] [.mk 0 1 (.c f),.mk 1 1 (.c j)] h) fun k h=>
 tR (df 5 1 e k h) fun l h=>
 .ret (T18 l) h
def x35 : AC := (.ag k35_0 .skip)
def f35 : AF := .mk x35 [.t .h0 .h4]
def xL : KF := K3 y5 y6 y7 fun c i x h a b d=>
 D d i1 h fun e h=>
 .nm (T32 a b e) h
def uI : KF := K3 y5 y6 y7 fun c i x h a b d=>
 Y d b h fun e h=>
 I e (X 1 a d h fun f h=>
 L f h fun g h=>
 Y g (ni 2147483647) h fun j h=>
 gD j false (fun k=>k g h) h fun k h=>
 gD j false (fun l=>tR (cB k (pi 2147483647) h) fun m h=>
 l m h) h fun l h=>
 tR (dX (.c j) (.c (.bool true)) (.c l) .nil h) fun m h=>
 I m (.ret (T0 (.bool false)) h) (x (T32 a b d) h)) (.ex 0 T5 h)
def k63_1 : KF := K1 y0 fun c i x h a=>
 G a h fun b h=>
 x (T32 a b i0) h
def k63_4 : KF := fun c i x r h=>
 .ret (T0 (.bool true)) h
def k63_0 : KF := K1 y0 fun c i x h a=>
 x (T13 a) h
def x63 : AC := (.ag k63_0 (.seq (.ag k63_1 (.block 0 (.loop (.ag uI (.ag xL .skip))))) (.ag k63_4 .skip)))
def f63 : AF := .mk x63 [.t .h0 .h2]
def uJ : KF := K3 y5 y6 y7 fun c i x h a b d=>
 Y d b h fun e h=>
 I e (X 1 a d h fun f h=>
 L f h fun g h=>
 tR (jA g h) fun j h=>
 tR (cB j (pi 65535) h) fun k h=>
 I k (.ret (T0 (.bool false)) h) (D d i1 h fun l h=>
 .nm (T32 a b l) h)) (.ex 0 (T32 a b d) h)
def k64_1 : KF := K1 y0 fun c i x h a=>
 G a h fun b h=>
 x (T32 a b i0) h
def k64_3 : KF := fun c i x r h=>
 .ret (T0 (.bool true)) h
def k64_0 : KF := K1 y0 fun c i x h a=>
 x (T13 a) h
def x64 : AC := (.ag k64_0 (.seq (.ag k64_1 (.block 0 (.loop (.ag uJ .skip)))) (.ag k64_3 .skip)))
def f64 : AF := .mk x64 [.t .h0 .h2]
def k65_4 : KF := K4 y8 y9 y10 y25 fun c i x h a b d e=>
 I e (.ret (T0 (.bool false)) h) (.nm (T33 a b d) h)
def k65_3 : KF := K3 y8 y9 y10 fun c i x h a b d=>
 X 3 a d h fun e h=>
 M 3 e h fun f h=>
 O 48 3 (.k1 (Y3 i0 i0 iS)) h fun g h=>
 S 3 g f h fun j h=>
 x (T34 g a b d) h
def k65_5 : KF := K3 y8 y9 y10 fun c i x h a b d=>
 D d i1 h fun e h=>
 .nm (T33 a b e) h
def k65_2 : KF := K3 y8 y9 y10 fun c i x h a b d=>
 Y d b h fun e h=>
 I e (x (T33 a b d) h) (.ex 0 T5 h)
def k65_1 : KF := K1 y0 fun c i x h a=>
 G a h fun b h=>
 x (T33 a b i0) h
def k65_6 : KF := fun c i x r h=>
 .ret (T0 (.bool true)) h
def k65_0 : KF := K1 y0 fun c i x h a=>
 G a h fun b h=>
 tR (cB b (pi 255) h) fun d h=>
 I d (.ret (T0 (.bool false)) h) (x (T13 a) h)
def x65 : AC := (.ag k65_0 (.seq (.ag k65_1 (.block 0 (.loop (.ag k65_2 (.seq (.block 1 (.ag k65_3 (.seq (.ops [of d14 0 r4,
 ol d15 r14,
 o d16 (.cG 3 1 1 [i0] [.mk 0 1 r15]),
 oc d17 63 [r16],
 o d18 (.un .not r17),
 m d19 r18,
 .g .h1 .h3 false d20 (.op (.fP 2 r4)),
 .g .h1 .h3 false d21 (.op (.fQ r20)),
 .g .h1 .h3 false d22 (.op (.cG 9 1 1 [iS] [.mk 0 1 r21])),
 .g .h1 .h3 false d23 (.call 64 [r22]),
 .g .h1 .h3 false d24 (.op (.un .not r23)),
 o d25 (.pick r19 (.c (.bool true)) r24)]) (.ag k65_4 .skip)))) (.ag k65_5 .skip)))))) (.ag k65_6 .skip)))
def f65 : AF := .mk x65 [.t .h0 .h2]
def k10_3 : KF := K4 y3 y4 y5 y26 fun c i x h a b d e=>
 I e (.go 0 (T35 a b d) h) (.nm (T35 a b d) h)
def k10_4 : KF := K3 y3 y4 y5 fun c i x h a b d=>
 C c 24 [a,d] h fun e h=>
 tR (jz e h) fun f h=>
 I f (.ret (T0 b) h) (M 12 d h fun g h=>
 tR (bs 30 12 1 [i0,i0,i0,i0,iS,i0,i0,i0,iS,iS,.ai,.ai] [.mk 0 12 (.c g)] h) fun j h=>
 tR (df 30 12 b j h) fun k h=>
 .go 0 (T3 a k) h)
def k10_2 : KF := K2 y3 y4 fun c i x h a b=>
 C c 23 [a] h fun d h=>
 U [i0,i0,i0,i0,iS,i0,i0,i0,iS,iS,.ai,.ai] [.mk 0 1 (.c d)] h fun e h=>
 O 30 12 (.k1 (Y12 i0 i0 i0 i0 iS i0 i0 i0 iS iS .ai .ai)) h fun f h=>
 S 12 f e h fun g h=>
 x (T35 a b f) h
def k10_5 : KF := K1 y4 fun c i x h a=>
 .ret (T0 a) h
def k10_1 : KF := K1 y0 fun c i x h a=>
 C c 21 [a] h fun b h=>
 x (T3 b .ai) h
def k10_0 : KF := K1 y0 fun c i x h a=>
 x (T13 a) h
def x10 : AC := (.ag k10_0 (.scope (.ag k10_1 (.seq (.label 0) (.seq (.seq (.ops [m d8 r3,
 oc d9 22 [r8],
 o d10 (.bin .gt r9 a0),
 m d11 r10,
 .g .h0 .hb true d12 (.op (.mv r4)),
 .g .h0 .hb true d13 (.op (.len r12)),
 .g .h0 .hb true d14 (.op (.bin .lt r13 (.c (pi 2048)))),
 o d15 (.pick r11 r14 (.c (.bool false)))]) (.cond r15 (.ag k10_2 (.seq (.seq (.ops [of d19 0 r5,
 ol d20 r19,
 o d21 (.bin .lt r20 a1),
 m d22 r21,
 .g .h1 .h6 false d23 (.op (.fP 0 r5)),
 .g .h1 .h6 false d24 (.op (.fQ r23)),
 .g .h1 .h6 false d25 (.op (.bin .gt r24 (.c (pi 9)))),
 o d26 (.pick r22 (.c (.bool true)) r25)]) (.ag k10_3 .skip)) (.ag k10_4 .skip))) .skip)) (.ag k10_5 .skip))))))
def f10 : AF := .mk x10 [.t .h0 .h2]
def k7_1 : KF := K2 y0 y1 fun c i x h a b=>
 D b a h fun d h=>
 .ret (T37 d) h
def k7_0 : KF := K3 y0 y1 y2 fun c i x h a b d=>
 Z d b h fun e h=>
 D e i1 h fun f h=>
 tR (BZ a f h) fun g h=>
 Y g i0 h fun j h=>
 I j (D g d h fun k h=>
 Z k b h fun l h=>
 D l i1 h fun m h=>
 x (T36 m b) h) (x (T36 g b) h)
def x7 : AC := (.ag k7_0 (.ag k7_1 .skip))
def f7 : AF := .mk x7 [.t .h0 .h6]
def k9_3 : KF := K3 y0 y1 y5 fun c i x h a b d=>
 D d i1 h fun e h=>
 .nm (T21 a b e) h
def k9_2 : KF := K3 y0 y1 y5 fun c i x h a b d=>
 G a h fun e h=>
 Y d e h fun f h=>
 I f (tQ (iX 12 a d h) fun g=>
 tQ (pk 12 g h) fun j=>
 tQ (iX 12 b d h) fun k=>
 tQ (pk 12 k h) fun l=>
 tX (c 20 [j,l] h) fun m h=>
 tQ (jz m h) fun n=>
 I n (.ret (T18 (.bool false)) h) (x (T21 a b d) h)) (.ex 0 T5 h)
def k9_1 : KF := K2 y0 y1 fun c i x h a b=>
 x (T21 a b i0) h
def k9_4 : KF := fun c i x r h=>
 .ret (T18 (.bool true)) h
def k9_0 : KF := K2 y0 y1 fun c i x h a b=>
 G a h fun d h=>
 G b h fun e h=>
 tR (ig d e h) fun f h=>
 I f (.ret (T18 (.bool false)) h) (x (T36 a b) h)
def x9 : AC := (.ag k9_0 (.seq (.ag k9_1 (.block 0 (.loop (.ag k9_2 (.ag k9_3 .skip))))) (.ag k9_4 .skip)))
def f9 : AF := .mk x9 [.t .h0 .h4]
def k21_0 : KF := K1 y0 fun c i x h a=>
 C c 43 [a] h fun b h=>
 U [.ai,i0,i0,i0] [.mk 0 1 (.c b)] h fun d h=>
 B 94 d h fun e h=>
 .ret (T0 e) h
def x21 : AC := (.ag k21_0 .skip)
def f21 : AF := .mk x21 [.t .h0 .h2]
def k22_0 : KF := K1 y0 fun c i x h a=>
 J a h fun b h=>
 A 2 b h fun d h=>
 L d h fun e h=>
 tR (ig e i0 h) fun f h=>
 I f (.ret (T0 i0) h) (tQ (nC a h) fun g=>
 tQ (fA 0 g h) fun j=>
 tQ (lD j h) fun k=>
 tQ (len k h) fun l=>
 tQ (nC a h) fun m=>
 tQ (fA 1 m h) fun n=>
 tQ (lD n h) fun o=>
 tQ (kU l o h) fun p=>
 .ret (T0 p) h)
def x22 : AC := (.ag k22_0 .skip)
def f22 : AF := .mk x22 [.t .h0 .h2]
def k23_0 : KF := K1 y0 fun c i x h a=>
 C c 44 [a,i1] h fun b h=>
 tR (cK (.toInt .i64) b h) fun d h=>
 .ret (T0 d) h
def x23 : AC := (.ag k23_0 .skip)
def f23 : AF := .mk x23 [.t .h0 .h2]
def uK : KF := K5 y0 y1 y11 y12 y13 fun c i x h a b d e f=>
 D f i1 h fun g h=>
 .nm (T38 a b d e g) h
def rJ : KF := K5 y0 y1 y11 y12 y13 fun c i x h a b d e f=>
 X 1 d f h fun g h=>
 L g h fun j h=>
 C c 46 [a] h fun k h=>
 Y k (ni 2147483647) h fun l h=>
 gD l false (fun m=>m k h) h fun m h=>
 gD l false (fun n=>tR (cB m (pi 2147483647) h) fun o h=>
 n o h) h fun n h=>
 tR (dX (.c l) (.c (.bool true)) (.c n) .nil h) fun o h=>
 I o (.ret (T18 (.bool false)) h) (J j h fun p h=>
 W p k h fun q h=>
 x (T38 a b d e f) h)
def qm : KF := K5 y0 y1 y11 y12 y13 fun c i x h a b d e f=>
 Y f e h fun g h=>
 I g (x (T38 a b d e f) h) (.ex 0 (T36 a b) h)
def k24_1 : KF := K2 y0 y1 fun c i x h a b=>
 C c 45 [b] h fun d h=>
 G d h fun e h=>
 x (T38 a b d e i0) h
def k24_6 : KF := K2 y0 y9 fun c i x h a b=>
 C c 48 [a] h fun d h=>
 tR (jz d h) fun e h=>
 gD e true (fun f=>f b h) h fun f h=>
 gD e true (fun g=>Q f i0 h fun j h=>
 g j h) h fun g h=>
 tR (dX (.c e) (.c g) (.c (.bool false)) .nil h) fun j h=>
 .ret (T18 j) h
def k24_5 : KF := K2 y0 y1 fun c i x h a b=>
 C c 47 [a,(pi 255)] h fun d h=>
 J b h fun e h=>
 A 4 e h fun f h=>
 W f d h fun g h=>
 C c 47 [a,(pi 65535)] h fun j h=>
 tR (cK (.Qy 5) j h) fun k h=>
 C c 29 [k] h fun l h=>
 E 0 l h fun m h=>
 E 1 l h fun n h=>
 O 28 7 (.k1 (Y7 i0 i0 i0 iS iS .ai .ai)) h fun o h=>
 S 7 o m h fun p h=>
 M 7 o h fun q h=>
 J b h fun s h=>
 A 5 s h fun t h=>
 S 7 t q h fun v h=>
 x (T39 a n) h
def k24_0 : KF := K2 y0 y1 fun c i x h a b=>
 x (T36 a b) h
def x24 : AC := (.ag k24_0 (.seq (.ag k24_1 (.block 0 (.loop (.ag qm (.ag rJ (.ag uK .skip)))))) (.ag k24_5 (.ag k24_6 .skip))))
def f24 : AF := .mk x24 [.t .h0 .h4]
def k20_0 : KF := K2 y0 y1 fun c i x h a b=>
 B 30 a h fun d h=>
 B 30 b h fun e h=>
 x (T40 d e) h
def x20 : AC := (.ag k20_0 (.seq (.ops [of d5 0 r2,
 ol d6 r5,
 of d7 0 r3,
 ol d8 r7,
 o d9 (.bin .eq r6 r8),
 m d10 r9,
 .g .h0 .ha true d11 (.op (.fP 1 r2)),
 .g .h0 .ha true d12 (.op (.fQ r11)),
 .g .h0 .ha true d13 (.op (.fP 1 r3)),
 .g .h0 .ha true d14 (.op (.fQ r13)),
 .g .h0 .ha true d15 (.op (.bin .eq r12 r14)),
 o d16 (.pick r10 r15 (.c (.bool false))),
 m d17 r16,
 .g .h1 .h1 true d18 (.op (.fP 2 r2)),
 .g .h1 .h1 true d19 (.op (.fQ r18)),
 .g .h1 .h1 true d20 (.op (.fP 2 r3)),
 .g .h1 .h1 true d21 (.op (.fQ r20)),
 .g .h1 .h1 true d22 (.op (.bin .eq r19 r21)),
 o d23 (.pick r17 r22 (.c (.bool false))),
 m d24 r23,
 .g .h1 .h8 true d25 (.op (.fP 3 r2)),
 .g .h1 .h8 true d26 (.op (.fQ r25)),
 .g .h1 .h8 true d27 (.op (.fP 3 r3)),
 .g .h1 .h8 true d28 (.op (.fQ r27)),
 .g .h1 .h8 true d29 (.op (.bin .eq r26 r28)),
 o d30 (.pick r24 r29 (.c (.bool false))),
 m d31 r30,
 .g .h1 .hf true d32 (.op (.fP 4 r2)),
 .g .h1 .hf true d33 (.op (.fQ r32)),
 .g .h1 .hf true d34 (.op (.fP 4 r3)),
 .g .h1 .hf true d35 (.op (.fQ r34)),
 .g .h1 .hf true d36 (.op (.bin .seq r33 r35)),
 o d37 (.pick r31 r36 (.c (.bool false))),
 m d38 r37,
 .g .h2 .h6 true d39 (.op (.fP 5 r2)),
 .g .h2 .h6 true d40 (.op (.pk 7 r39)),
 .g .h2 .h6 true d41 (.op (.fP 5 r3)),
 .g .h2 .h6 true d42 (.op (.pk 7 r41)),
 .g .h2 .h6 true d43 (.call 42 [r40,r42]),
 o d44 (.pick r38 r43 (.c (.bool false))),
 m d4 r44]) .ret))
def f20 : AF := .mk x20 [.t .h0 .h4]
def k29_3 : KF := K5 y0 y2 y4 y5 y6 fun c i x h a b d e f=>
 Z f i1 h fun g h=>
 .nm (T42 a b d e g) h
def xM : KF := K5 y0 y2 y4 y5 y6 fun c i x h a b d e f=>
 tR (cB f i0 h) fun g h=>
 I g (C c 47 [d,(pi 65535)] h fun j h=>
 U [iS,i0] [.mk 0 1 (.c j)] h fun k h=>
 O 42 2 (.k1 (Y2 iS i0)) h fun l h=>
 S 2 l k h fun m h=>
 C c 46 [d] h fun n h=>
 A 1 l h fun o h=>
 W o n h fun p h=>
 A 5 e h fun q h=>
 L q h fun s h=>
 M 2 l h fun t h=>
 tR (bs 42 2 1 [iS,i0] [.mk 0 2 (.c t)] h) fun v h=>
 tR (df 42 2 s v h) fun w h=>
 A 5 e h fun y h=>
 W y w h fun z h=>
 x (T42 a b d e f) h) (.ex 0 (T41 a b d e) h)
def k29_1 : KF := K4 y0 y2 y4 y5 fun c i x h a b d e=>
 C c 23 [d] h fun f h=>
 x (T42 a b d e f) h
def k29_6 : KF := K5 y0 y2 y4 y5 y8 fun c i x h a b d e f=>
 Z f i1 h fun g h=>
 .nm (T43 a b d e g) h
def k29_5 : KF := K5 y0 y2 y4 y5 y8 fun c i x h a b d e f=>
 tR (cB f i0 h) fun g h=>
 I g (x (T43 a b d e f) h) (.ex 2 (T41 a b d e) h)
def k29_4 : KF := K4 y0 y2 y4 y5 fun c i x h a b d e=>
 C c 23 [d] h fun f h=>
 x (T43 a b d e f) h
def k29_8 : KF := K3 y2 y5 y75 fun c i x h a b d=>
 I d (U [i0,i0,i0,iS,iS,.ai,.ai] [] h fun e h=>
 S 7 a e h fun f h=>
 .ret (T40 a (pi 12)) h) (.nm (T45 a b) h)
def k29_7 : KF := K4 y0 y2 y4 y5 fun c i x h a b d e=>
 C c 54 [d] h fun f h=>
 E 0 f h fun g h=>
 E 1 f h fun j h=>
 x (T44 a b e g) h
def k29_9 : KF := K2 y2 y5 fun c i x h a b=>
 M 7 b h fun d h=>
 S 7 a d h fun e h=>
 .ret (T40 a i0) h
def k29_0 : KF := K1 y0 fun c i x h a=>
 O 28 7 (.k1 (Y7 i0 i0 i0 iS iS .ai .ai)) h fun b h=>
 C c 21 [a] h fun d h=>
 C c 46 [d] h fun e h=>
 C c 46 [d] h fun f h=>
 C c 46 [d] h fun g h=>
 U [i0,i0,i0,iS,iS,.ai,.ai] [.mk 0 1 (.c e),.mk 1 1 (.c f),.mk 2 1 (.c g)] h fun j h=>
 O 28 7 (.k1 (Y7 i0 i0 i0 iS iS .ai .ai)) h fun k h=>
 S 7 k j h fun l h=>
 C c 47 [d,(pi 65535)] h fun m h=>
 A 3 k h fun n h=>
 W n m h fun o h=>
 C c 47 [d,(pi 65535)] h fun p h=>
 A 4 k h fun q h=>
 W q p h fun s h=>
 x (T41 a b d k) h
def x29 : AC := (.ag k29_0 (.seq (.ag k29_1 (.block 0 (.loop (.ag xM (.ag k29_3 .skip))))) (.seq (.ag k29_4 (.block 2 (.loop (.ag k29_5 (.seq (.block 3 (.nT [q 0 (m d52 r4),
 w (oc d53 53 [r52]),
 w (o d54 (.cG 46 3 1 [iS,.ai,(.bool false)] [.mk 0 3 r53])),
 qf 2 d50 6 r5,
 ql 2 d51 r50,
 w (o d55 (.app 46 3 r51 r54)),
 qf 0 d56 6 r5,
 w (os r56 r55)])) (.ag k29_6 .skip)))))) (.seq (.ag k29_7 (.seq (.ops [m d62 r9,
 o d63 (.bin .ne r62 a0),
 m d64 r63,
 .g .h4 .h0 false d65 (.op (.pk 7 r5)),
 .g .h4 .h0 false d66 (.call 36 [r65]),
 .g .h4 .h0 false d67 (.op (.un .not r66)),
 o d68 (.pick r64 (.c (.bool true)) r67),
 m d69 r68,
 .g .h4 .h5 false d70 (.op (.pk 7 r5)),
 .g .h4 .h5 false d71 (.call 19 [r70]),
 .g .h4 .h5 false d72 (.op (.mv r0)),
 .g .h4 .h5 false d73 (.call 55 [r71,r72]),
 .g .h4 .h5 false d74 (.op (.un .not r73)),
 o d75 (.pick r69 (.c (.bool true)) r74)]) (.ag k29_8 .skip))) (.ag k29_9 .skip)))))
def f29 : AF := .mk x29 [.agg 7 .h0 .h2,.t .h0 .h3]
def uL : KF := K3 y5 y6 y7 fun c i x h a b d=>
 tR (cB d i0 h) fun e h=>
 I e (Z d i1 h fun f h=>
 tR (bK .shl a (.int .u64 (.ofNat 8)) h) fun g h=>
 X 1 b f h fun j h=>
 L j h fun k h=>
 tR (cK (.toInt .u64) k h) fun l h=>
 tR (Fy g l h) fun m h=>
 .go 0 (T46 u m b f) h) (.ret (T18 a) h)
def k44_1 : KF := K2 y0 y1 fun c i x h a b=>
 C c 70 [a,b] h fun d h=>
 G d h fun e h=>
 x (T32 (.int .u64 (.ofNat 0)) d e) h
def k44_0 : KF := K2 y0 y1 fun c i x h a b=>
 x (T36 a b) h
def x44 : AC := (.ag k44_0 (.scope (.ag k44_1 (.seq (.label 0) (.ag uL .skip)))))
def f44 : AF := .mk x44 [.t .h0 .h4]
def k46_0 : KF := K1 y0 fun c i x h a=>
 C c 44 [a,(pi 8)] h fun b h=>
 tR (cK (.toInt .i64) b h) fun d h=>
 .ret (T0 d) h
def x46 : AC := (.ag k46_0 .skip)
def f46 : AF := .mk x46 [.t .h0 .h2]
def k47_1 : KF := K4 y0 y5 y6 y23 fun c i x h a b d e=>
 I e (C c 72 [a,(pi 3),b] h fun f h=>
 .nm (T47 a d) h) (.nm (T47 a d) h)
def k47_2 : KF := K2 y0 y6 fun c i x h a b=>
 C c 70 [a,b] h fun d h=>
 tR (cK .Kh d h) fun e h=>
 .ret (T18 e) h
def k47_0 : KF := K2 y0 y1 fun c i x h a b=>
 J a h fun d h=>
 A 1 d h fun e h=>
 L e h fun f h=>
 C c 71 [a] h fun g h=>
 x (T22 a b f g) h
def x47 : AC := (.ag k47_0 (.seq (.seq (.ops [m d13 r0,
 oj d14 r13,
 of d15 2 r14,
 ol d16 r15,
 o d17 (.bin .eq r16 a0),
 m d18 r17,
 .g .h1 .h2 true d19 (.op (.mv r6)),
 .g .h1 .h2 true d20 (.op (.mv r1)),
 .g .h1 .h2 true d21 (.op (.max false [r20,a0])),
 .g .h1 .h2 true d22 (.op (.bin .gt r19 r21)),
 o d23 (.pick r18 r22 (.c (.bool false)))]) (.ag k47_1 .skip)) (.ag k47_2 .skip)))
def f47 : AF := .mk x47 [.t .h0 .h4]
def k48_0 : KF := K1 y0 fun c i x h a=>
 J a h fun b h=>
 A 2 b h fun d h=>
 L d h fun e h=>
 tR (ig e i0 h) fun f h=>
 .ret (T0 f) h
def x48 : AC := (.ag k48_0 .skip)
def f48 : AF := .mk x48 [.t .h0 .h2]
def k42_0 : KF := K2 y0 y1 fun c i x h a b=>
 B 28 a h fun d h=>
 B 28 b h fun e h=>
 x (T40 d e) h
def x42 : AC := (.ag k42_0 (.seq (.ops [of d5 0 r2,
 ol d6 r5,
 of d7 0 r3,
 ol d8 r7,
 o d9 (.bin .eq r6 r8),
 m d10 r9,
 .g .h0 .ha true d11 (.op (.fP 1 r2)),
 .g .h0 .ha true d12 (.op (.fQ r11)),
 .g .h0 .ha true d13 (.op (.fP 1 r3)),
 .g .h0 .ha true d14 (.op (.fQ r13)),
 .g .h0 .ha true d15 (.op (.bin .eq r12 r14)),
 o d16 (.pick r10 r15 (.c (.bool false))),
 m d17 r16,
 .g .h1 .h1 true d18 (.op (.fP 2 r2)),
 .g .h1 .h1 true d19 (.op (.fQ r18)),
 .g .h1 .h1 true d20 (.op (.fP 2 r3)),
 .g .h1 .h1 true d21 (.op (.fQ r20)),
 .g .h1 .h1 true d22 (.op (.bin .eq r19 r21)),
 o d23 (.pick r17 r22 (.c (.bool false))),
 m d24 r23,
 .g .h1 .h8 true d25 (.op (.fP 3 r2)),
 .g .h1 .h8 true d26 (.op (.fQ r25)),
 .g .h1 .h8 true d27 (.op (.fP 3 r3)),
 .g .h1 .h8 true d28 (.op (.fQ r27)),
 .g .h1 .h8 true d29 (.op (.bin .seq r26 r28)),
 o d30 (.pick r24 r29 (.c (.bool false))),
 m d31 r30,
 .g .h1 .hf true d32 (.op (.fP 4 r2)),
 .g .h1 .hf true d33 (.op (.fQ r32)),
 .g .h1 .hf true d34 (.op (.fP 4 r3)),
 .g .h1 .hf true d35 (.op (.fQ r34)),
 .g .h1 .hf true d36 (.op (.bin .seq r33 r35)),
 o d37 (.pick r31 r36 (.c (.bool false))),
 m d38 r37,
 .g .h2 .h6 true d39 (.op (.fP 5 r2)),
 .g .h2 .h6 true d40 (.op (.fQ r39)),
 .g .h2 .h6 true d41 (.op (.fP 5 r3)),
 .g .h2 .h6 true d42 (.op (.fQ r41)),
 .g .h2 .h6 true d43 (.call 68 [r40,r42]),
 o d44 (.pick r38 r43 (.c (.bool false))),
 m d45 r44,
 .g .h2 .hd true d46 (.op (.fP 6 r2)),
 .g .h2 .hd true d47 (.op (.fQ r46)),
 .g .h2 .hd true d48 (.op (.fP 6 r3)),
 .g .h2 .hd true d49 (.op (.fQ r48)),
 .g .h2 .hd true d50 (.call 69 [r47,r49]),
 o d51 (.pick r45 r50 (.c (.bool false))),
 m d4 r51]) .ret))
def f42 : AF := .mk x42 [.t .h0 .h4]
def k53_3 : KF := K4 y0 y2 y3 y4 fun c i x h a b d e=>
 Z e i1 h fun f h=>
 .nm (T49 a b d f) h
def xN : KF := K4 y0 y2 y3 y4 fun c i x h a b d e=>
 tR (cB e i0 h) fun f h=>
 I f (C c 46 [a] h fun g h=>
 C c 46 [a] h fun j h=>
 U [i0,i0,iS] [.mk 0 1 (.c g),.mk 1 1 (.c j)] h fun k h=>
 O 48 3 (.k1 (Y3 i0 i0 iS)) h fun l h=>
 S 3 l k h fun m h=>
 C c 47 [a,(pi 65535)] h fun n h=>
 A 2 l h fun o h=>
 W o n h fun p h=>
 A 1 d h fun q h=>
 L q h fun s h=>
 M 3 l h fun t h=>
 tR (bs 48 3 1 [i0,i0,iS] [.mk 0 3 (.c t)] h) fun v h=>
 tR (df 48 3 s v h) fun w h=>
 A 1 d h fun y h=>
 W y w h fun z h=>
 x (T49 a b d e) h) (.ex 0 (T48 a b d) h)
def k53_1 : KF := K3 y0 y2 y3 fun c i x h a b d=>
 C c 23 [a] h fun e h=>
 x (T49 a b d e) h
def k53_4 : KF := K3 y0 y2 y3 fun c i x h a b d=>
 C c 23 [a] h fun e h=>
 tR (cB e i0 h) fun f h=>
 A 2 d h fun g h=>
 W g f h fun j h=>
 M 3 d h fun k h=>
 S 3 b k h fun l h=>
 .ret (T0 b) h
def k53_0 : KF := K1 y0 fun c i x h a=>
 O 46 3 (.k1 (Y3 iS .ai (.bool false))) h fun b h=>
 C c 47 [a,(pi 65535)] h fun d h=>
 U [iS,.ai,(.bool false)] [.mk 0 1 (.c d)] h fun e h=>
 O 46 3 (.k1 (Y3 iS .ai (.bool false))) h fun f h=>
 S 3 f e h fun g h=>
 x (T48 a b f) h
def x53 : AC := (.ag k53_0 (.seq (.ag k53_1 (.block 0 (.loop (.ag xN (.ag k53_3 .skip))))) (.ag k53_4 .skip)))
def f53 : AF := .mk x53 [.agg 3 .h0 .h2]
def k54_2 : KF := fun c i x r h=>
 .ret (T40 i0 i0) h
def k54_1 : KF := K1 y0 fun c i x h a=>
 J a h fun b h=>
 A 2 b h fun d h=>
 L d h fun e h=>
 tR (ig e i0 h) fun f h=>
 I f (tQ (nC a h) fun g=>
 tQ (fA 2 g h) fun j=>
 tQ (lD j h) fun k=>
 tQ (nC a h) fun l=>
 tQ (fA 3 l h) fun m=>
 tQ (lD m h) fun n=>
 .ret (T40 k n) h) (tQ (nC a h) fun g=>
 tQ (fA 1 g h) fun j=>
 tQ (lD j h) fun k=>
 tQ (nC a h) fun l=>
 tQ (fA 0 l h) fun m=>
 tQ (lD m h) fun n=>
 tQ (len n h) fun o=>
 tQ (pq k o h) fun p=>
 I p (tQ (nC a h) fun q=>
 tQ (fA 1 q h) fun s=>
 tQ (lD s h) fun t=>
 .ret (T40 (pi 11) t) h) (x T5 h))
def k54_0 : KF := K1 y0 fun c i x h a=>
 x (T13 a) h
def x54 : AC := (.ag k54_0 (.ag k54_1 (.ag k54_2 .skip)))
def f54 : AF := .mk x54 [.t .h0 .h2,.t .h0 .h3]
def k55_0 : KF := K2 y0 y1 fun c i x h a b=>
 tR (cK .Kh a h) fun d h=>
 tR (cK .Kh b h) fun e h=>
 tR (xO d e h) fun f h=>
 .ret (T18 f) h
def x55 : AC := (.ag k55_0 .skip)
def f55 : AF := .mk x55 [.t .h0 .h4]
def k70_3 : KF := K2 y0 y1 fun c i x h a b=>
 tQ (nC a h) fun d=>
 tQ (fA 0 d h) fun e=>
 tQ (lD e h) fun f=>
 tQ (nC a h) fun g=>
 tQ (fA 1 g h) fun j=>
 tQ (lD j h) fun k=>
 tQ (kU k b h) fun l=>
 tQ (nC a h) fun m=>
 tQ (fA 1 m h) fun n=>
 tQ (lD n h) fun o=>
 tQ (fu 1 (.c f) (.some (.c l)) (.some (.c o)) .none .nil h) fun p=>
 .ret (T18 p) h
def k70_2 : KF := K2 y0 y1 fun c i x h a b=>
 J a h fun d h=>
 A 1 d h fun e h=>
 L e h fun f h=>
 D f b h fun g h=>
 J a h fun j h=>
 A 1 j h fun k h=>
 W k g h fun l h=>
 x (T36 a b) h
def k70_1 : KF := K2 y0 y1 fun c i x h a b=>
 tQ (nC a h) fun d=>
 tQ (fA 0 d h) fun e=>
 tQ (lD e h) fun f=>
 tQ (len f h) fun g=>
 tQ (nC a h) fun j=>
 tQ (fA 1 j h) fun k=>
 tQ (lD k h) fun l=>
 tQ (kU g l h) fun m=>
 tQ (cB b m h) fun n=>
 I n (J a h fun o h=>
 A 0 o h fun p h=>
 L p h fun q h=>
 G q h fun s h=>
 C c 72 [a,(pi 10),s] h fun t h=>
 .ret (T18 .ai) h) (x (T36 a b) h)
def k70_0 : KF := K2 y0 y1 fun c i x h a b=>
 J a h fun d h=>
 A 2 d h fun e h=>
 L e h fun f h=>
 tR (ig f i0 h) fun g h=>
 I g (.ret (T18 .ai) h) (x (T36 a b) h)
def x70 : AC := (.ag k70_0 (.ag k70_1 (.ag k70_2 (.ag k70_3 .skip))))
def f70 : AF := .mk x70 [.t .h0 .h4]
def k71_0 : KF := K1 y0 fun c i x h a=>
 C c 44 [a,(pi 2)] h fun b h=>
 tR (cK (.toInt .i64) b h) fun d h=>
 .ret (T0 d) h
def x71 : AC := (.ag k71_0 .skip)
def f71 : AF := .mk x71 [.t .h0 .h2]
def k72_0 : KF := K3 y0 y1 y2 fun c i x h a b d=>
 J a h fun e h=>
 A 2 e h fun f h=>
 L f h fun g h=>
 Q g i0 h fun j h=>
 I j (J a h fun k h=>
 A 2 k h fun l h=>
 W l b h fun m h=>
 J a h fun n h=>
 A 3 n h fun o h=>
 W o d h fun p h=>
 .nm T5 h) (.nm T5 h)
def x72 : AC := (.ag k72_0 .skip)
def f72 : AF := .mk x72 []
def k68_2 : KF := K3 y0 y1 y5 fun c i x h a b d=>
 G a h fun e h=>
 Y d e h fun f h=>
 I f (tQ (iX 2 a d h) fun g=>
 tQ (pk 2 g h) fun j=>
 tQ (iX 2 b d h) fun k=>
 tQ (pk 2 k h) fun l=>
 tQ (bK (.Oi [.s,.i]) j l h) fun m=>
 I m (.ret (T18 (.bool false)) h) (D d i1 h fun n h=>
 .nm (T21 a b n) h)) (.ex 0 (T21 a b d) h)
def k68_1 : KF := K2 y0 y1 fun c i x h a b=>
 x (T21 a b i0) h
def k68_3 : KF := fun c i x r h=>
 .ret (T18 (.bool true)) h
def k68_0 : KF := K2 y0 y1 fun c i x h a b=>
 G a h fun d h=>
 G b h fun e h=>
 tR (ig d e h) fun f h=>
 I f (.ret (T18 (.bool false)) h) (x (T36 a b) h)
def x68 : AC := (.ag k68_0 (.seq (.ag k68_1 (.block 0 (.loop (.ag k68_2 .skip)))) (.ag k68_3 .skip)))
def f68 : AF := .mk x68 [.t .h0 .h4]
def k69_3 : KF := K4 y0 y1 y5 y54 fun c i x h a b d e=>
 I e (.ret (T18 (.bool false)) h) (.nm (T21 a b d) h)
def k69_4 : KF := K3 y0 y1 y5 fun c i x h a b d=>
 D d i1 h fun e h=>
 .nm (T21 a b e) h
def k69_2 : KF := K3 y0 y1 y5 fun c i x h a b d=>
 G a h fun e h=>
 Y d e h fun f h=>
 I f (x (T21 a b d) h) (.ex 0 T5 h)
def k69_1 : KF := K2 y0 y1 fun c i x h a b=>
 x (T21 a b i0) h
def k69_5 : KF := fun c i x r h=>
 .ret (T18 (.bool true)) h
def k69_0 : KF := K2 y0 y1 fun c i x h a b=>
 G a h fun d h=>
 G b h fun e h=>
 tR (ig d e h) fun f h=>
 I f (.ret (T18 (.bool false)) h) (x (T36 a b) h)
def x69 : AC := (.ag k69_0 (.seq (.ag k69_1 (.block 0 (.loop (.ag k69_2 (.seq (.block 1 (.seq (.nT [q 0 (m d17 r0),
 q 0 (m d18 r5),
 q 0 (o d19 (.Fp 3 r17 r18)),
 qf 0 d20 0 r19,
 ql 0 d21 r20,
 q 0 (m d22 r1),
 q 0 (m d23 r5),
 q 0 (o d24 (.Fp 3 r22 r23)),
 qf 0 d25 0 r24,
 ql 0 d26 r25,
 q 0 (o d27 (.bin .So r21 r26)),
 q 0 (m d28 r27),
 q 0 (.g .h1 .hc false d29 (.op (.mv r0))),
 q 0 (.g .h1 .hc false d30 (.op (.mv r5))),
 q 0 (.g .h1 .hc false d31 (.op (.Fp 3 r29 r30))),
 q 0 (.g .h1 .hc false d32 (.op (.fP 2 r31))),
 q 0 (.g .h1 .hc false d33 (.op (.fQ r32))),
 q 0 (.g .h1 .hc false d34 (.op (.mv r1))),
 q 0 (.g .h1 .hc false d35 (.op (.mv r5))),
 q 0 (.g .h1 .hc false d36 (.op (.Fp 3 r34 r35))),
 q 0 (.g .h1 .hc false d37 (.op (.fP 2 r36))),
 q 0 (.g .h1 .hc false d38 (.op (.fQ r37))),
 q 0 (.g .h1 .hc false d39 (.op (.bin .bne r33 r38))),
 q 0 (o d40 (.pick r28 (.c (.bool true)) r39)),
 q 0 (m d41 r40),
 q 0 (.g .h2 .h9 false d42 (.op (.mv r0))),
 q 0 (.g .h2 .h9 false d43 (.op (.mv r5))),
 q 0 (.g .h2 .h9 false d44 (.op (.Fp 3 r42 r43))),
 q 0 (.g .h2 .h9 false d45 (.op (.fP 1 r44))),
 q 0 (.g .h2 .h9 false d46 (.op (.fQ r45))),
 q 0 (.g .h2 .h9 false d47 (.op (.mv r1))),
 q 0 (.g .h2 .h9 false d48 (.op (.mv r5))),
 q 0 (.g .h2 .h9 false d49 (.op (.Fp 3 r47 r48))),
 q 0 (.g .h2 .h9 false d50 (.op (.fP 1 r49))),
 q 0 (.g .h2 .h9 false d51 (.op (.fQ r50))),
 w (.g .h2 .h9 false d52 (.call 92 [r46,r51])),
 q 0 (.g .h2 .h9 false d53 (.op (.un .not r52))),
 q 0 (o d54 (.pick r41 (.c (.bool true)) r53))]) (.ag k69_3 .skip))) (.ag k69_4 .skip)))))) (.ag k69_5 .skip)))
def f69 : AF := .mk x69 [.t .h0 .h4]
def k92_2 : KF := K3 y0 y1 y5 fun c i x h a b d=>
 G a h fun e h=>
 Y d e h fun f h=>
 I f (tQ (iX 3 a d h) fun g=>
 tQ (pk 3 g h) fun j=>
 tQ (iX 3 b d h) fun k=>
 tQ (pk 3 k h) fun l=>
 tQ (bK (.Oi [.i,.i,.s]) j l h) fun m=>
 I m (.ret (T18 (.bool false)) h) (D d i1 h fun n h=>
 .nm (T21 a b n) h)) (.ex 0 (T21 a b d) h)
def k92_1 : KF := K2 y0 y1 fun c i x h a b=>
 x (T21 a b i0) h
def k92_3 : KF := fun c i x r h=>
 .ret (T18 (.bool true)) h
def k92_0 : KF := K2 y0 y1 fun c i x h a b=>
 G a h fun d h=>
 G b h fun e h=>
 tR (ig d e h) fun f h=>
 I f (.ret (T18 (.bool false)) h) (x (T36 a b) h)
def x92 : AC := (.ag k92_0 (.seq (.ag k92_1 (.block 0 (.loop (.ag k92_2 .skip)))) (.ag k92_3 .skip)))
def f92 : AF := .mk x92 [.t .h0 .h4]
def DB : KF := K6 y0 y1 y2 y3 y9 y10 fun c i x h a b d e f g=>
 D g i1 h fun j h=>
 .nm (T51 a b d e f j) h
def DC : KF := K6 y0 y1 y2 y3 y9 y10 fun c i x h a b d e f g=>
 X 12 b g h fun j h=>
 M 12 j h fun k h=>
 C c 5 [k] h fun l h=>
 C c 4 [l] h fun m h=>
 I m (X 12 b g h fun n h=>
 M 12 n h fun o h=>
 C c 5 [o] h fun p h=>
 tR (bs 30 12 1 [i0,i0,i0,i0,iS,i0,i0,i0,iS,iS,.ai,.ai] [.mk 0 12 (.c p)] h) fun q h=>
 tR (df 30 12 f q h) fun s h=>
 x (T51 a b d e s g) h) (x (T51 a b d e f g) h)
def DD : KF := K6 y0 y1 y2 y3 y9 y10 fun c i x h a b d e f g=>
 G b h fun j h=>
 Y g j h fun k h=>
 gD k true (fun l=>l g h) h fun l h=>
 gD k true (fun m=>Y l (pi 20) h fun n h=>
 m n h) h fun m h=>
 tR (dX (.c k) (.c m) (.c (.bool false)) .nil h) fun n h=>
 I n (x (T51 a b d e f g) h) (.ex 0 (T52 a d e f) h)
def k3_1 : KF := K5 y0 y1 y2 y3 y9 fun c i x h a b d e f=>
 x (T51 a b d e f i0) h
def k3_6 : KF := K2 y0 y11 fun c i x h a b=>
 G a h fun d h=>
 tR (cB d (pi 1000) h) fun e h=>
 I e (tR (fu 1 (.c a) .none (.some (.c (pi 1000))) .none .nil h) fun f h=>
 tR (df 5 1 b f h) fun g h=>
 C c 8 [g,(.int .u8 (.ofNat 165))] h fun j h=>
 x (T54 g j) h) (tR (df 5 1 b a h) fun f h=>
 C c 8 [f,(.int .u8 (.ofNat 165))] h fun g h=>
 x (T54 f g) h)
def k3_5 : KF := K4 y0 y2 y3 y9 fun c i x h a b d e=>
 C c 6 [e] h fun f h=>
 G f h fun g h=>
 tR (cB g i0 h) fun j h=>
 I j (G f h fun k h=>
 Z k i1 h fun l h=>
 C c 7 [b,i0,l] h fun m h=>
 X 1 f m h fun n h=>
 L n h fun o h=>
 tR (rK o d h) fun p h=>
 X 1 f m h fun q h=>
 W q p h fun s h=>
 x (T53 a f) h) (x (T53 a f) h)
def k3_0 : KF := K4 y0 y1 y2 y3 fun c i x h a b d e=>
 x (T50 a b d e .ai) h
def x3 : AC := (.ag k3_0 (.seq (.ag k3_1 (.block 0 (.loop (.ag DD (.ag DC (.ag DB .skip)))))) (.ag k3_5 (.ag k3_6 (.seq (.ops [m d67 r13,
 m d68 r11,
 o d69 (.len r68),
 o d70 (.Oj 1 r67 .none (.some r69) .none),
 oc d71 10 [r70],
 m d72 r11,
 oc d73 11 [r72],
 oc d74 9 [r71,r73],
 m d75 r74,
 .g .h4 .hb true d76 (.op (.mv r13)),
 .g .h4 .hb true d77 (.op (.mv r11)),
 .g .h4 .hb true d78 (.call 12 [r76,r77,(.c (.int .u8 (.ofNat 165)))]),
 o d79 (.pick r75 r78 (.c (.bool false))),
 m d80 r79,
 .g .h5 .h0 true d81 (.call 13 []),
 o d82 (.pick r80 r81 (.c (.bool false))),
 m d8 r82]) .ret)))))
def f3 : AF := .mk x3 [.t .h0 .h8]
def k8_2 : KF := K3 y1 y5 y6 fun c i x h a b d=>
 G b h fun e h=>
 Y d e h fun f h=>
 I f (X 1 b d h fun g h=>
 W g a h fun j h=>
 D d i1 h fun k h=>
 .nm (T20 a b k) h) (.ex 0 (T20 a b d) h)
def k8_1 : KF := K3 y0 y1 y5 fun c i x h a b d=>
 G a h fun e h=>
 x (T20 b d e) h
def k8_3 : KF := K1 y5 fun c i x h a=>
 .ret (T18 a) h
def k8_0 : KF := K2 y0 y1 fun c i x h a b=>
 G a h fun d h=>
 D d (pi 80) h fun e h=>
 tR (fh 5 [(.int .u8 (.ofNat 0))] (.c e) (.c e) .nil h) fun f h=>
 tR (FA 1 f a h) fun g h=>
 x (T21 a b f) h
def x8 : AC := (.ag k8_0 (.seq (.ag k8_1 (.block 0 (.loop (.ag k8_2 .skip)))) (.ag k8_3 .skip)))
def f8 : AF := .mk x8 [.t .h0 .h4]
def k11_1 : KF := K3 y3 y4 y22 fun c i x h a b d=>
 I d (.nm (T3 a b) h) (.ex 0 (T3 a b) h)
def k11_3 : KF := K4 y3 y4 y5 y33 fun c i x h a b d e=>
 I e (.ex 1 (T35 a b d) h) (.nm (T35 a b d) h)
def k11_6 : KF := K8 y3 y4 y5 y6 y7 y8 y10 y73 fun c i x h a b d e f g j k=>
 I k (.ex 0 (T57 a b d e f g j) h) (.nm (T57 a b d e f g j) h)
def k11_7 : KF := K7 y3 y4 y5 y6 y7 y8 y10 fun c i x h a b d e f g j=>
 A 1 d h fun k h=>
 W k e h fun l h=>
 A 2 d h fun m h=>
 W m f h fun n h=>
 A 3 d h fun o h=>
 W o g h fun p h=>
 M 7 j h fun q h=>
 A 5 d h fun s h=>
 S 7 s q h fun t h=>
 M 12 d h fun v h=>
 tR (bs 30 12 1 [i0,i0,i0,i0,iS,i0,i0,i0,iS,iS,.ai,.ai] [.mk 0 12 (.c v)] h) fun w h=>
 tR (df 30 12 a w h) fun y h=>
 .nm (T3 y b) h
def k11_5 : KF := K7 y3 y4 y5 y6 y7 y8 y9 fun c i x h a b d e f g j=>
 tR (cK (.Qy 5) j h) fun k h=>
 C c 29 [k] h fun l h=>
 E 0 l h fun m h=>
 E 1 l h fun n h=>
 O 28 7 (.k1 (Y7 i0 i0 i0 iS iS .ai .ai)) h fun o h=>
 S 7 o m h fun p h=>
 x (T56 a b d e f g o n) h
def k11_4 : KF := K3 y3 y4 y5 fun c i x h a b d=>
 C c 27 [b] h fun e h=>
 C c 27 [b] h fun f h=>
 C c 27 [b] h fun g h=>
 C c 28 [b,(pi 255)] h fun j h=>
 A 4 d h fun k h=>
 W k j h fun l h=>
 C c 28 [b,(pi 65535)] h fun m h=>
 x (T55 a b d e f g m) h
def k11_2 : KF := K2 y3 y4 fun c i x h a b=>
 C c 26 [b] h fun d h=>
 U [i0,i0,i0,i0,iS,i0,i0,i0,iS,iS,.ai,.ai] [.mk 0 1 (.c d)] h fun e h=>
 O 30 12 (.k1 (Y12 i0 i0 i0 i0 iS i0 i0 i0 iS iS .ai .ai)) h fun f h=>
 S 12 f e h fun g h=>
 x (T35 a b f) h
def k11_8 : KF := K1 y3 fun c i x h a=>
 .ret (T0 a) h
def k11_0 : KF := K1 y0 fun c i x h a=>
 U [.ai,i0,(.bool false),i0,i0] [.mk 0 1 (.c a)] h fun b h=>
 B 62 b h fun d h=>
 x (T3 .ai d) h
def x11 : AC := (.ag k11_0 (.seq (.block 0 (.loop (.seq (.seq (.ops [m d15 r4,
 oc d16 25 [r15],
 o d17 (.bin .gt r16 a0),
 m d18 r17,
 .g .h1 .h2 true d19 (.op (.mv r3)),
 .g .h1 .h2 true d20 (.op (.len r19)),
 .g .h1 .h2 true d21 (.op (.bin .lt r20 (.c (pi 2048)))),
 o d22 (.pick r18 r21 (.c (.bool false)))]) (.ag k11_1 .skip)) (.block 1 (.ag k11_2 (.seq (.seq (.ops [of d26 0 r5,
 ol d27 r26,
 o d28 (.bin .lt r27 a1),
 m d29 r28,
 .g .h1 .hd false d30 (.op (.fP 0 r5)),
 .g .h1 .hd false d31 (.op (.fQ r30)),
 .g .h1 .hd false d32 (.op (.bin .gt r31 (.c (pi 9)))),
 o d33 (.pick r29 (.c (.bool true)) r32)]) (.ag k11_3 .skip)) (.ag k11_4 (.ag k11_5 (.seq (.seq (.ops [m d51 r4,
 oj d52 r51,
 of d53 2 r52,
 ol d54 r53,
 m d55 r54,
 .g .h3 .h7 false d56 (.op (.mv r11)),
 .g .h3 .h7 false d57 (.op (.bin .ne r56 a0)),
 o d58 (.pick r55 (.c (.bool true)) r57),
 m d59 r58,
 .g .h3 .hb false d60 (.op (.mv r6)),
 .g .h3 .hb false d61 (.call 14 [r60]),
 .g .h3 .hb false d62 (.op (.un .not r61)),
 o d63 (.pick r59 (.c (.bool true)) r62),
 m d64 r63,
 .g .h4 .h0 false d65 (.op (.mv r7)),
 .g .h4 .h0 false d66 (.call 14 [r65]),
 .g .h4 .h0 false d67 (.op (.un .not r66)),
 o d68 (.pick r64 (.c (.bool true)) r67),
 m d69 r68,
 .g .h4 .h5 false d70 (.op (.mv r8)),
 .g .h4 .h5 false d71 (.call 14 [r70]),
 .g .h4 .h5 false d72 (.op (.un .not r71)),
 o d73 (.pick r69 (.c (.bool true)) r72)]) (.ag k11_6 .skip)) (.ag k11_7 .skip)))))))))) (.ag k11_8 .skip)))
def f11 : AF := .mk x11 [.t .h0 .h2]
def k12_1 : KF := K4 y0 y1 y2 y22 fun c i x h a b d e=>
 I e (.ret (T37 (.bool false)) h) (.nm (T58 a b d) h)
def k12_3 : KF := K3 y0 y2 y7 fun c i x h a b d=>
 G a h fun e h=>
 Y d e h fun f h=>
 I f (X 1 a d h fun g h=>
 L g h fun j h=>
 tR (ig j b h) fun k h=>
 I k (.ret (T37 (.bool false)) h) (D d i1 h fun l h=>
 .nm (T59 a b l) h)) (.ex 0 (T59 a b d) h)
def k12_2 : KF := K3 y0 y1 y2 fun c i x h a b d=>
 G b h fun e h=>
 x (T59 a d e) h
def k12_4 : KF := fun c i x r h=>
 .ret (T37 (.bool true)) h
def k12_0 : KF := K3 y0 y1 y2 fun c i x h a b d=>
 x (T58 a b d) h
def x12 : AC := (.ag k12_0 (.seq (.seq (.ops [m d8 r0,
 o d9 (.len r8),
 m d10 r1,
 o d11 (.len r10),
 o d12 (.bin .add r11 (.c (pi 80))),
 o d13 (.bin .ne r9 r12),
 m d14 r13,
 .g .h0 .he false d15 (.op (.mv r0)),
 .g .h0 .he false d16 (.op (.mv r1)),
 .g .h0 .he false d17 (.op (.len r16)),
 .g .h0 .he false d18 (.op (.Oj 1 r15 .none (.some r17) .none)),
 .g .h0 .he false d19 (.op (.mv r1)),
 .g .h0 .he false d20 (.call 30 [r18,r19]),
 .g .h0 .he false d21 (.op (.un .not r20)),
 o d22 (.pick r14 (.c (.bool true)) r21)]) (.ag k12_1 .skip)) (.seq (.ag k12_2 (.block 0 (.loop (.ag k12_3 .skip)))) (.ag k12_4 .skip))))
def f12 : AF := .mk x12 [.t .h0 .h6]
def k25_0 : KF := K1 y0 fun c i x h a=>
 J a h fun b h=>
 A 2 b h fun d h=>
 L d h fun e h=>
 I e (.ret (T0 i0) h) (tQ (nC a h) fun f=>
 tQ (fA 0 f h) fun g=>
 tQ (lD g h) fun j=>
 tQ (len j h) fun k=>
 tQ (nC a h) fun l=>
 tQ (fA 1 l h) fun m=>
 tQ (lD m h) fun n=>
 tQ (kU k n h) fun o=>
 .ret (T0 o) h)
def x25 : AC := (.ag k25_0 .skip)
def f25 : AF := .mk x25 [.t .h0 .h2]
def k26_0 : KF := K1 y0 fun c i x h a=>
 C c 49 [a,i1] h fun b h=>
 tR (cK (.toInt .i64) b h) fun d h=>
 .ret (T0 d) h
def x26 : AC := (.ag k26_0 .skip)
def f26 : AF := .mk x26 [.t .h0 .h2]
def k27_0 : KF := K1 y0 fun c i x h a=>
 C c 49 [a,(pi 8)] h fun b h=>
 tR (cK (.toInt .i64) b h) fun d h=>
 .ret (T0 d) h
def x27 : AC := (.ag k27_0 .skip)
def f27 : AF := .mk x27 [.t .h0 .h2]
def k28_1 : KF := K4 y0 y5 y6 y24 fun c i x h a b d e=>
 I e (C c 51 [a,(pi 3),b] h fun f h=>
 .ret (T18 iS) h) (.nm (T47 a d) h)
def k28_2 : KF := K2 y0 y6 fun c i x h a b=>
 C c 52 [a,b] h fun d h=>
 tR (cK .Kh d h) fun e h=>
 .ret (T18 e) h
def k28_0 : KF := K2 y0 y1 fun c i x h a b=>
 J a h fun d h=>
 A 1 d h fun e h=>
 L e h fun f h=>
 C c 50 [a] h fun g h=>
 Y b i0 h fun j h=>
 I j (x (T22 a i0 f g) h) (x (T22 a b f g) h)
def x28 : AC := (.ag k28_0 (.seq (.seq (.ops [m d15 r0,
 oj d16 r15,
 of d17 2 r16,
 ol d18 r17,
 o d19 (.un .not r18),
 m d20 r19,
 .g .h1 .h4 true d21 (.op (.mv r6)),
 .g .h1 .h4 true d22 (.op (.mv r1)),
 .g .h1 .h4 true d23 (.op (.bin .gt r21 r22)),
 o d24 (.pick r20 r23 (.c (.bool false)))]) (.ag k28_1 .skip)) (.ag k28_2 .skip)))
def f28 : AF := .mk x28 [.t .h0 .h4]
def k30_2 : KF := K3 y0 y1 y5 fun c i x h a b d=>
 G a h fun e h=>
 Y d e h fun f h=>
 I f (tQ (iX 1 a d h) fun g=>
 tQ (lD g h) fun j=>
 tQ (iX 1 b d h) fun k=>
 tQ (lD k h) fun l=>
 tQ (ig j l h) fun m=>
 I m (.ret (T18 (.bool false)) h) (D d i1 h fun n h=>
 .nm (T21 a b n) h)) (.ex 0 (T21 a b d) h)
def k30_1 : KF := K2 y0 y1 fun c i x h a b=>
 x (T21 a b i0) h
def k30_3 : KF := fun c i x r h=>
 .ret (T18 (.bool true)) h
def k30_0 : KF := K2 y0 y1 fun c i x h a b=>
 G a h fun d h=>
 G b h fun e h=>
 tR (ig d e h) fun f h=>
 I f (.ret (T18 (.bool false)) h) (x (T36 a b) h)
def x30 : AC := (.ag k30_0 (.seq (.ag k30_1 (.block 0 (.loop (.ag k30_2 .skip)))) (.ag k30_3 .skip)))
def f30 : AF := .mk x30 [.t .h0 .h4]
def k49_2 : KF := K3 y5 y6 y7 fun c i x h a b d=>
 tR (we d i0 h) fun e h=>
 I e (tR (bK .shl b (.int .u64 (.ofNat 8)) h) fun f h=>
 X 1 a d h fun g h=>
 L g h fun j h=>
 tR (cK (.toInt .u64) j h) fun k h=>
 tR (Fy f k h) fun l h=>
 Z d i1 h fun m h=>
 .nm (T32 a l m) h) (.ex 0 (T32 a b d) h)
def k49_1 : KF := K2 y5 y6 fun c i x h a b=>
 G a h fun d h=>
 Z d i1 h fun e h=>
 x (T32 a b e) h
def k49_3 : KF := K1 y6 fun c i x h a=>
 .ret (T18 a) h
def k49_0 : KF := K2 y0 y1 fun c i x h a b=>
 C c 52 [a,b] h fun d h=>
 x (T60 d (.int .u64 (.ofNat 0))) h
def x49 : AC := (.ag k49_0 (.seq (.ag k49_1 (.block 0 (.loop (.ag k49_2 .skip)))) (.ag k49_3 .skip)))
def f49 : AF := .mk x49 [.t .h0 .h4]
def k50_0 : KF := K1 y0 fun c i x h a=>
 C c 49 [a,(pi 2)] h fun b h=>
 tR (cK (.toInt .i64) b h) fun d h=>
 .ret (T0 d) h
def x50 : AC := (.ag k50_0 .skip)
def f50 : AF := .mk x50 [.t .h0 .h2]
def k51_0 : KF := K3 y0 y1 y2 fun c i x h a b d=>
 J a h fun e h=>
 A 2 e h fun f h=>
 L f h fun g h=>
 tR (jz g h) fun j h=>
 I j (J a h fun k h=>
 A 2 k h fun l h=>
 W l (.bool true) h fun m h=>
 J a h fun n h=>
 A 3 n h fun o h=>
 W o b h fun p h=>
 J a h fun q h=>
 A 4 q h fun s h=>
 W s d h fun t h=>
 .nm T5 h) (.nm T5 h)
def x51 : AC := (.ag k51_0 .skip)
def f51 : AF := .mk x51 []
def k52_2 : KF := K3 y0 y1 y5 fun c i x h a b d=>
 J a h fun e h=>
 A 1 e h fun f h=>
 L f h fun g h=>
 D g b h fun j h=>
 J a h fun k h=>
 A 1 k h fun l h=>
 W l j h fun m h=>
 .ret (T18 d) h
def k52_1 : KF := K2 y0 y1 fun c i x h a b=>
 tQ (nC a h) fun d=>
 tQ (fA 0 d h) fun e=>
 tQ (lD e h) fun f=>
 tQ (len f h) fun g=>
 tQ (nC a h) fun j=>
 tQ (fA 1 j h) fun k=>
 tQ (lD k h) fun l=>
 tQ (kU g l h) fun m=>
 tQ (pq m b h) fun n=>
 I n (J a h fun o h=>
 A 0 o h fun p h=>
 L p h fun q h=>
 G q h fun s h=>
 C c 51 [a,(pi 10),s] h fun t h=>
 .ret (T18 .ai) h) (x (T36 a b) h)
def k52_0 : KF := K2 y0 y1 fun c i x h a b=>
 J a h fun d h=>
 A 2 d h fun e h=>
 L e h fun f h=>
 I f (.ret (T18 .ai) h) (x (T36 a b) h)
def x52 : AC := (.ag k52_0 (.ag k52_1 (.seq (.nT [w (o d29 (.cG 5 1 0 [] [])),
 q 1 (m d30 r0),
 qj 1 d31 r30,
 qf 1 d32 0 r31,
 ql 1 d33 r32,
 q 1 (m d34 r0),
 qj 1 d35 r34,
 qf 1 d36 1 r35,
 ql 1 d37 r36,
 q 1 (m d38 r0),
 qj 1 d39 r38,
 qf 1 d40 1 r39,
 ql 1 d41 r40,
 q 1 (m d42 r1),
 q 1 (o d43 (.bin .add r41 r42)),
 q 1 (o d44 (.Oj 1 r33 (.some r37) (.some r43) .none)),
 w (o d45 (.app 5 1 r29 r44)),
 q 0 (m d5 r45)]) (.ag k52_2 .skip))))
def f52 : AF := .mk x52 [.t .h0 .h4]
def k32_4 : KF := K4 y3 y6 y7 y8 fun c i x h a b d e=>
 D e i1 h fun f h=>
 .nm (T61 a b d f) h
def k32_3 : KF := K4 y3 y6 y7 y8 fun c i x h a b d e=>
 X 18 b e h fun f h=>
 M 18 f h fun g h=>
 O 80 18 (.k2 (.mk (.mk i0 i0 i0 i0 i0 i0 iS i0 i0 i0 iS iS .ai .ai i0 i0) (Y2 iS .ai) .nil .nil .nil .nil .nil .nil .nil .nil .nil .nil .nil .nil .nil .nil)) h fun j h=>
 S 18 j g h fun k h=>
 A 0 j h fun l h=>
 L l h fun m h=>
 Q m i1 h fun n h=>
 I n (C c 59 [a,(.str [99,97,108,108,32])] h fun o h=>
 A 1 j h fun p h=>
 L p h fun q h=>
 C c 60 [q] h fun s h=>
 C c 59 [a,s] h fun t h=>
 A 0 j h fun v h=>
 L v h fun w h=>
 Q w (pi 2) h fun y h=>
 I y (M 18 j h fun z h=>
 C c 61 [a,z] h fun a0 h=>
 C c 59 [a,(.str [10])] h fun a1 h=>
 x (T61 a b d e) h) (C c 59 [a,(.str [10])] h fun z h=>
 x (T61 a b d e) h)) (Q m (pi 2) h fun o h=>
 I o (C c 59 [a,(.str [100,111,110,101,32])] h fun p h=>
 A 1 j h fun q h=>
 L q h fun s h=>
 C c 60 [s] h fun t h=>
 C c 59 [a,t] h fun v h=>
 A 0 j h fun w h=>
 L w h fun y h=>
 Q y (pi 2) h fun z h=>
 I z (M 18 j h fun a0 h=>
 C c 61 [a,a0] h fun a1 h=>
 C c 59 [a,(.str [10])] h fun a2 h=>
 x (T61 a b d e) h) (C c 59 [a,(.str [10])] h fun a0 h=>
 x (T61 a b d e) h)) (Q m (pi 3) h fun p h=>
 I p (C c 59 [a,(.str [98,117,115,121,32])] h fun q h=>
 A 1 j h fun s h=>
 L s h fun t h=>
 C c 60 [t] h fun v h=>
 C c 59 [a,v] h fun w h=>
 A 0 j h fun y h=>
 L y h fun z h=>
 Q z (pi 2) h fun a0 h=>
 I a0 (M 18 j h fun a1 h=>
 C c 61 [a,a1] h fun a2 h=>
 C c 59 [a,(.str [10])] h fun a3 h=>
 x (T61 a b d e) h) (C c 59 [a,(.str [10])] h fun a1 h=>
 x (T61 a b d e) h)) (x (T61 a b d e) h)))
def k32_2 : KF := K4 y3 y6 y7 y8 fun c i x h a b d e=>
 Y e d h fun f h=>
 I f (x (T61 a b d e) h) (.ex 0 (T2 a) h)
def k32_1 : KF := K2 y0 y3 fun c i x h a b=>
 G a h fun d h=>
 x (T61 b a d i0) h
def k32_5 : KF := K1 y3 fun c i x h a=>
 C c 62 [a] h fun b h=>
 .ret (T0 b) h
def k32_0 : KF := K1 y0 fun c i x h a=>
 O 112 2 (.k1 (Y2 .cV .ai)) h fun b h=>
 x (T7 a b) h
def x32 : AC := (.ag k32_0 (.seq (.ag k32_1 (.block 0 (.loop (.ag k32_2 (.ag k32_3 (.ag k32_4 .skip)))))) (.ag k32_5 .skip)))
def f32 : AF := .mk x32 [.t .h0 .h2]
def k59_0 : KF := K2 y0 y1 fun c i x h a b=>
 C c 86 [a] h fun d h=>
 J a h fun e h=>
 A 1 e h fun f h=>
 L f h fun g h=>
 tR (jj 5 (.c g) (.c b) .nil h) fun j h=>
 J a h fun k h=>
 A 1 k h fun l h=>
 W l j h fun m h=>
 tR (jA b h) fun n h=>
 .ret (T62 n .xP) h
def x59 : AC := (.ag k59_0 .skip)
def f59 : AF := .mk x59 [.t .h0 .h4,.t .h0 .h5]
def k60_0 : KF := K1 y0 fun c i x h a=>
 C c 87 [a] h fun b h=>
 .ret (T0 b) h
def x60 : AC := (.ag k60_0 .skip)
def f60 : AF := .mk x60 [.t .h0 .h2]
def k61_5 : KF := K9 y0 y5 y6 y28 y29 y30 y35 y36 y37 fun c i x h a b d e f g j k l=>
 Y l k h fun m h=>
 I m (X 3 j l h fun n h=>
 M 3 n h fun o h=>
 O 48 3 (.k1 (Y3 i0 i0 iS)) h fun p h=>
 S 3 p o h fun q h=>
 M 3 p h fun s h=>
 C c 88 [s] h fun t h=>
 tR (bs 9 1 1 [iS] [.mk 0 1 (.c t)] h) fun v h=>
 tR (df 9 1 d v h) fun w h=>
 D l i1 h fun y h=>
 .nm (T65 a b w e f g j k y) h) (.ex 2 (T65 a b d e f g j k l) h)
def k61_4 : KF := K6 y0 y5 y6 y28 y29 y30 fun c i x h a b d e f g=>
 A 0 b h fun j h=>
 L j h fun k h=>
 G k h fun l h=>
 x (T65 a b d e f g k l i0) h
def k61_3 : KF := K4 y0 y28 y29 y30 fun c i x h a b d e=>
 X 2 b e h fun f h=>
 M 2 f h fun g h=>
 O 148 2 (.k1 (Y2 .ai (.gN .f64 0 0))) h fun j h=>
 S 2 j g h fun k h=>
 x (T64 a j .ai b d e) h
def k61_6 : KF := K4 y0 y28 y29 y30 fun c i x h a b d e=>
 D e i1 h fun f h=>
 .nm (T63 a b d f) h
def k61_2 : KF := K4 y0 y28 y29 y30 fun c i x h a b d e=>
 Y e d h fun f h=>
 I f (x (T63 a b d e) h) (.ex 0 T5 h)
def k61_1 : KF := K2 y0 y3 fun c i x h a b=>
 A 17 b h fun d h=>
 L d h fun e h=>
 G e h fun f h=>
 x (T63 a e f i0) h
def k61_0 : KF := K2 y0 y1 fun c i x h a b=>
 B 80 b h fun d h=>
 x (T7 a d) h
def x61 : AC := (.ag k61_0 (.seq (.nT [qf 0 d10 14 r3,
 qf 0 d11 0 r10,
 ql 0 d12 r11,
 w (oc d13 60 [r12]),
 qf 1 d16 14 r3,
 qf 1 d17 1 r16,
 ql 1 d18 r17,
 w (oc d19 60 [r18]),
 q 2 (m d9 r0),
 q 1 (o d14 (.bin .cat (.c (.str [32])) r13)),
 q 1 (o d15 (.bin .cat r14 (.c (.str [32])))),
 q 0 (o d20 (.bin .cat r15 r19)),
 q 0 (o d21 (.bin .cat r20 (.c (.str [32])))),
 qf 2 d22 14 r3,
 qf 2 d23 2 r22,
 ql 2 d24 r23,
 q 0 (o d25 (.bin .cat r21 r24)),
 w (oc d26 59 [r9,r25])]) (.ag k61_1 (.block 0 (.loop (.ag k61_2 (.seq (.block 1 (.ag k61_3 (.seq (.ag k61_4 (.block 2 (.loop (.ag k61_5 .skip)))) (.nT [q 0 (m d48 r6),
 w (oc d49 89 [r48,(.c (.str [32]))]),
 qf 1 d52 1 r5,
 ql 1 d53 r52,
 w (oc d54 91 [r53]),
 w (oc d55 90 [r54,(.c (pi 10))]),
 q 3 (m d47 r0),
 q 2 (o d50 (.bin .cat (.c (.str [32,91])) r49)),
 q 2 (o d51 (.bin .cat r50 (.c (.str [93,42])))),
 q 0 (o d56 (.bin .cat r51 r55)),
 w (oc d57 59 [r47,r56])])))) (.ag k61_6 .skip))))))))
def f61 : AF := .mk x61 []
def k62_0 : KF := K1 y0 fun c i x h a=>
 tQ (nC a h) fun b=>
 tQ (fA 1 b h) fun d=>
 tQ (lD d h) fun e=>
 tQ (lr (.c e) .nil h) fun f=>
 tQ (nC a h) fun g=>
 tQ (fA 1 g h) fun j=>
 tQ (lD j h) fun k=>
 tQ (len k h) fun l=>
 tX (RV.nU (na 5 (.c f) (.c l) .nil h)) fun m h=>
 .ret (T0 m) h
def x62 : AC := (.ag k62_0 .skip)
def f62 : AF := .mk x62 [.t .h0 .h2]
def k86_1 : KF := K1 y0 fun c i x h a=>
 tR (cK .SD a h) fun b h=>
 C c 112 [b] h fun d h=>
 tR (cK (.FB 112 2) d h) fun e h=>
 J a h fun f h=>
 A 0 f h fun g h=>
 W g e h fun j h=>
 .nm T5 h
def k86_2 : KF := K1 y0 fun c i x h a=>
 J a h fun b h=>
 A 0 b h fun d h=>
 L d h fun e h=>
 tR (bK .SE e a h) fun f h=>
 x (T66 f) h
def k86_0 : KF := K1 y0 fun c i x h a=>
 J a h fun b h=>
 A 0 b h fun d h=>
 L d h fun e h=>
 tR (bK .rL e .cV h) fun f h=>
 x (T47 a f) h
def x86 : AC := (.ag k86_0 (.cond r6 (.ag k86_1 .skip) (.ag k86_2 (.cond r19 (.bad 403) .skip))))
def f86 : AF := .mk x86 []
def k87_0 : KF := K1 y0 fun c i x h a=>
 C c 113 [a,(pi 10)] h fun b h=>
 .ret (T0 b) h
def x87 : AC := (.ag k87_0 .skip)
def f87 : AF := .mk x87 [.t .h0 .h2]
def k113_4 : KF := K4 y0 y5 y6 y7 fun c i x h a b d e=>
 D i1 e h fun f h=>
 tR (jU 24 1 (.c b) (.some (.c i1)) (.some (.c f)) .none .nil h) fun g h=>
 C c 146 [g,d] h fun j h=>
 Y a i0 h fun k h=>
 I k (tR (Ok 24 1 b i0 h) fun l h=>
 W l (.int .u8 (.ofNat 45)) h fun m h=>
 D i1 e h fun n h=>
 tR (jU 24 1 (.c b) .none (.some (.c n)) .none .nil h) fun o h=>
 tR (cK .Kh o h) fun p h=>
 .ret (T18 p) h) (D i1 e h fun l h=>
 tR (jU 24 1 (.c b) (.some (.c i1)) (.some (.c l)) .none .nil h) fun m h=>
 tR (cK .Kh m h) fun n h=>
 .ret (T18 n) h)
def k113_3 : KF := K1 y0 fun c i x h a=>
 O 239 24 (.k2 (.mk (.mk (.int .u8 (.ofNat 0)) (.int .u8 (.ofNat 0)) (.int .u8 (.ofNat 0)) (.int .u8 (.ofNat 0)) (.int .u8 (.ofNat 0)) (.int .u8 (.ofNat 0)) (.int .u8 (.ofNat 0)) (.int .u8 (.ofNat 0)) (.int .u8 (.ofNat 0)) (.int .u8 (.ofNat 0)) (.int .u8 (.ofNat 0)) (.int .u8 (.ofNat 0)) (.int .u8 (.ofNat 0)) (.int .u8 (.ofNat 0)) (.int .u8 (.ofNat 0)) (.int .u8 (.ofNat 0))) (Y8 (.int .u8 (.ofNat 0)) (.int .u8 (.ofNat 0)) (.int .u8 (.ofNat 0)) (.int .u8 (.ofNat 0)) (.int .u8 (.ofNat 0)) (.int .u8 (.ofNat 0)) (.int .u8 (.ofNat 0)) (.int .u8 (.ofNat 0))) .nil .nil .nil .nil .nil .nil .nil .nil .nil .nil .nil .nil .nil .nil)) h fun b h=>
 tR (cK (.toInt .u64) a h) fun d h=>
 Y a i0 h fun e h=>
 I e (tR (Ca d h) fun f h=>
 C c 145 [f] h fun g h=>
 x (T68 a b f g) h) (C c 145 [d] h fun f h=>
 x (T68 a b d f) h)
def k113_2 : KF := K1 y0 fun c i x h a=>
 tR (FC i0 a h) fun b h=>
 gD b true (fun d=>d a h) h fun d h=>
 gD b true (fun e=>Y d (pi 100) h fun f h=>
 e f h) h fun e h=>
 tR (dX (.c b) (.c e) (.c (.bool false)) .nil h) fun f h=>
 I f (C c 144 [a] h fun g h=>
 .ret (T18 g) h) (x (T13 a) h)
def k113_1 : KF := K2 y0 y1 fun c i x h a b=>
 Q b (pi 10) h fun d h=>
 x (T67 a b d) h
def k113_5 : KF := K2 y0 y1 fun c i x h a b=>
 tR (cK (.toInt .u64) a h) fun d h=>
 Y a i0 h fun e h=>
 C c 147 [.ai,d,b,e,(.bool false)] h fun f h=>
 E 0 f h fun g h=>
 E 1 f h fun j h=>
 .ret (T18 j) h
def k113_0 : KF := K2 y0 y1 fun c i x h a b=>
 x (T36 a b) h
def x113 : AC := (.ag k113_0 (.seq (.ag k113_1 (.cond r11 (.ag k113_2 (.ag k113_3 (.ag k113_4 .skip))) .skip)) (.ag k113_5 .skip)))
def f113 : AF := .mk x113 [.t .h0 .h4]
def k144_0 : KF := K1 y0 fun c i x h a=>
 Y a (pi 10) h fun b h=>
 I b (D a i1 h fun d h=>
 tR (fw (.c (.str [48,49,50,51,52,53,54,55,56,57,97,98,99,100,101,102,103,104,105,106,107,108,109,110,111,112,113,114,115,116,117,118,119,120,121,122])) (.some (.c a)) (.some (.c d)) .nil h) fun e h=>
 .ret (T0 e) h) (tR (uF a (pi 2) h) fun d h=>
 tR (uF a (pi 2) h) fun e h=>
 D e (pi 2) h fun f h=>
 tR (fw (.c (.str [48,48,48,49,48,50,48,51,48,52,48,53,48,54,48,55,48,56,48,57,49,48,49,49,49,50,49,51,49,52,49,53,49,54,49,55,49,56,49,57,50,48,50,49,50,50,50,51,50,52,50,53,50,54,50,55,50,56,50,57,51,48,51,49,51,50,51,51,51,52,51,53,51,54,51,55,51,56,51,57,52,48,52,49,52,50,52,51,52,52,52,53,52,54,52,55,52,56,52,57,53,48,53,49,53,50,53,51,53,52,53,53,53,54,53,55,53,56,53,57,54,48,54,49,54,50,54,51,54,52,54,53,54,54,54,55,54,56,54,57,55,48,55,49,55,50,55,51,55,52,55,53,55,54,55,55,55,56,55,57,56,48,56,49,56,50,56,51,56,52,56,53,56,54,56,55,56,56,56,57,57,48,57,49,57,50,57,51,57,52,57,53,57,54,57,55,57,56,57,57])) (.some (.c d)) (.some (.c f)) .nil h) fun g h=>
 .ret (T0 g) h)
def x144 : AC := (.ag k144_0 .skip)
def f144 : AF := .mk x144 [.t .h0 .h2]
def k13_0 : KF := fun c i x r h=>
 C c 31 [(pi 3),.ai] h fun a h=>
 O 72 3 (.k1 (Y3 i0 .ai .ai)) h fun b h=>
 S 3 b a h fun d h=>
 x (T26 b) h
def x13 : AC := (.ag k13_0 (.seq (.ops [of d3 0 r1,
 ol d4 r3,
 o d5 (.bin .eq r4 a0),
 m d6 r5,
 .g .h0 .h6 true d7 (.op (.fP 1 r1)),
 .g .h0 .h6 true d8 (.op (.fQ r7)),
 .g .h0 .h6 true d9 (.op (.len r8)),
 .g .h0 .h6 true d10 (.op (.bin .eq r9 a0)),
 o d11 (.pick r6 r10 (.c (.bool false))),
 m d12 r11,
 .g .h0 .hc true d13 (.op (.fP 2 r1)),
 .g .h0 .hc true d14 (.op (.fQ r13)),
 .g .h0 .hc true d15 (.op (.len r14)),
 .g .h0 .hc true d16 (.op (.bin .eq r15 a0)),
 o d17 (.pick r12 r16 (.c (.bool false))),
 m d18 r17,
 .g .h1 .h2 true d19 (.op (.build [i0,i0,i0,i0,i0,i0,iS,i0,i0,i0,iS,iS,.ai,.ai,i0,i0,iS,.ai] [.mk 0 1 a2,.mk 1 1 (.c (pi 3))])),
 .g .h1 .h2 true d20 (.op (.cG 80 18 1 [i0,i0,i0,i0,i0,i0,iS,i0,i0,i0,iS,iS,.ai,.ai,i0,i0,iS,.ai] [.mk 0 18 r19])),
 .g .h1 .h2 true d21 (.call 32 [r20]),
 .g .h1 .h2 true d22 (.op (.bin .seq r21 (.c (.str [100,111,110,101,32,51,32,48,32,48,32,10])))),
 o d23 (.pick r18 r22 (.c (.bool false))),
 m d0 r23]) .ret))
def f13 : AF := .mk x13 [.t .h0 .h0]
def k31_3 : KF := K5 y1 y4 y5 y7 y8 fun c i x h a b d e f=>
 D f i1 h fun g h=>
 .nm (T70 a b d e g) h
def k31_2 : KF := K5 y1 y4 y5 y7 y8 fun c i x h a b d e f=>
 G a h fun g h=>
 Y f g h fun j h=>
 gD j true (fun k=>k f h) h fun k h=>
 gD j true (fun l=>Y k (pi 2048) h fun m h=>
 l m h) h fun l h=>
 tR (dX (.c j) (.c l) (.c (.bool false)) .nil h) fun m h=>
 I m (x (T70 a b d e f) h) (.ex 0 (T71 b d e) h)
def k31_1 : KF := K4 y1 y4 y5 y7 fun c i x h a b d e=>
 x (T70 a b d e i0) h
def k31_4 : KF := K3 y4 y5 y7 fun c i x h a b d=>
 C c 58 [b] h fun e h=>
 A 2 d h fun f h=>
 W f e h fun g h=>
 M 3 d h fun j h=>
 S 3 a j h fun k h=>
 .ret (T18 a) h
def k31_0 : KF := K2 y0 y1 fun c i x h a b=>
 O 72 3 (.k1 (Y3 i0 .ai .ai)) h fun d h=>
 C c 56 [a] h fun e h=>
 E 0 e h fun f h=>
 E 1 e h fun g h=>
 tR (ig g i0 h) fun j h=>
 I j (U [i0,.ai,.ai] [.mk 0 1 (.c g)] h fun k h=>
 S 3 d k h fun l h=>
 .ret (T18 d) h) (O 72 3 (.k1 (Y3 i0 .ai .ai)) h fun k h=>
 x (T69 b d f k) h)
def x31 : AC := (.ag k31_0 (.seq (.ag k31_1 (.block 0 (.loop (.ag k31_2 (.seq (.block 1 (.nT [q 0 (m d30 r5),
 q 0 (m d31 r1),
 q 0 (m d32 r8),
 q 0 (o d33 (.Fp 12 r31 r32)),
 q 0 (o d34 (.pk 12 r33)),
 w (oc d35 57 [r30,r34]),
 qf 1 d28 1 r7,
 ql 1 d29 r28,
 w (o d36 (.app 80 18 r29 r35)),
 qf 0 d37 1 r7,
 w (os r37 r36)])) (.ag k31_3 .skip)))))) (.ag k31_4 .skip)))
def f31 : AF := .mk x31 [.agg 3 .h0 .h4]
def k56_3 : KF := K3 y6 y21 y22 fun c i x h a b d=>
 D d i1 h fun e h=>
 .nm (T72 a b e) h
def k56_2 : KF := K3 y6 y21 y22 fun c i x h a b d=>
 Y d b h fun e h=>
 I e (x (T72 a b d) h) (.ex 0 (T37 a) h)
def k56_1 : KF := K2 y0 y6 fun c i x h a b=>
 x (T72 b a i0) h
def k56_4 : KF := K1 y6 fun c i x h a=>
 .ret (T40 a i0) h
def k56_0 : KF := K1 y0 fun c i x h a=>
 C c 73 [a] h fun b h=>
 E 0 b h fun d h=>
 E 1 b h fun e h=>
 tR (ig e i0 h) fun f h=>
 I f (.ret (T40 .cV e) h) (tR (fh 3 [i0] (.c a) (.c a) .nil h) fun g h=>
 U [.cV,i0,.ai,.ai,(.bool false),(.bool false),i0,i0,i0,i0,i0,iS,i0,i0,i0,iS,iS,.ai,.ai,iS,i0,i0,(.bool false),(.bool false),i0,i0,i0,i0,i0,iS,i0,i0,i0,iS,iS,.ai,.ai,iS,i0,i0,(.bool false),(.bool false),i0,i0,i0,i0,i0,iS,i0,i0,i0,iS,iS,.ai,.ai,iS,i0,i0,(.bool false),(.bool false),i0,i0,i0,i0,i0,iS,i0,i0,i0,iS,iS,.ai,.ai,iS,i0,i0,(.bool false),(.bool false),i0,i0,i0,i0,i0,iS,i0,i0,i0,iS,iS,.ai,.ai,iS,i0,i0,(.bool false),(.bool false),i0,i0,i0,i0,i0,iS,i0,i0,i0,iS,iS,.ai,.ai,iS,i0,i0,(.bool false),(.bool false),i0,i0,i0,i0,i0,iS,i0,i0,i0,iS,iS,.ai,.ai,iS,i0,i0,(.bool false),(.bool false),i0,i0,i0,i0,i0,iS,i0,i0,i0,iS,iS,.ai,.ai,iS,i0,i0,(.bool false),(.bool false),i0,i0,i0,i0,i0,iS,i0,i0,i0,iS,iS,.ai,.ai,iS,i0,i0,(.bool false),(.bool false),i0,i0,i0,i0,i0,iS,i0,i0,i0,iS,iS,.ai,.ai,iS,i0,i0,(.bool false),(.bool false),i0,i0,i0,i0,i0,iS,i0,i0,i0,iS,iS,.ai,.ai,iS,i0,i0,(.bool false),(.bool false),i0,i0,i0,i0,i0,iS,i0,i0,i0,iS,iS,.ai,.ai,iS,i0,i0,(.bool false),(.bool false),i0,i0,i0,i0,i0,iS,i0,i0,i0,iS,iS,.ai,.ai,iS,i0,i0,(.bool false),(.bool false),i0,i0,i0,i0,i0,iS,i0,i0,i0,iS,iS,.ai,.ai,iS,i0,i0,(.bool false),(.bool false),i0,i0,i0,i0,i0,iS,i0,i0,i0,iS,iS,.ai,.ai,iS,i0,i0,(.bool false),(.bool false),i0,i0,i0,i0,i0,iS,i0,i0,i0,iS,iS,.ai,.ai,iS,i0,i0,i0,.ai] [.mk 0 1 (.c d),.mk 1 1 (.c a),.mk 3 1 (.c g)] h fun j h=>
 B 136 j h fun k h=>
 x (T47 a k) h)
def x56 : AC := (.ag k56_0 (.seq (.ag k56_1 (.block 0 (.loop (.ag k56_2 (.seq (.block 1 (.nT [w (oc d29 74 []),
 w (o d30 (.cG 137 1 1 [.cV] [.mk 0 1 r29])),
 q 2 (m d25 r6),
 qj 2 d26 r25,
 qf 2 d27 2 r26,
 ql 2 d28 r27,
 w (o d31 (.app 137 1 r28 r30)),
 q 3 (m d24 r6),
 qj 0 d32 r24,
 qf 0 d33 2 r32,
 w (os r33 r31)])) (.ag k56_3 .skip)))))) (.ag k56_4 .skip)))
def f56 : AF := .mk x56 [.t .h0 .h2,.t .h0 .h3]
def k58_2 : KF := K3 y3 y9 y10 fun c i x h a b d=>
 Y d (pi 16) h fun e h=>
 I e (tR (nc 16 18 true (.c b) (.c d) .nil h) fun f h=>
 O 133 18 (.k2 (.mk (.mk (.bool false) (.bool false) i0 i0 i0 i0 i0 iS i0 i0 i0 iS iS .ai .ai iS) (Y2 i0 i0) .nil .nil .nil .nil .nil .nil .nil .nil .nil .nil .nil .nil .nil .nil)) h fun g h=>
 S 18 g f h fun j h=>
 A 0 g h fun k h=>
 L k h fun l h=>
 I l (tR (bs 3 1 1 [i0] [.mk 0 1 (.c d)] h) fun m h=>
 tR (df 3 1 a m h) fun n h=>
 D d i1 h fun o h=>
 .nm (T73 n b o) h) (D d i1 h fun m h=>
 .nm (T73 a b m) h)) (.ex 0 (T73 a b d) h)
def k58_1 : KF := K2 y0 y3 fun c i x h a b=>
 J a h fun d h=>
 A 4 d h fun e h=>
 M 288 e h fun f h=>
 x (T73 b f i0) h
def k58_3 : KF := K1 y3 fun c i x h a=>
 .ret (T0 a) h
def k58_0 : KF := K1 y0 fun c i x h a=>
 x (T7 a .ai) h
def x58 : AC := (.ag k58_0 (.seq (.ag k58_1 (.block 0 (.loop (.ag k58_2 .skip)))) (.ag k58_3 .skip)))
def f58 : AF := .mk x58 [.t .h0 .h2]
def k73_1 : KF := K1 y0 fun c i x h a=>
 U [i0,iS,.ai,i0,iS,.ai,i0,iS,.ai,i0,iS,.ai,i0,iS,.ai,.ai] [] h fun b h=>
 B 161 b h fun d h=>
 U [.cV,.cV] [.mk 1 1 (.c d)] h fun e h=>
 B 164 e h fun f h=>
 J f h fun g h=>
 A 1 g h fun j h=>
 L j h fun k h=>
 C c 93 [a,(.iface 156 k)] h fun l h=>
 J f h fun m h=>
 A 0 m h fun n h=>
 W n l h fun o h=>
 .ret (T40 f i0) h
def k73_0 : KF := K1 y0 fun c i x h a=>
 Y a i1 h fun b h=>
 gD b false (fun d=>d a h) h fun d h=>
 gD b false (fun e=>tR (cB d (pi 5) h) fun f h=>
 e f h) h fun e h=>
 tR (dX (.c b) (.c (.bool true)) (.c e) .nil h) fun f h=>
 I f (.ret (T40 .cV i1) h) (x (T13 a) h)
def x73 : AC := (.ag k73_0 (.ag k73_1 .skip))
def f73 : AF := .mk x73 [.t .h0 .h2,.t .h0 .h3]
def k74_0 : KF := fun c i x r h=>
 C c 94 [] h fun a h=>
 U [.cV,i0] [.mk 0 1 (.c a)] h fun b h=>
 B 169 b h fun d h=>
 .ret (T13 d) h
def x74 : AC := (.ag k74_0 .skip)
def f74 : AF := .mk x74 [.t .h0 .h0]
def k93_3 : KF := K3 y5 y12 y13 fun c i x h a b d=>
 x (T77 a d b d) h
def k93_4 : KF := K3 y5 y12 y13 fun c i x h a b d=>
 D d i1 h fun e h=>
 .nm (T75 a b e) h
def k93_2 : KF := K3 y5 y12 y13 fun c i x h a b d=>
 Y d b h fun e h=>
 I e (x (T75 a b d) h) (.ex 0 (T76 a) h)
def k93_1 : KF := K2 y0 y5 fun c i x h a b=>
 x (T75 b a i0) h
def k93_6 : KF := K4 y5 y34 y35 y36 fun c i x h a b d e=>
 Y e d h fun f h=>
 I f (X 1 b e h fun g h=>
 L g h fun j h=>
 C c 118 [j,(.bool false)] h fun k h=>
 D e i1 h fun l h=>
 .nm (T78 a b d l) h) (.ex 2 (T78 a b d e) h)
def k93_5 : KF := K1 y5 fun c i x h a=>
 J a h fun b h=>
 A 1 b h fun d h=>
 L d h fun e h=>
 G e h fun f h=>
 x (T78 a e f i0) h
def k93_7 : KF := K1 y5 fun c i x h a=>
 .ret (T18 a) h
def k93_0 : KF := K2 y0 y1 fun c i x h a b=>
 U [.ai,.ai,.xP] [.mk 2 1 (.c b)] h fun d h=>
 B 189 d h fun e h=>
 x (T74 a e) h
def x93 : AC := (.ag k93_0 (.seq (.ag k93_1 (.block 0 (.loop (.ag k93_2 (.seq (.block 1 (.ag k93_3 (.nT [w (oc d23 117 []),
 q 1 (m d21 r5),
 q 1 (m d22 r6),
 q 0 (o d24 (.build [.cV,i0,.cV,i0,(.bool false),i0,i0,.cV,.cV,.cV,i0,.ll,i0,i0,i0,.ll,iS,.ai,i0,i0,.ll,i0,i0,i0,(.bool false)] [.mk 0 1 r21,.mk 1 1 r22,.mk 2 1 r23])),
 w (o d25 (.box 203 r24)),
 w (o d26 (.cG 190 1 1 [.cV] [.mk 0 1 r25])),
 q 3 (m d17 r5),
 qj 3 d18 r17,
 qf 3 d19 1 r18,
 ql 3 d20 r19,
 w (o d27 (.app 190 1 r20 r26)),
 q 4 (m d16 r5),
 qj 0 d28 r16,
 qf 0 d29 1 r28,
 w (os r29 r27)]))) (.ag k93_4 .skip)))))) (.seq (.ag k93_5 (.block 2 (.loop (.ag k93_6 .skip)))) (.ag k93_7 .skip))))
def f93 : AF := .mk x93 [.t .h0 .h4]
def k94_0 : KF := fun c i x r h=>
 C c 119 [] h fun a h=>
 tR (Sp h) fun b h=>
 C c 120 [] h fun d h=>
 U [.cV,.ai,.ll,.cV] [.mk 0 1 (.c a),.mk 2 1 (.c b),.mk 3 1 (.c d)] h fun e h=>
 B 212 e h fun f h=>
 .ret (T13 f) h
def x94 : AC := (.ag k94_0 .skip)
def f94 : AF := .mk x94 [.t .h0 .h0]
def k117_0 : KF := fun c i x r h=>
 U [.ai,i0] [] h fun a h=>
 B 247 a h fun b h=>
 .ret (T13 b) h
def x117 : AC := (.ag k117_0 .skip)
def f117 : AF := .mk x117 [.t .h0 .h0]
def k118_6 : KF := K4 y0 y81 y82 y83 fun c i x h a b d e=>
 Y e d h fun f h=>
 I f (X 1 b e h fun g h=>
 L g h fun j h=>
 C c 21 [j] h fun k h=>
 C c 156 [a,k] h fun l h=>
 D e i1 h fun m h=>
 .nm (T80 a b d m) h) (.ex 0 (T80 a b d e) h)
def k118_5 : KF := K2 y0 y4 fun c i x h a b=>
 G b h fun d h=>
 x (T80 a b d i0) h
def k118_9 : KF := K1 y0 fun c i x h a=>
 C c 158 [a] h fun b h=>
 .nm T5 h
def k118_8 : KF := K1 y0 fun c i x h a=>
 tQ (nC a h) fun b=>
 tQ (fA 0 b h) fun d=>
 tQ (lD d h) fun e=>
 tQ (nC e h) fun f=>
 tQ (fA 2 f h) fun g=>
 tQ (lD g h) fun j=>
 tQ (nC a h) fun k=>
 tQ (fA 1 k h) fun l=>
 tQ (lD l h) fun m=>
 tQ (nC a h) fun n=>
 tQ (fA 13 n h) fun o=>
 tQ (fA 1 o h) fun p=>
 tQ (lD p h) fun q=>
 tQ (nC a h) fun s=>
 tQ (fA 13 s h) fun t=>
 tQ (fA 3 t h) fun v=>
 tQ (lD v h) fun w=>
 tQ (nC j h) fun y=>
 tX (i 0 j [m,q,w] h) fun z h=>
 x (T13 a) h
def k118_7 : KF := K1 y0 fun c i x h a=>
 J a h fun b h=>
 A 6 b h fun d h=>
 L d h fun e h=>
 D e i1 h fun f h=>
 J a h fun g h=>
 A 6 g h fun j h=>
 W j f h fun k h=>
 C c 157 [a] h fun l h=>
 x (T13 a) h
def k118_4 : KF := K1 y0 fun c i x h a=>
 J a h fun b h=>
 A 2 b h fun d h=>
 L d h fun e h=>
 C c 155 [e] h fun f h=>
 C c 154 [f] h fun g h=>
 E 0 g h fun j h=>
 E 1 g h fun k h=>
 x (T79 a j) h
def k118_3 : KF := K2 y0 y1 fun c i x h a b=>
 J a h fun d h=>
 A 3 d h fun e h=>
 L e h fun f h=>
 J a h fun g h=>
 A 19 g h fun j h=>
 W j i0 h fun k h=>
 J a h fun l h=>
 A 22 l h fun m h=>
 W m i0 h fun n h=>
 J a h fun o h=>
 A 23 o h fun p h=>
 W p f h fun q h=>
 J a h fun s h=>
 A 24 s h fun t h=>
 W t b h fun v h=>
 x (T13 a) h
def k118_2 : KF := K2 y0 y1 fun c i x h a b=>
 U [i0,i0,.ll,iS] [] h fun d h=>
 J a h fun e h=>
 A 13 e h fun f h=>
 S 4 f d h fun g h=>
 x (T36 a b) h
def k118_1 : KF := K2 y0 y1 fun c i x h a b=>
 tR (Sp h) fun d h=>
 J a h fun e h=>
 A 11 e h fun f h=>
 W f d h fun g h=>
 J a h fun j h=>
 A 17 j h fun k h=>
 W k .ai h fun l h=>
 J a h fun m h=>
 A 18 m h fun n h=>
 W n i0 h fun o h=>
 J a h fun p h=>
 A 6 p h fun q h=>
 W q i0 h fun s h=>
 J a h fun t h=>
 A 10 t h fun v h=>
 W v i0 h fun w h=>
 J a h fun y h=>
 A 12 y h fun z h=>
 W z i0 h fun a0 h=>
 x (T36 a b) h
def k118_0 : KF := K2 y0 y1 fun c i x h a b=>
 J a h fun d h=>
 A 4 d h fun e h=>
 W e (.bool true) h fun f h=>
 x (T36 a b) h
def x118 : AC := (.ag k118_0 (.seq (.nT [w (oc d14 150 []),
 w (oc d15 151 []),
 q 2 (m d20 r0),
 qj 2 d21 r20,
 qf 2 d22 0 r21,
 ql 2 d23 r22,
 w (oc d24 153 [r23]),
 q 3 (m d16 r0),
 qj 3 d17 r16,
 qf 3 d18 1 r17,
 ql 3 d19 r18,
 w (oc d25 152 [r19,r24]),
 q 4 (m d11 r0),
 qj 0 d26 r11,
 qf 0 d27 7 r26,
 w (os r27 r14),
 q 5 (m d12 r0),
 qj 0 d28 r12,
 qf 0 d29 9 r28,
 w (os r29 r15),
 q 6 (m d13 r0),
 qj 0 d30 r13,
 qf 0 d31 8 r30,
 w (os r31 r25)]) (.ag k118_1 (.ag k118_2 (.ag k118_3 (.ag k118_4 (.seq (.ag k118_5 (.block 0 (.loop (.ag k118_6 .skip)))) (.ag k118_7 (.ag k118_8 (.ag k118_9 .skip))))))))))
def f118 : AF := .mk x118 []
def k119_0 : KF := fun c i x r h=>
 U [.ai,.ai] [] h fun a h=>
 B 258 a h fun b h=>
 .ret (T13 b) h
def x119 : AC := (.ag k119_0 .skip)
def f119 : AF := .mk x119 [.t .h0 .h0]
def k120_0 : KF := fun c i x r h=>
 U [i0,i0,i0,iS,i0,i0,i0,iS,i0,i0,i0,iS,i0,i0,i0,iS,i0,i0,i0,iS,i0,i0,i0,iS,i0,i0,i0,iS,i0,i0,i0,iS,i0,i0,i0,iS,i0,i0,i0,iS,i0,i0,i0,iS,i0,i0,i0,iS,i0,i0,i0,iS,i0,i0,i0,iS,i0,i0,i0,iS,i0,i0,i0,iS] [] h fun a h=>
 B 263 a h fun b h=>
 .ret (T13 b) h
def x120 : AC := (.ag k120_0 .skip)
def f120 : AF := .mk x120 [.t .h0 .h0]
def k150_0 : KF := fun c i x r h=>
 tR (Sp h) fun a h=>
 U [i0,i0,.ll,i0] [.mk 2 1 (.c a)] h fun b h=>
 B 308 b h fun d h=>
 .ret (T13 d) h
def x150 : AC := (.ag k150_0 .skip)
def f150 : AF := .mk x150 [.t .h0 .h0]
def k151_0 : KF := fun c i x r h=>
 tR (Sp h) fun a h=>
 U [.ll,i0] [.mk 0 1 (.c a)] h fun b h=>
 B 311 b h fun d h=>
 .ret (T13 d) h
def x151 : AC := (.ag k151_0 .skip)
def f151 : AF := .mk x151 [.t .h0 .h0]
def k152_0 : KF := K2 y0 y1 fun c i x h a b=>
 U [i0,i0,i0,i0,i0,i0,.ll,.ll,.ll] [.mk 0 1 (.c a),.mk 1 1 (.c b)] h fun d h=>
 B 314 d h fun e h=>
 .ret (T18 e) h
def x152 : AC := (.ag k152_0 .skip)
def f152 : AF := .mk x152 [.t .h0 .h4]
def k153_0 : KF := K1 y0 fun c i x h a=>
 J a h fun b h=>
 A 1 b h fun d h=>
 L d h fun e h=>
 G e h fun f h=>
 .ret (T0 f) h
def x153 : AC := (.ag k153_0 .skip)
def f153 : AF := .mk x153 [.t .h0 .h2]
def k154_3 : KF := K5 y0 y4 y5 y6 y35 fun c i x h a b d e f=>
 I f (.ex 0 (T82 a b d e) h) (.nm (T82 a b d e) h)
def k154_5 : KF := K4 y0 y4 y5 y6 fun c i x h a b d e=>
 D (pi 8) e h fun f h=>
 D d f h fun g h=>
 .nm (T81 a b g) h
def k154_4 : KF := K4 y0 y4 y5 y6 fun c i x h a b d e=>
 D d (pi 8) h fun f h=>
 D d (pi 8) h fun g h=>
 D g e h fun j h=>
 tR (fu 1 (.c a) (.some (.c f)) (.some (.c j)) .none .nil h) fun k h=>
 C c 196 [k] h fun l h=>
 E 0 l h fun m h=>
 E 1 l h fun n h=>
 tR (jz n h) fun o h=>
 I o (.ex 0 (T62 b d) h) (tR (bs 22 1 1 [.ai] [.mk 0 1 (.c m)] h) fun p h=>
 tR (df 22 1 b p h) fun q h=>
 x (T82 a q d e) h)
def k154_2 : KF := K3 y0 y4 y5 fun c i x h a b d=>
 D d (pi 8) h fun e h=>
 tR (fu 1 (.c a) (.some (.c d)) (.some (.c e)) .none .nil h) fun f h=>
 C c 21 [f] h fun g h=>
 C c 46 [g] h fun j h=>
 x (T82 a b d j) h
def k154_1 : KF := K3 y0 y4 y5 fun c i x h a b d=>
 G a h fun e h=>
 Z e d h fun f h=>
 tR (we f (pi 8) h) fun g h=>
 I g (x (T81 a b d) h) (.ex 0 (T62 b d) h)
def k154_6 : KF := K2 y4 y5 fun c i x h a b=>
 .ret (T40 a b) h
def k154_0 : KF := K1 y0 fun c i x h a=>
 x (T81 a .ai i0) h
def x154 : AC := (.ag k154_0 (.seq (.block 0 (.loop (.ag k154_1 (.block 1 (.ag k154_2 (.seq (.seq (.ops [m d21 r6,
 o d22 (.bin .lt r21 a0),
 m d23 r22,
 .g .h1 .h7 false d24 (.op (.mv r6)),
 .g .h1 .h7 false d25 (.op (.bin .gt r24 (.c (pi 1048576)))),
 o d26 (.pick r23 (.c (.bool true)) r25),
 m d27 r26,
 .g .h1 .hb false d28 (.op (.mv r6)),
 .g .h1 .hb false d29 (.op (.mv r0)),
 .g .h1 .hb false d30 (.op (.len r29)),
 .g .h1 .hb false d31 (.op (.mv r5)),
 .g .h1 .hb false d32 (.op (.bin .sub r30 r31)),
 .g .h1 .hb false d33 (.op (.bin .sub r32 (.c (pi 8)))),
 .g .h1 .hb false d34 (.op (.bin .gt r28 r33)),
 o d35 (.pick r27 (.c (.bool true)) r34)]) (.ag k154_3 .skip)) (.ag k154_4 (.ag k154_5 .skip)))))))) (.ag k154_6 .skip)))
def f154 : AF := .mk x154 [.t .h0 .h2,.t .h0 .h3]
def k155_0 : KF := K1 y0 fun c i x h a=>
 J a h fun b h=>
 A 0 b h fun d h=>
 L d h fun e h=>
 C c 43 [e] h fun f h=>
 .ret (T0 f) h
def x155 : AC := (.ag k155_0 .skip)
def f155 : AF := .mk x155 [.t .h0 .h2]
def k157_1 : KF := K5 y1 y2 y29 y30 y31 fun c i x h a b d e f=>
 Y f e h fun g h=>
 I g (X 4 d f h fun j h=>
 M 4 j h fun k h=>
 O 282 4 (.k1 (Y4 i0 i0 i0 iS)) h fun l h=>
 S 4 l k h fun m h=>
 C c 203 [(pi 2),(.fn 208 [l])] h fun n h=>
 tR (df 5 1 b n h) fun o h=>
 D f i1 h fun p h=>
 .nm (T83 a o d e p) h) (.ex 0 (T83 a b d e f) h)
def k157_5 : KF := K8 y1 y2 y6 y7 y50 y51 y52 y68 fun c i x h a b d e f g j k=>
 I k (.nm (T85 a b d (pi 5) f g j) h) (.nm (T85 a b d e f g j) h)
def k157_6 : KF := K7 y1 y2 y6 y7 y50 y51 y52 fun c i x h a b d e f g j=>
 L a h fun k h=>
 M 4 d h fun l h=>
 C c 215 [k,e,l] h fun m h=>
 tR (df 5 1 b m h) fun n h=>
 .nm (T84 a n f g j) h
def k157_4 : KF := K5 y1 y2 y50 y51 y52 fun c i x h a b d e f=>
 X 4 d f h fun g h=>
 M 4 g h fun j h=>
 O 282 4 (.k1 (Y4 i0 i0 i0 iS)) h fun k h=>
 S 4 k j h fun l h=>
 x (T85 a b k (pi 4) d e f) h
def k157_7 : KF := K5 y1 y2 y50 y51 y52 fun c i x h a b d e f=>
 D f i1 h fun g h=>
 .nm (T84 a b d e g) h
def k157_3 : KF := K5 y1 y2 y50 y51 y52 fun c i x h a b d e f=>
 Y f e h fun g h=>
 I g (x (T84 a b d e f) h) (.ex 2 (T10 a b) h)
def k157_8 : KF := K2 y1 y2 fun c i x h a b=>
 L a h fun d h=>
 J d h fun e h=>
 A 2 e h fun f h=>
 L f h fun g h=>
 C c 216 [g,b] h fun j h=>
 Q j i0 h fun k h=>
 I k (L a h fun l h=>
 G b h fun m h=>
 J l h fun n h=>
 A 5 n h fun o h=>
 W o m h fun p h=>
 .nm T5 h) (.nm T5 h)
def k157_2 : KF := K2 y1 y2 fun c i x h a b=>
 C c 203 [i1,(.fn 211 [a])] h fun d h=>
 tR (df 5 1 b d h) fun e h=>
 x (T10 a e) h
def k157_0 : KF := K1 y0 fun c i x h a=>
 B 190 a h fun b h=>
 C c 203 [i0,(.fn 204 [b])] h fun d h=>
 L b h fun e h=>
 J e h fun f h=>
 A 13 f h fun g h=>
 A 0 g h fun j h=>
 L j h fun k h=>
 tR (cB k i0 h) fun l h=>
 I l (C c 203 [(pi 6),(.fn 205 [b])] h fun m h=>
 tR (df 5 1 d m h) fun n h=>
 x (T10 b n) h) (x (T10 b d) h)
def x157 : AC := (.ag k157_0 (.seq (.seq (.nT [ql 0 d20 r1,
 qj 0 d21 r20,
 qf 0 d22 7 r21,
 ql 0 d23 r22,
 ql 0 d24 r1,
 qj 0 d25 r24,
 qf 0 d26 13 r25,
 qf 0 d27 0 r26,
 ql 0 d28 r27,
 w (oc d29 207 [r23,r28]),
 q 0 (o d30 (.len r29)),
 q 1 (m d31 a0)]) (.block 0 (.loop (.ag k157_1 .skip)))) (.ag k157_2 (.seq (.seq (.nT [ql 0 d44 r1,
 ql 0 d45 r1,
 qj 0 d46 r45,
 qf 0 d47 13 r46,
 qf 0 d48 0 r47,
 ql 0 d49 r48,
 w (oc d50 213 [r44,r49]),
 q 0 (o d51 (.len r50)),
 q 1 (m d52 a0)]) (.block 2 (.loop (.ag k157_3 (.seq (.block 3 (.ag k157_4 (.seq (.seq (.nT [ql 0 d56 r1,
 qf 0 d57 0 r6,
 ql 0 d58 r57,
 w (oc d59 214 [r56,r58]),
 q 0 (m d60 r59),
 q 0 (.g .h3 .hc true d61 (.op (.fQ r1))),
 q 0 (.g .h3 .hc true d62 (.op (.fP 0 r6))),
 q 0 (.g .h3 .hc true d63 (.op (.fQ r62))),
 w (.g .h3 .hc true d64 (.call 198 [r61,r63])),
 q 1 (.g .h3 .hc true d65 (.op (.fP 3 r6))),
 q 1 (.g .h3 .hc true d66 (.op (.fQ r65))),
 q 0 (.g .h3 .hc true d67 (.op (.bin .seq r64 r66))),
 q 0 (o d68 (.pick r60 r67 (.c (.bool false))))]) (.ag k157_5 .skip)) (.ag k157_6 .skip)))) (.ag k157_7 .skip)))))) (.ag k157_8 .skip)))))
def f157 : AF := .mk x157 []
def k158_2 : KF := K5 y0 y2 y14 y15 y16 fun c i x h a b d e f=>
 D f i1 h fun g h=>
 .nm (T86 a b d e g) h
def k158_1 : KF := K5 y0 y2 y14 y15 y16 fun c i x h a b d e f=>
 Y f e h fun g h=>
 I g (X 1 d f h fun j h=>
 L j h fun k h=>
 tR (xQ k iS h) fun l h=>
 I l (C c 218 [a,b,k] h fun m h=>
 D b i1 h fun n h=>
 x (T86 a n d e f) h) (D b i1 h fun m h=>
 x (T86 a m d e f) h)) (.ex 0 T5 h)
def k158_0 : KF := K1 y0 fun c i x h a=>
 J a h fun b h=>
 A 9 b h fun d h=>
 L d h fun e h=>
 C c 185 [e] h fun f h=>
 J a h fun g h=>
 A 9 g h fun j h=>
 L j h fun k h=>
 C c 217 [k] h fun l h=>
 G l h fun m h=>
 x (T86 a f l m i0) h
def x158 : AC := (.ag k158_0 (.block 0 (.loop (.ag k158_1 (.ag k158_2 .skip)))))
def f158 : AF := .mk x158 []
def k181_1 : KF := K2 y0 y3 fun c i x h a b=>
 J a h fun d h=>
 A 0 d h fun e h=>
 L e h fun f h=>
 tR (Fq (.one .i) iS true f b h) fun g h=>
 E 0 g h fun j h=>
 E 1 g h fun k h=>
 tR (jz k h) fun l h=>
 I l (.ret (T0 b) h) (D b i1 h fun m h=>
 .nm (T7 a m) h)
def k181_0 : KF := K1 y0 fun c i x h a=>
 J a h fun b h=>
 A 1 b h fun d h=>
 L d h fun e h=>
 x (T7 a e) h
def x181 : AC := (.ag k181_0 (.block 0 (.loop (.ag k181_1 .skip))))
def f181 : AF := .mk x181 [.t .h0 .h2]
def k185_0 : KF := K1 y0 fun c i x h a=>
 J a h fun b h=>
 A 1 b h fun d h=>
 L d h fun e h=>
 .ret (T0 e) h
def x185 : AC := (.ag k185_0 .skip)
def f185 : AF := .mk x185 [.t .h0 .h2]
def k203_0 : KF := K2 y0 y1 fun c i x h a b=>
 C c 37 [] h fun d h=>
 C c 40 [d,a] h fun e h=>
 tT (cd c b [d] h) fun f h=>
 C c 41 [d] h fun g h=>
 C c 268 [g] h fun j h=>
 .ret (T18 j) h
def x203 : AC := (.ag k203_0 .skip)
def f203 : AF := .mk x203 [.t .h0 .h4]
def k204_0 : KF := K2 y0 y1 fun c i x h a b=>
 L b h fun d h=>
 J d h fun e h=>
 A 6 e h fun f h=>
 L f h fun g h=>
 C c 38 [a,g] h fun j h=>
 .nm T5 h
def x204 : AC := (.ag k204_0 .skip)
def f204 : AF := .mk x204 []
def k207_4 : KF := K3 y0 y5 y6 fun c i x h a b d=>
 D d i1 h fun e h=>
 .nm (T87 a b e) h
def k207_3 : KF := K3 y0 y5 y6 fun c i x h a b d=>
 J a h fun e h=>
 A 2 e h fun f h=>
 L f h fun g h=>
 tR (Fq (.one .i) (.agg [i0,i0,i0,iS]) true g d h) fun j h=>
 E 0 j h fun k h=>
 E 1 j h fun l h=>
 O 282 4 (.k1 (Y4 i0 i0 i0 iS)) h fun m h=>
 S 4 m k h fun n h=>
 I l (M 4 m h fun o h=>
 tR (bs 282 4 1 [i0,i0,i0,iS] [.mk 0 4 (.c o)] h) fun p h=>
 tR (df 282 4 b p h) fun q h=>
 x (T87 a q d) h) (x (T87 a b d) h)
def k207_2 : KF := K3 y0 y5 y6 fun c i x h a b d=>
 J a h fun e h=>
 A 3 e h fun f h=>
 L f h fun g h=>
 Y d g h fun j h=>
 I j (x (T87 a b d) h) (.ex 0 (T76 b) h)
def k207_1 : KF := K3 y0 y1 y5 fun c i x h a b d=>
 tR (FD false [b,i0] h) fun e h=>
 x (T87 a d e) h
def k207_5 : KF := K1 y5 fun c i x h a=>
 .ret (T18 a) h
def k207_0 : KF := K2 y0 y1 fun c i x h a b=>
 x (T21 a b .ai) h
def x207 : AC := (.ag k207_0 (.seq (.ag k207_1 (.block 0 (.loop (.ag k207_2 (.ag k207_3 (.ag k207_4 .skip)))))) (.ag k207_5 .skip)))
def f207 : AF := .mk x207 [.t .h0 .h4]
def k209_0 : KF := K2 y0 y1 fun c i x h a b=>
 B 274 b h fun d h=>
 A 0 d h fun e h=>
 L e h fun f h=>
 C c 38 [a,f] h fun g h=>
 A 1 d h fun j h=>
 L j h fun k h=>
 C c 38 [a,k] h fun l h=>
 .nm T5 h
def x209 : AC := (.ag k209_0 .skip)
def f209 : AF := .mk x209 []
def k211_0 : KF := K2 y0 y1 fun c i x h a b=>
 L b h fun d h=>
 J d h fun e h=>
 A 7 e h fun f h=>
 L f h fun g h=>
 C c 212 [g] h fun j h=>
 C c 209 [a,j] h fun k h=>
 .nm T5 h
def x211 : AC := (.ag k211_0 .skip)
def f211 : AF := .mk x211 []
def k212_0 : KF := K1 y0 fun c i x h a=>
 O 274 2 (.k1 (Y2 i0 i0)) h fun b h=>
 J a h fun d h=>
 A 0 d h fun e h=>
 M 2 e h fun f h=>
 S 2 b f h fun g h=>
 .ret (T0 b) h
def x212 : AC := (.ag k212_0 .skip)
def f212 : AF := .mk x212 [.agg 2 .h0 .h2]
def k213_4 : KF := K3 y0 y5 y6 fun c i x h a b d=>
 D d i1 h fun e h=>
 .nm (T87 a b e) h
def k213_3 : KF := K3 y0 y5 y6 fun c i x h a b d=>
 J a h fun e h=>
 A 9 e h fun f h=>
 L f h fun g h=>
 C c 253 [g,d] h fun j h=>
 E 0 j h fun k h=>
 E 1 j h fun l h=>
 I l (U [i0,i0,i0,iS] [.mk 0 1 (.c d),.mk 3 1 (.c k)] h fun m h=>
 tR (bs 282 4 1 [i0,i0,i0,iS] [.mk 0 4 (.c m)] h) fun n h=>
 tR (df 282 4 b n h) fun o h=>
 x (T87 a o d) h) (x (T87 a b d) h)
def k213_2 : KF := K3 y0 y5 y6 fun c i x h a b d=>
 J a h fun e h=>
 A 10 e h fun f h=>
 L f h fun g h=>
 Y d g h fun j h=>
 I j (x (T87 a b d) h) (.ex 0 (T76 b) h)
def k213_1 : KF := K3 y0 y1 y5 fun c i x h a b d=>
 J a h fun e h=>
 A 13 e h fun f h=>
 A 0 f h fun g h=>
 L g h fun j h=>
 tR (FD false [b,j] h) fun k h=>
 x (T87 a d k) h
def k213_5 : KF := K1 y5 fun c i x h a=>
 .ret (T18 a) h
def k213_0 : KF := K2 y0 y1 fun c i x h a b=>
 x (T21 a b .ai) h
def x213 : AC := (.ag k213_0 (.seq (.ag k213_1 (.block 0 (.loop (.ag k213_2 (.ag k213_3 (.ag k213_4 .skip)))))) (.ag k213_5 .skip)))
def f213 : AF := .mk x213 [.t .h0 .h4]
def k216_0 : KF := K2 y0 y1 fun c i x h a b=>
 G b h fun d h=>
 tR (cB d (pi 4194304) h) fun e h=>
 I e (.ret (T18 (pi 13)) h) (C c 43 [b] h fun f h=>
 J a h fun g h=>
 A 0 g h fun j h=>
 W j f h fun k h=>
 J a h fun l h=>
 A 0 l h fun m h=>
 L m h fun n h=>
 G n h fun o h=>
 J a h fun p h=>
 A 1 p h fun q h=>
 W q o h fun s h=>
 .ret (T18 i0) h)
def x216 : AC := (.ag k216_0 .skip)
def f216 : AF := .mk x216 [.t .h0 .h4]
def k217_3 : KF := K3 y0 y3 y4 fun c i x h a b d=>
 J a h fun e h=>
 A 1 e h fun f h=>
 L f h fun g h=>
 D g i1 h fun j h=>
 J a h fun k h=>
 A 1 k h fun l h=>
 W l j h fun m h=>
 .nm (T8 a b d) h
def k217_2 : KF := K3 y0 y3 y4 fun c i x h a b d=>
 J a h fun e h=>
 A 1 e h fun f h=>
 L f h fun g h=>
 Y g d h fun j h=>
 I j (x (T8 a b d) h) (.ex 0 (T2 b) h)
def k217_1 : KF := K2 y0 y3 fun c i x h a b=>
 C c 181 [a] h fun d h=>
 x (T8 a b d) h
def k217_4 : KF := K1 y3 fun c i x h a=>
 .ret (T0 a) h
def k217_0 : KF := K1 y0 fun c i x h a=>
 x (T7 a .ai) h
def x217 : AC := (.ag k217_0 (.seq (.ag k217_1 (.block 0 (.loop (.ag k217_2 (.seq (.block 1 (.nT [q 0 (m d21 r0),
 qj 0 d22 r21,
 qf 0 d23 0 r22,
 ql 0 d24 r23,
 q 0 (m d25 r0),
 qj 0 d26 r25,
 qf 0 d27 1 r26,
 ql 0 d28 r27,
 q 0 (o d29 (.Fq (.one .i) iS false r24 r28)),
 w (o d30 (.cG 9 1 1 [iS] [.mk 0 1 r29])),
 q 1 (m d20 r3),
 w (o d31 (.app 9 1 r20 r30)),
 q 0 (m d3 r31)])) (.ag k217_3 .skip)))))) (.ag k217_4 .skip)))
def f217 : AF := .mk x217 [.t .h0 .h2]
def k264_0 : KF := K1 y0 fun c i x h a=>
 C c 322 [a] h fun b h=>
 tR (cK (.toInt .u8) b h) fun d h=>
 tR (bK .shr b (.int .u64 (.ofNat 8)) h) fun e h=>
 tR (cK (.toInt .u8) e h) fun f h=>
 tR (bK .shr b (.int .u64 (.ofNat 16)) h) fun g h=>
 tR (cK (.toInt .u8) g h) fun j h=>
 tR (bK .shr b (.int .u64 (.ofNat 24)) h) fun k h=>
 tR (cK (.toInt .u8) k h) fun l h=>
 tR (bs 5 1 4 [(.int .u8 (.ofNat 0)),(.int .u8 (.ofNat 0)),(.int .u8 (.ofNat 0)),(.int .u8 (.ofNat 0))] [.mk 0 1 (.c d),.mk 1 1 (.c f),.mk 2 1 (.c j),.mk 3 1 (.c l)] h) fun m h=>
 tR (df 5 1 m a h) fun n h=>
 .ret (T0 n) h
def x264 : AC := (.ag k264_0 .skip)
def f264 : AF := .mk x264 [.t .h0 .h2]
def k268_0 : KF := K1 y0 fun c i x h a=>
 C c 37 [] h fun b h=>
 C c 264 [a] h fun d h=>
 G d h fun e h=>
 C c 38 [b,e] h fun f h=>
 C c 41 [b] h fun g h=>
 tR (df 5 1 g d h) fun j h=>
 .ret (T0 j) h
def x268 : AC := (.ag k268_0 .skip)
def f268 : AF := .mk x268 [.t .h0 .h2]
def k322_4 : KF := K5 y3 y7 y8 y9 y17 fun c i x h a b d e f=>
 Y f (pi 8) h fun g h=>
 I g (tR (FE a (.int .u32 (.ofNat 1)) h) fun j h=>
 tR (bK .shr a (.int .u64 (.ofNat 1)) h) fun k h=>
 Q j (.int .u32 (.ofNat 1)) h fun l h=>
 I l (tR (rK k (.int .u32 (.ofNat 3988292384)) h) fun m h=>
 D f i1 h fun n h=>
 .nm (T89 m b d e n) h) (D f i1 h fun m h=>
 .nm (T89 k b d e m) h)) (.ex 2 (T89 a b d e f) h)
def k322_3 : KF := K4 y3 y7 y8 y9 fun c i x h a b d e=>
 X 1 b e h fun f h=>
 L f h fun g h=>
 tR (cK (.toInt .u32) g h) fun j h=>
 tR (rK a j h) fun k h=>
 x (T89 k b d e i0) h
def k322_5 : KF := K4 y3 y7 y8 y9 fun c i x h a b d e=>
 D e i1 h fun f h=>
 .nm (T88 a b d f) h
def k322_2 : KF := K4 y3 y7 y8 y9 fun c i x h a b d e=>
 Y e d h fun f h=>
 I f (x (T88 a b d e) h) (.ex 0 (T2 a) h)
def k322_1 : KF := K2 y0 y3 fun c i x h a b=>
 G a h fun d h=>
 x (T88 b a d i0) h
def k322_6 : KF := K1 y3 fun c i x h a=>
 tR (Cb a h) fun b h=>
 .ret (T0 b) h
def k322_0 : KF := K1 y0 fun c i x h a=>
 x (T7 a (.int .u32 (.ofNat 4294967295))) h
def x322 : AC := (.ag k322_0 (.seq (.ag k322_1 (.block 0 (.loop (.ag k322_2 (.seq (.block 1 (.ag k322_3 (.block 2 (.loop (.ag k322_4 .skip))))) (.ag k322_5 .skip)))))) (.ag k322_6 .skip)))
def f322 : AF := .mk x322 [.t .h0 .h2]
def k665_0 : KF := K4 y0 y1 y2 y3 fun c i x h a b d e=>
 U [i0,iS,.ai] [.mk 0 1 (.c d),.mk 1 1 (.c e),.mk 2 1 (.c .ai)] h fun f h=>
 J a h fun g h=>
 A 0 g h fun j h=>
 tR (Ok 5 3 j b h) fun k h=>
 S 3 k f h fun l h=>
 .nm T5 h
def x665 : AC := (.ag k665_0 .skip)
def f665 : AF := .mk x665 []
def Ol : F1 := (.mk .none .none .none f3 f4 f5 f6 f7 f8 f9 f10 f11 f12 f13 f14 f15)
def QF : F1 := (.mk f16 f17 f18 f19 f20 f21 f22 f23 f24 f25 f26 f27 f28 f29 f30 f31)
def QG : F1 := (.mk f32 f33 f34 f35 f36 f37 f38 f39 f40 f41 f42 f43 f44 f45 f46 f47)
def QH : F1 := (.mk f48 f49 f50 f51 f52 f53 f54 f55 f56 .none f58 f59 f60 f61 f62 f63)
def QI : F1 := (.mk f64 f65 f66 f67 f68 f69 f70 f71 f72 f73 f74 .none .none .none .none .none)
def QJ : F1 := (.mk .none .none .none .none .none .none f86 f87 .none .none .none .none f92 f93 f94 .none)
def QK : F1 := (.mk f112 f113 .none .none .none f117 f118 f119 f120 .none .none .none .none .none .none .none)
def QL : F1 := (.mk f144 .none .none .none .none .none f150 f151 f152 f153 f154 f155 .none f157 f158 .none)
def MZ : F1 := (.mk .none .none .none .none .none f181 .none .none .none f185 .none .none .none .none .none .none)
def Na : F1 := (.mk .none .none .none .none .none .none .none .none .none .none .none f203 f204 .none .none f207)
def Nb : F1 := (.mk .none f209 .none f211 f212 f213 .none .none f216 f217 .none .none .none .none .none .none)
def Nc : F1 := (.mk .none .none .none .none .none .none .none .none f264 .none .none .none f268 .none .none .none)
def Nd : F1 := (.mk .none .none f322 .none .none .none .none .none .none .none .none .none .none .none .none .none)
def Nf : F1 := (.mk .none .none .none .none .none .none .none .none .none f665 .none .none .none .none .none .none)
def FF : F2 := .mk Ol QF QG QH QI QJ .nil QK .nil QL .nil MZ Na Nb .nil .nil
def Ng : F2 := .mk Nc .nil .nil .nil Nd .nil .nil .nil .nil .nil .nil .nil .nil .nil .nil .nil
def Nh : F2 := .mk .nil .nil .nil .nil .nil .nil .nil .nil .nil Nf .nil .nil .nil .nil .nil .nil
def pg : Pg := .mk (.mk FF Ng Nh .nil .nil .nil .nil .nil .nil .nil .nil .nil .nil .nil .nil .nil) [.mk 162 2 107, .mk 156 2 664, .mk 156 1 663, .mk 156 4 662, .mk 137 4 128, .mk 156 3 666, .mk 156 0 665, .mk 137 0 126]
end
end Go.Am.Seat
