/- The program's code in a form that runs fast, written by program. Nothing is asked. -/
import Derived.Test.YtjnmlmmfnbcnjaaGreatDoorCode0
set_option linter.all false
namespace Go.Am.Seat
set_option maxRecDepth 20000
noncomputable section
def T0 (a b d e f : AV) : A2 := N0 (Y7 u u a b d e f)
def T1 (a : AV) : A2 := N0 (Y11 u u u u u u u u u u a)
def T2 (a b d e f g j k : AV) : A2 := N0 (Y14 u u a b d e f u u u u g j k)
def T3 (a b d e : AV) : A2 := N0 (Y12 u u a b d u u u u u u e)
def T4 (a b : AV) : A2 := N0 (Y12 u u a u u u u u u u u b)
def T5 (a b d : AV) : A2 := N5 .nil .nil .nil .nil .nil (Y4 u a b d)
def T6 : A2 := .nil
def T7 (a b d e f g j : AV) : A2 := N5 .nil (Y4 a b d e) .nil .nil .nil (Y4 u f g j)
def T8 (a b : AV) : A2 := N0 (Y3 u a b)
def T9 (a b d : AV) : A2 := N0 (Y4 u a b d)
def T10 (a b d e : AV) : A2 := N0 (Y5 u a b d e)
def T11 (a : AV) : A2 := N0 (Y3 u u a)
def T12 (a : AV) : A2 := N0 (Y2 u a)
def T13 (a b : AV) : A2 := N0 (Y4 u a u b)
def T14 (a b : AV) : A2 := N0 (Y5 u a u u b)
def T15 (a b d : AV) : A2 := N0 (Y6 u a u u b d)
def T16 (a b d e f : AV) : A2 := N2 (Y4 u a u b) .nil (Y12 u u u u u u u u u d e f)
def T17 (a b d e : AV) : A2 := N4 (Y4 u u u a) .nil .nil (.mk u u u u u u u u u u u u u u b d) (Y1 e)
def T18 (a : AV) : A2 := N0 (Y4 u u u a)
def T19 (a b d e f : AV) : A2 := N4 (Y8 u u u a u u u b) .nil .nil (.mk u u u u u u u u u u u u u u d e) (Y1 f)
def T20 (a b d e f g j k : AV) : A2 := N5 (Y8 u u u a u u u b) .nil .nil (.mk u u u u u u u u u u u u u u d e) (.mk f u u u u u u u u u u u u u g j) (Y1 k)
def T21 (a b d e : AV) : A2 := N0 (Y6 a u b u d e)
def T22 (a b d e f : AV) : A2 := N0 (Y7 a u b u d e f)
def T23 (a b d e f : AV) : A2 := N0 (Y9 a u b u d e u u f)
def T24 (a b d e : AV) : A2 := N0 (Y10 a u b u u d u u u e)
def T25 (a b : AV) : A2 := N0 (Y4 u u a b)
def T26 (a b : AV) : A2 := N0 (Y6 u u a u u b)
def T27 (a b : AV) : A2 := N0 (Y2 a b)
def T28 (a : AV) : A2 := N0 (Y7 u u u u u u a)
def T29 (a b d : AV) : A2 := N0 (Y6 a b u u u d)
def T30 (a b d : AV) : A2 := N0 (Y7 u a u u u b d)
def T31 (a : AV) : A2 := N0 (Y5 u u u u a)
def T32 (a b d : AV) : A2 := N0 (Y3 a b d)
def T33 (a b d : AV) : A2 := N0 (Y8 a u b u u u u d)
def T34 (a : AV) : A2 := N0 (Y1 a)
def T35 (a b d e : AV) : A2 := N0 (Y7 a b u u u d e)
def T36 (a b d e f : AV) : A2 := N0 (Y8 a b u u u d e f)
def T37 (a b d e f g : AV) : A2 := N0 (Y9 a b u u u d e f g)
def T38 (a b d e f g j : AV) : A2 := N0 (Y10 a b u u u d e f g j)
def T39 (a b d e : AV) : A2 := N2 (Y2 u a) .nil (Y9 u u u u u u b d e)
def T40 (a b d e f : AV) : A2 := N2 (Y5 u a u u b) .nil (Y9 u u u u u u d e f)
def T41 (a b d : AV) : A2 := N3 .nil .nil .nil (Y13 u u u u u u u u u u a b d)
def T42 (a b d e : AV) : A2 := N3 (Y7 u u u u u u a) .nil .nil (Y13 u u u u u u u u u u b d e)
def T43 (a b : AV) : A2 := N0 (Y7 a u u u u u b)
def T44 (a b d : AV) : A2 := N0 (Y4 a u b d)
def T45 (a b d e : AV) : A2 := N0 (Y5 a u b d e)
def T46 (a b d : AV) : A2 := N0 (Y8 u u u u u a b d)
def T47 (a b d : AV) : A2 := N0 (Y11 u u u u u u u u a b d)
def T48 (a b d e : AV) : A2 := N0 (Y11 u u u u a u u u b d e)
def T49 (a b d : AV) : A2 := N0 (Y7 a b u u u u d)
def T50 (a b d e : AV) : A2 := N0 (Y8 u u u u a b d e)
def T53 (a b : AV) : A2 := N0 (Y4 a u u b)
def T55 (a b : AV) : A2 := N0 (Y6 u u u u a b)
def T75 (a b d e : AV) : A2 := N0 (Y9 a b u u u u u d e)
def T94 (a b d : AV) : A2 := N1 (Y1 a) (Y2 b d)
def T95 (a b d e : AV) : A2 := N1 (Y4 a u u b) (Y2 d e)
def T102 (a b d : AV) : A2 := N0 (Y5 u u a b d)
def T156 (a b : AV) : A2 := N0 (Y8 u a u u u u u b)
def T157 (a b d : AV) : A2 := N0 (Y9 u a u u u u u b d)
def T158 (a b d e : AV) : A2 := N0 (Y14 u u u a u u u u u u u b d e)
def T209 (a b d e f g j k : AV) : A2 := N0 (Y13 a b u u d u u u e f g j k)
def T210 (a b d e f g j k l : AV) : A2 := N0 (Y14 a b u u d u u u e f g j k l)
def T211 (a b d e f : AV) : A2 := N0 (Y13 u u u u a u u u u b d e f)
def T212 (a b d e f g j : AV) : A2 := N2 (Y13 u a u u b u u u d e u f g) .nil (.mk u u u u u u u u u u u u u u u j)
def T213 (a b d e f g j : AV) : A2 := N0 (Y13 u a u u b u u u d e f g j)
def T214 (a b d e : AV) : A2 := N0 (Y12 a u u b d u u u u u u e)
def T224 (a b d e : AV) : A2 := N1 (Y6 a b u u u d) (Y7 u u u u u u e)
def T225 (a b d e : AV) : A2 := N1 (Y6 a b u u u d) (Y14 u u u u u u u u u u u u u e)
def T226 (a b d e f g : AV) : A2 := N2 (Y6 a b u u u d) .nil (Y10 u u u u u u u e f g)
def T227 (a b d e f g j : AV) : A2 := N2 (Y8 a b u u u d u e) .nil (Y10 u u u u u u u f g j)
def T228 (a b d e f g j k : AV) : A2 := N3 (Y8 a b u u u d u e) .nil (Y10 u u u u u u u f g j) (Y2 u k)
def T229 (a b d : AV) : A2 := N0 (Y9 a b u u u u u u d)
def T230 (a b d e f : AV) : A2 := N4 (Y9 u a u u u u u u b) .nil .nil (.mk u u u u u u u u u u u u u u u d) (Y2 e f)
def T231 (a b d e f : AV) : A2 := N0 (Y10 u u a b u u u d e f)
def T232 (a b d e f g : AV) : A2 := N0 (Y10 u u a b u d u e f g)
def T254 (a b : AV) : A2 := N0 (Y11 u a u u u u u u u u b)
def T262 (a b d : AV) : A2 := N0 (Y8 a b u u u u u d)
def T264 (a b d e f g : AV) : A2 := N0 (Y14 a b d u u u u u u u u e f g)
def T274 (a : AV) : A2 := N1 .nil (Y4 u u u a)
def f305 : AF := .ext (.fn rp)
def f353 : AF := .ext .Jg
def f354 : AF := .ext (.Nc 5)
def f362 : AF := .ext .DW
def f388 : AF := .ext (.fn yF)
def k3_1 : KF := K6 y2 y3 y4 y5 y6 y31 fun c i x h a b d e f g=>
 I g (C c 6 [] h fun j h=>
 .ret (T1 j) h) (.nm (T0 a b d e f) h)
def k3_3 : KF := K5 y2 y3 y4 y11 y64 fun c i x h a b d e f=>
 I f (.ret (T1 (.bool false)) h) (.nm (T3 a b d e) h)
def k3_8 : KF := K4 y81 y82 y83 y120 fun c i x h a b d e=>
 I e (.ret (T1 (.bool false)) h) (.nm (T5 a b d) h)
def k3_7 : KF := K3 y81 y82 y83 fun c i x h a b d=>
 X 1 a d h fun e h=>
 L e h fun f h=>
 C c 11 [f,(.int .u8 (.ofNat 165))] h fun g h=>
 G f h fun j h=>
 tR (fN 1 (.c g) .none (.some (.c j)) .none .nil h) fun k h=>
 C c 8 [k] h fun l h=>
 E 0 l h fun m h=>
 E 1 l h fun n h=>
 O 25 7 (.k1 (Y7 i0 i0 i0 iS iS .ar .ar)) h fun o h=>
 S 7 o m h fun p h=>
 x (T7 f g o n a b d) h
def k3_9 : KF := K3 y81 y82 y83 fun c i x h a b d=>
 D d i1 h fun e h=>
 .nm (T5 a b e) h
def k3_6 : KF := K3 y81 y82 y83 fun c i x h a b d=>
 Y d b h fun e h=>
 I e (x (T5 a b d) h) (.ex 0 T6 h)
def k3_5 : KF := K2 y2 y11 fun c i x h a b=>
 tR (bs 26 1 2 [.ar,.ar] [.mk 0 1 (.c a),.mk 1 1 (.c b)] h) fun d h=>
 G d h fun e h=>
 x (T5 d e i0) h
def k3_10 : KF := fun c i x r h=>
 C c 6 [] h fun a h=>
 .ret (T1 a) h
def k3_4 : KF := K4 y2 y3 y4 y11 fun c i x h a b d e=>
 G e h fun f h=>
 Z f i1 h fun g h=>
 C c 10 [b,i0,g] h fun j h=>
 X 1 e j h fun k h=>
 L k h fun l h=>
 tR (mq l d h) fun m h=>
 X 1 e j h fun n h=>
 W n m h fun o h=>
 x (T4 a e) h
def k3_2 : KF := K5 y2 y3 y4 y5 y6 fun c i x h a b d e f=>
 M 7 e h fun g h=>
 C c 7 [g] h fun j h=>
 C c 8 [j] h fun k h=>
 E 0 k h fun l h=>
 E 1 k h fun m h=>
 O 25 7 (.k1 (Y7 i0 i0 i0 iS iS .ar .ar)) h fun n h=>
 S 7 n l h fun o h=>
 x (T2 a b d e f j n m) h
def k3_0 : KF := K5 y0 y1 y2 y3 y4 fun c i x h a b d e f=>
 B 25 a h fun g h=>
 B 25 b h fun j h=>
 M 7 g h fun k h=>
 C c 4 [k] h fun l h=>
 S 7 g l h fun m h=>
 M 7 j h fun n h=>
 C c 4 [n] h fun o h=>
 S 7 j o h fun p h=>
 x (T0 d e f g j) h
def x3 : AC := (.ah k3_0 (.seq (.seq (.ops [o d24 (.lR 7 r5),
 oc d25 5 [r24],
 o d26 (.un .not r25),
 m d27 r26,
 .g .h1 .hb false d28 (.op (.lR 7 r6)),
 .g .h1 .hb false d29 (.call 5 [r28]),
 .g .h1 .hb false d30 (.op (.un .not r29)),
 o d31 (.pick r27 (.c (.bool true)) r30)]) (.ah k3_1 .skip)) (.ah k3_2 (.seq (.seq (.qv [q 0 (m d40 r13),
 q 0 (o d41 (.bin .ne r40 a0)),
 q 0 (m d42 r41),
 q 0 (.g .h2 .ha false d43 (.op (.lR 7 r12))),
 q 0 (.g .h2 .ha false d44 (.op (.lR 7 r5))),
 w (.g .h2 .ha false d45 (.call 9 [r43,r44])),
 q 0 (.g .h2 .ha false d46 (.op (.un .not r45))),
 q 0 (o d47 (.pick r42 (.c (.bool true)) r46)),
 q 0 (m d48 r47),
 q 0 (.g .h3 .h0 false d51 (.op (.lR 7 r6))),
 w (.g .h3 .h0 false d52 (.call 7 [r51])),
 q 1 (.g .h3 .h0 false d55 (.op (.lR 7 r5))),
 q 1 (.g .h3 .h0 false d56 (.op (.lR 7 r6))),
 w (.g .h3 .h0 false d57 (.call 9 [r55,r56])),
 q 2 (.g .h3 .h0 false d49 (.op (.mv r11))),
 q 2 (.g .h3 .h0 false d50 (.op (.conv .LP r49))),
 q 1 (.g .h3 .h0 false d53 (.op (.conv .LP r52))),
 q 1 (.g .h3 .h0 false d54 (.op (.bin .seq r50 r53))),
 q 0 (.g .h3 .h0 false d58 (.op (.bin .bne r54 r57))),
 q 0 (o d59 (.pick r48 (.c (.bool true)) r58)),
 q 0 (m d60 r59),
 q 0 (.g .h3 .hc false d61 (.op (.mv r11))),
 q 0 (.g .h3 .hc false d62 (.op (.len r61))),
 q 0 (.g .h3 .hc false d63 (.op (.bin .eq r62 a0))),
 q 0 (o d64 (.pick r60 (.c (.bool true)) r63))]) (.ah k3_3 .skip)) (.ah k3_4 (.seq (.ah k3_5 (.block 0 (.loop (.ah k3_6 (.seq (.block 1 (.ah k3_7 (.seq (.qv [q 0 (m d97 r19),
 q 0 (o d98 (.bin .ne r97 a0)),
 q 0 (m d99 r98),
 q 0 (.g .h6 .h3 true d100 (.op (.mv r19))),
 q 0 (.g .h6 .h3 true d101 (.op (.bin .ne r100 (.c (pi 12))))),
 q 0 (o d102 (.pick r99 r101 (.c (.bool false)))),
 q 0 (m d103 r102),
 q 0 (.g .h6 .h7 false d104 (.op (.mv r19))),
 q 0 (.g .h6 .h7 false d105 (.op (.bin .eq r104 a0))),
 q 0 (.g .h6 .h7 false d106 (.op (.mv r105))),
 q 0 (.g .h6 .ha true d107 (.op (.lR 7 r18))),
 w (.g .h6 .ha true d108 (.call 7 [r107])),
 q 0 (.g .h6 .ha true d109 (.op (.conv .LP r108))),
 q 1 (.g .h6 .ha true d110 (.op (.mv r16))),
 q 1 (.g .h6 .ha true d111 (.op (.conv .LP r110))),
 q 0 (.g .h6 .ha true d112 (.op (.bin .Si r109 r111))),
 q 0 (.g .h6 .h7 false d113 (.op (.pick r106 r112 (.c (.bool false))))),
 q 0 (o d114 (.pick r103 (.c (.bool true)) r113)),
 q 0 (m d115 r114),
 q 0 (.g .h7 .h3 false d116 (.op (.mv r17))),
 q 0 (.g .h7 .h3 false d117 (.op (.mv r16))),
 w (.g .h7 .h3 false d118 (.call 12 [r116,r117,(.c (.int .u8 (.ofNat 165)))])),
 q 0 (.g .h7 .h3 false d119 (.op (.un .not r118))),
 q 0 (o d120 (.pick r115 (.c (.bool true)) r119))]) (.ah k3_8 .skip)))) (.ah k3_9 .skip)))))) (.ah k3_10 .skip)))))))
def f3 : AF := .mk x3 [.t .h0 .ha]
def k4_4 : KF := K5 y1 y2 y3 y4 y44 fun c i x h a b d e f=>
 I f (.nm (T10 a b d e) h) (.ex 0 (T10 a b d e) h)
def k4_5 : KF := K4 y1 y2 y3 y4 fun c i x h a b d e=>
 A 5 a h fun f h=>
 L f h fun g h=>
 X 2 g e h fun j h=>
 M 2 j h fun k h=>
 O 41 2 (.k1 (Y2 iS i0)) h fun l h=>
 S 2 l k h fun m h=>
 A 1 l h fun n h=>
 L n h fun o h=>
 C c 13 [o] h fun p h=>
 A 1 l h fun q h=>
 W q p h fun s h=>
 M 2 l h fun t h=>
 tR (bs 41 2 1 [iS,i0] [.mk 0 2 (.c t)] h) fun v h=>
 tR (lj 41 2 d v h) fun w h=>
 D e i1 h fun y h=>
 .nm (T10 a b w y) h
def k4_3 : KF := K3 y1 y2 y3 fun c i x h a b d=>
 x (T10 a b d i0) h
def k4_6 : KF := K3 y1 y2 y3 fun c i x h a b d=>
 A 5 a h fun e h=>
 W e d h fun f h=>
 A 6 a h fun g h=>
 L g h fun j h=>
 C c 14 [j,(pi 9)] h fun k h=>
 A 6 a h fun l h=>
 W l k h fun m h=>
 M 7 a h fun n h=>
 S 7 b n h fun o h=>
 .ret (T11 b) h
def Kl : KF := K2 y1 y2 fun c i x h a b=>
 A 5 a h fun d h=>
 L d h fun e h=>
 G e h fun f h=>
 tR (dx f (pi 8) h) fun g h=>
 I g (A 5 a h fun j h=>
 L j h fun k h=>
 tR (fN 2 (.c k) .none (.some (.c (pi 8))) .none .nil h) fun l h=>
 A 5 a h fun m h=>
 W m l h fun n h=>
 x (T9 a b .ar) h) (x (T9 a b .ar) h)
def Kk : KF := K2 y1 y2 fun c i x h a b=>
 A 4 a h fun d h=>
 L d h fun e h=>
 tR (fQ e h) fun f h=>
 tR (dx f (pi 700) h) fun g h=>
 I g (A 4 a h fun j h=>
 L j h fun k h=>
 tR (gM (.c k) .none (.some (.c (pi 700))) .nil h) fun l h=>
 A 4 a h fun m h=>
 W m l h fun n h=>
 x (T8 a b) h) (x (T8 a b) h)
def Kj : KF := K1 y0 fun c i x h a=>
 B 25 a h fun b h=>
 O 25 7 (.k1 (Y7 i0 i0 i0 iS iS .ar .ar)) h fun d h=>
 A 3 b h fun e h=>
 L e h fun f h=>
 tR (fQ f h) fun g h=>
 tR (dx g (pi 20) h) fun j h=>
 I j (A 3 b h fun k h=>
 L k h fun l h=>
 tR (gM (.c l) .none (.some (.c (pi 20))) .nil h) fun m h=>
 A 3 b h fun n h=>
 W n m h fun o h=>
 x (T8 b d) h) (x (T8 b d) h)
def x4 : AC := (.ah Kj (.ah Kk (.ah Kl (.seq (.ah k4_3 (.block 0 (.loop (.seq (.seq (.ops [m d30 r4,
 of d31 5 r1,
 ol d32 r31,
 o d33 (.len r32),
 o d34 (.bin .lt r30 r33),
 m d35 r34,
 .g .h2 .h3 true d36 (.op (.lS 5 r1)),
 .g .h2 .h3 true d37 (.op (.lP r36)),
 .g .h2 .h3 true d38 (.op (.mv r4)),
 .g .h2 .h3 true d39 (.op (.zg 2 r37 r38)),
 .g .h2 .h3 true d40 (.op (.lS 0 r39)),
 .g .h2 .h3 true d41 (.op (.lP r40)),
 .g .h2 .h3 true d42 (.op (.fQ r41)),
 .g .h2 .h3 true d43 (.op (.bin .le r42 (.c (pi 20)))),
 o d44 (.pick r35 r43 (.c (.bool false)))]) (.ah k4_4 .skip)) (.ah k4_5 .skip))))) (.ah k4_6 .skip)))))
def f4 : AF := .mk x4 [.agg 7 .h0 .h2]
def k5_1 : KF := K2 y1 y21 fun c i x h a b=>
 I b (.ret (T11 (.bool false)) h) (.nm (T12 a) h)
def Ko : KF := K2 y1 y3 fun c i x h a b=>
 A 5 a h fun d h=>
 L d h fun e h=>
 G e h fun f h=>
 Y b f h fun g h=>
 I g (A 5 a h fun j h=>
 L j h fun k h=>
 X 2 k b h fun l h=>
 A 1 l h fun m h=>
 L m h fun n h=>
 C c 15 [n] h fun o h=>
 tR (nT o h) fun p h=>
 I p (.ret (T11 (.bool false)) h) (D b i1 h fun q h=>
 .nm (T13 a q) h)) (.ex 0 (T13 a b) h)
def k5_2 : KF := K1 y1 fun c i x h a=>
 x (T13 a i0) h
def Kq : KF := K3 y1 y4 y5 fun c i x h a b d=>
 A 6 a h fun e h=>
 L e h fun f h=>
 X 3 f b h fun g h=>
 A 1 g h fun j h=>
 L j h fun k h=>
 X 3 k d h fun l h=>
 A 0 l h fun m h=>
 L m h fun n h=>
 C c 15 [n] h fun o h=>
 tR (nT o h) fun p h=>
 I p (.ret (T11 (.bool false)) h) (D d i1 h fun q h=>
 .nm (T15 a b q) h)
def Gs : KF := K3 y1 y4 y5 fun c i x h a b d=>
 A 6 a h fun e h=>
 L e h fun f h=>
 X 3 f b h fun g h=>
 A 1 g h fun j h=>
 L j h fun k h=>
 G k h fun l h=>
 Y d l h fun m h=>
 I m (x (T15 a b d) h) (.ex 4 (T14 a b) h)
def k5_6 : KF := K2 y1 y4 fun c i x h a b=>
 x (T15 a b i0) h
def k5_9 : KF := K2 y1 y4 fun c i x h a b=>
 D b i1 h fun d h=>
 .nm (T14 a d) h
def Kr : KF := K2 y1 y4 fun c i x h a b=>
 A 6 a h fun d h=>
 L d h fun e h=>
 G e h fun f h=>
 Y b f h fun g h=>
 I g (x (T14 a b) h) (.ex 2 T6 h)
def k5_4 : KF := K1 y1 fun c i x h a=>
 x (T14 a i0) h
def k5_10 : KF := fun c i x r h=>
 .ret (T11 (.bool true)) h
def k5_0 : KF := K1 y0 fun c i x h a=>
 B 25 a h fun b h=>
 x (T12 b) h
def x5 : AC := (.ah k5_0 (.seq (.seq (.ops [of d6 0 r1,
 ol d7 r6,
 oc d8 15 [r7],
 o d9 (.un .not r8),
 m d10 r9,
 .g .h0 .ha false d11 (.op (.lS 1 r1)),
 .g .h0 .ha false d12 (.op (.lP r11)),
 .g .h0 .ha false d13 (.call 15 [r12]),
 .g .h0 .ha false d14 (.op (.un .not r13)),
 o d15 (.pick r10 (.c (.bool true)) r14),
 m d16 r15,
 .g .h1 .h0 false d17 (.op (.lS 2 r1)),
 .g .h1 .h0 false d18 (.op (.lP r17)),
 .g .h1 .h0 false d19 (.call 15 [r18]),
 .g .h1 .h0 false d20 (.op (.un .not r19)),
 o d21 (.pick r16 (.c (.bool true)) r20)]) (.ah k5_1 .skip)) (.seq (.ah k5_2 (.block 0 (.loop (.ah Ko .skip)))) (.seq (.ah k5_4 (.block 2 (.loop (.ah Kr (.seq (.block 3 (.ah k5_6 (.block 4 (.loop (.ah Gs (.ah Kq .skip)))))) (.ah k5_9 .skip)))))) (.ah k5_10 .skip)))))
def f5 : AF := .mk x5 [.t .h0 .h2]
def k7_3 : KF := K5 y1 y3 y41 y42 y43 fun c i x h a b d e f=>
 Y f e h fun g h=>
 I g (X 2 d f h fun j h=>
 M 2 j h fun k h=>
 O 41 2 (.k1 (Y2 iS i0)) h fun l h=>
 S 2 l k h fun m h=>
 A 0 l h fun n h=>
 L n h fun o h=>
 C c 31 [b,o] h fun p h=>
 A 1 l h fun q h=>
 L q h fun s h=>
 C c 30 [b,s] h fun t h=>
 D f i1 h fun v h=>
 .nm (T16 a b d e v) h) (.ex 0 (T16 a b d e f) h)
def k7_2 : KF := K2 y1 y3 fun c i x h a b=>
 A 5 a h fun d h=>
 L d h fun e h=>
 G e h fun f h=>
 x (T16 a b e f i0) h
def KU : KF := K8 y3 y7 y62 y63 y64 y78 y79 y80 fun c i x h a b d e f g j k=>
 Y k j h fun l h=>
 I l (X 3 g k h fun m h=>
 M 3 m h fun n h=>
 O 50 3 (.k1 (Y3 i0 i0 iS)) h fun o h=>
 S 3 o n h fun p h=>
 A 0 o h fun q h=>
 L q h fun s h=>
 C c 30 [a,s] h fun t h=>
 A 1 o h fun v h=>
 L v h fun w h=>
 C c 30 [a,w] h fun y h=>
 A 2 o h fun z h=>
 L z h fun a0 h=>
 C c 31 [a,a0] h fun a1 h=>
 D k i1 h fun a2 h=>
 .nm (T20 a b d e f g j a2) h) (.ex 4 (T20 a b d e f g j k) h)
def k7_8 : KF := K5 y3 y7 y62 y63 y64 fun c i x h a b d e f=>
 A 1 b h fun g h=>
 L g h fun j h=>
 G j h fun k h=>
 x (T20 a b d e f j k i0) h
def k7_10 : KF := K5 y3 y7 y62 y63 y64 fun c i x h a b d e f=>
 A 2 b h fun g h=>
 L g h fun j h=>
 I j (C c 32 [a,i1] h fun k h=>
 .nm (T17 a d e f) h) (C c 32 [a,i0] h fun k h=>
 .nm (T17 a d e f) h)
def k7_7 : KF := K4 y3 y62 y63 y64 fun c i x h a b d e=>
 X 3 b e h fun f h=>
 M 3 f h fun g h=>
 O 48 3 (.k1 (Y3 iS .ar (.bool false))) h fun j h=>
 S 3 j g h fun k h=>
 A 0 j h fun l h=>
 L l h fun m h=>
 C c 31 [a,m] h fun n h=>
 A 1 j h fun o h=>
 L o h fun p h=>
 G p h fun q h=>
 C c 32 [a,q] h fun s h=>
 x (T19 a j b d e) h
def k7_11 : KF := K4 y3 y62 y63 y64 fun c i x h a b d e=>
 D e i1 h fun f h=>
 .nm (T17 a b d f) h
def k7_6 : KF := K4 y3 y62 y63 y64 fun c i x h a b d e=>
 Y e d h fun f h=>
 I f (x (T17 a b d e) h) (.ex 2 (T18 a) h)
def k7_5 : KF := K2 y1 y3 fun c i x h a b=>
 A 6 a h fun d h=>
 L d h fun e h=>
 G e h fun f h=>
 x (T17 b e f i0) h
def k7_12 : KF := K1 y3 fun c i x h a=>
 C c 33 [a] h fun b h=>
 .ret (T11 b) h
def k7_4 : KF := K2 y1 y3 fun c i x h a b=>
 A 6 a h fun d h=>
 L d h fun e h=>
 G e h fun f h=>
 C c 32 [b,f] h fun g h=>
 x (T13 a b) h
def k7_1 : KF := K2 y1 y3 fun c i x h a b=>
 A 3 a h fun d h=>
 L d h fun e h=>
 C c 31 [b,e] h fun f h=>
 A 4 a h fun g h=>
 L g h fun j h=>
 C c 31 [b,j] h fun k h=>
 A 5 a h fun l h=>
 L l h fun m h=>
 G m h fun n h=>
 C c 32 [b,n] h fun o h=>
 x (T13 a b) h
def k7_0 : KF := K1 y0 fun c i x h a=>
 B 25 a h fun b h=>
 M 7 b h fun d h=>
 C c 28 [d] h fun e h=>
 tR (nT e h) fun f h=>
 I f (.ret (T11 .ar) h) (C c 29 [] h fun g h=>
 A 0 b h fun j h=>
 L j h fun k h=>
 C c 30 [g,k] h fun l h=>
 A 1 b h fun m h=>
 L m h fun n h=>
 C c 30 [g,n] h fun o h=>
 A 2 b h fun p h=>
 L p h fun q h=>
 C c 30 [g,q] h fun s h=>
 x (T13 b g) h)
def x7 : AC := (.ah k7_0 (.ah k7_1 (.seq (.ah k7_2 (.block 0 (.loop (.ah k7_3 .skip)))) (.ah k7_4 (.seq (.ah k7_5 (.block 2 (.loop (.ah k7_6 (.seq (.block 3 (.ah k7_7 (.seq (.ah k7_8 (.block 4 (.loop (.ah KU .skip)))) (.ah k7_10 .skip)))) (.ah k7_11 .skip)))))) (.ah k7_12 .skip))))))
def f7 : AF := .mk x7 [.t .h0 .h2]
def k8_3 : KF := K5 y0 y2 y4 y5 y6 fun c i x h a b d e f=>
 Z f i1 h fun g h=>
 .nm (T22 a b d e g) h
def KW : KF := K5 y0 y2 y4 y5 y6 fun c i x h a b d e f=>
 tR (dx f i0 h) fun g h=>
 I g (C c 36 [d,(pi 65535)] h fun j h=>
 U [iS,i0] [.mk 0 1 (.c j)] h fun k h=>
 O 41 2 (.k1 (Y2 iS i0)) h fun l h=>
 S 2 l k h fun m h=>
 C c 35 [d] h fun n h=>
 A 1 l h fun o h=>
 W o n h fun p h=>
 A 5 e h fun q h=>
 L q h fun s h=>
 M 2 l h fun t h=>
 tR (bs 41 2 1 [iS,i0] [.mk 0 2 (.c t)] h) fun v h=>
 tR (lj 41 2 s v h) fun w h=>
 A 5 e h fun y h=>
 W y w h fun z h=>
 x (T22 a b d e f) h) (.ex 0 (T21 a b d e) h)
def k8_1 : KF := K4 y0 y2 y4 y5 fun c i x h a b d e=>
 C c 37 [d] h fun f h=>
 x (T22 a b d e f) h
def k8_6 : KF := K5 y0 y2 y4 y5 y8 fun c i x h a b d e f=>
 Z f i1 h fun g h=>
 .nm (T23 a b d e g) h
def k8_5 : KF := K5 y0 y2 y4 y5 y8 fun c i x h a b d e f=>
 tR (dx f i0 h) fun g h=>
 I g (x (T23 a b d e f) h) (.ex 2 (T21 a b d e) h)
def k8_4 : KF := K4 y0 y2 y4 y5 fun c i x h a b d e=>
 C c 37 [d] h fun f h=>
 x (T23 a b d e f) h
def k8_8 : KF := K3 y2 y5 y75 fun c i x h a b d=>
 I d (U [i0,i0,i0,iS,iS,.ar,.ar] [] h fun e h=>
 S 7 a e h fun f h=>
 .ret (T25 a (pi 12)) h) (.nm (T26 a b) h)
def k8_7 : KF := K4 y0 y2 y4 y5 fun c i x h a b d e=>
 C c 39 [d] h fun f h=>
 E 0 f h fun g h=>
 E 1 f h fun j h=>
 x (T24 a b e g) h
def k8_9 : KF := K2 y2 y5 fun c i x h a b=>
 M 7 b h fun d h=>
 S 7 a d h fun e h=>
 .ret (T25 a i0) h
def k8_0 : KF := K1 y0 fun c i x h a=>
 O 25 7 (.k1 (Y7 i0 i0 i0 iS iS .ar .ar)) h fun b h=>
 C c 34 [a] h fun d h=>
 C c 35 [d] h fun e h=>
 C c 35 [d] h fun f h=>
 C c 35 [d] h fun g h=>
 U [i0,i0,i0,iS,iS,.ar,.ar] [.mk 0 1 (.c e),.mk 1 1 (.c f),.mk 2 1 (.c g)] h fun j h=>
 O 25 7 (.k1 (Y7 i0 i0 i0 iS iS .ar .ar)) h fun k h=>
 S 7 k j h fun l h=>
 C c 36 [d,(pi 65535)] h fun m h=>
 A 3 k h fun n h=>
 W n m h fun o h=>
 C c 36 [d,(pi 65535)] h fun p h=>
 A 4 k h fun q h=>
 W q p h fun s h=>
 x (T21 a b d k) h
def x8 : AC := (.ah k8_0 (.seq (.ah k8_1 (.block 0 (.loop (.ah KW (.ah k8_3 .skip))))) (.seq (.ah k8_4 (.block 2 (.loop (.ah k8_5 (.seq (.block 3 (.qv [q 0 (m d52 r4),
 w (oc d53 38 [r52]),
 w (o d54 (.cu 48 3 1 [iS,.ar,(.bool false)] [.mk 0 3 r53])),
 qf 2 d50 6 r5,
 ql 2 d51 r50,
 w (o d55 (.app 48 3 r51 r54)),
 qf 0 d56 6 r5,
 w (os r56 r55)])) (.ah k8_6 .skip)))))) (.seq (.ah k8_7 (.seq (.ops [m d62 r9,
 o d63 (.bin .ne r62 a0),
 m d64 r63,
 .g .h4 .h0 false d65 (.op (.lR 7 r5)),
 .g .h4 .h0 false d66 (.call 28 [r65]),
 .g .h4 .h0 false d67 (.op (.un .not r66)),
 o d68 (.pick r64 (.c (.bool true)) r67),
 m d69 r68,
 .g .h4 .h5 false d70 (.op (.lR 7 r5)),
 .g .h4 .h5 false d71 (.call 7 [r70]),
 .g .h4 .h5 false d72 (.op (.mv r0)),
 .g .h4 .h5 false d73 (.call 40 [r71,r72]),
 .g .h4 .h5 false d74 (.op (.un .not r73)),
 o d75 (.pick r69 (.c (.bool true)) r74)]) (.ah k8_8 .skip))) (.ah k8_9 .skip)))))
def f8 : AF := .mk x8 [.agg 7 .h0 .h2,.t .h0 .h3]
def k9_0 : KF := K2 y0 y1 fun c i x h a b=>
 B 25 a h fun d h=>
 B 25 b h fun e h=>
 x (T25 d e) h
def x9 : AC := (.ah k9_0 (.seq (.ops [of d5 0 r2,
 ol d6 r5,
 of d7 0 r3,
 ol d8 r7,
 o d9 (.bin .eq r6 r8),
 m d10 r9,
 .g .h0 .ha true d11 (.op (.lS 1 r2)),
 .g .h0 .ha true d12 (.op (.lP r11)),
 .g .h0 .ha true d13 (.op (.lS 1 r3)),
 .g .h0 .ha true d14 (.op (.lP r13)),
 .g .h0 .ha true d15 (.op (.bin .eq r12 r14)),
 o d16 (.pick r10 r15 (.c (.bool false))),
 m d17 r16,
 .g .h1 .h1 true d18 (.op (.lS 2 r2)),
 .g .h1 .h1 true d19 (.op (.lP r18)),
 .g .h1 .h1 true d20 (.op (.lS 2 r3)),
 .g .h1 .h1 true d21 (.op (.lP r20)),
 .g .h1 .h1 true d22 (.op (.bin .eq r19 r21)),
 o d23 (.pick r17 r22 (.c (.bool false))),
 m d24 r23,
 .g .h1 .h8 true d25 (.op (.lS 3 r2)),
 .g .h1 .h8 true d26 (.op (.lP r25)),
 .g .h1 .h8 true d27 (.op (.lS 3 r3)),
 .g .h1 .h8 true d28 (.op (.lP r27)),
 .g .h1 .h8 true d29 (.op (.bin .seq r26 r28)),
 o d30 (.pick r24 r29 (.c (.bool false))),
 m d31 r30,
 .g .h1 .hf true d32 (.op (.lS 4 r2)),
 .g .h1 .hf true d33 (.op (.lP r32)),
 .g .h1 .hf true d34 (.op (.lS 4 r3)),
 .g .h1 .hf true d35 (.op (.lP r34)),
 .g .h1 .hf true d36 (.op (.bin .seq r33 r35)),
 o d37 (.pick r31 r36 (.c (.bool false))),
 m d38 r37,
 .g .h2 .h6 true d39 (.op (.lS 5 r2)),
 .g .h2 .h6 true d40 (.op (.lP r39)),
 .g .h2 .h6 true d41 (.op (.lS 5 r3)),
 .g .h2 .h6 true d42 (.op (.lP r41)),
 .g .h2 .h6 true d43 (.call 41 [r40,r42]),
 o d44 (.pick r38 r43 (.c (.bool false))),
 m d45 r44,
 .g .h2 .hd true d46 (.op (.lS 6 r2)),
 .g .h2 .hd true d47 (.op (.lP r46)),
 .g .h2 .hd true d48 (.op (.lS 6 r3)),
 .g .h2 .hd true d49 (.op (.lP r48)),
 .g .h2 .hd true d50 (.call 42 [r47,r49]),
 o d51 (.pick r45 r50 (.c (.bool false))),
 m d4 r51]) .ret))
def f9 : AF := .mk x9 [.t .h0 .h4]
def k10_1 : KF := K2 y0 y1 fun c i x h a b=>
 D b a h fun d h=>
 .ret (T28 d) h
def k10_0 : KF := K3 y0 y1 y2 fun c i x h a b d=>
 Z d b h fun e h=>
 D e i1 h fun f h=>
 tR (DR a f h) fun g h=>
 Y g i0 h fun j h=>
 I j (D g d h fun k h=>
 Z k b h fun l h=>
 D l i1 h fun m h=>
 x (T27 m b) h) (x (T27 g b) h)
def x10 : AC := (.ah k10_0 (.ah k10_1 .skip))
def f10 : AF := .mk x10 [.t .h0 .h6]
def k11_2 : KF := K3 y1 y5 y6 fun c i x h a b d=>
 G b h fun e h=>
 Y d e h fun f h=>
 I f (X 1 b d h fun g h=>
 W g a h fun j h=>
 D d i1 h fun k h=>
 .nm (T30 a b k) h) (.ex 0 (T30 a b d) h)
def k11_1 : KF := K3 y0 y1 y5 fun c i x h a b d=>
 G a h fun e h=>
 x (T30 b d e) h
def k11_3 : KF := K1 y5 fun c i x h a=>
 .ret (T31 a) h
def k11_0 : KF := K2 y0 y1 fun c i x h a b=>
 G a h fun d h=>
 D d (pi 80) h fun e h=>
 tR (fV 5 [(.int .u8 (.ofNat 0))] (.c e) (.c e) .nil h) fun f h=>
 tR (FY 1 f a h) fun g h=>
 x (T29 a b f) h
def x11 : AC := (.ah k11_0 (.seq (.ah k11_1 (.block 0 (.loop (.ah k11_2 .skip)))) (.ah k11_3 .skip)))
def f11 : AF := .mk x11 [.t .h0 .h4]
def k12_1 : KF := K4 y0 y1 y2 y22 fun c i x h a b d e=>
 I e (.ret (T28 (.bool false)) h) (.nm (T32 a b d) h)
def k12_3 : KF := K3 y0 y2 y7 fun c i x h a b d=>
 G a h fun e h=>
 Y d e h fun f h=>
 I f (X 1 a d h fun g h=>
 L g h fun j h=>
 tR (jL j b h) fun k h=>
 I k (.ret (T28 (.bool false)) h) (D d i1 h fun l h=>
 .nm (T33 a b l) h)) (.ex 0 (T33 a b d) h)
def k12_2 : KF := K3 y0 y1 y2 fun c i x h a b d=>
 G b h fun e h=>
 x (T33 a d e) h
def k12_4 : KF := fun c i x r h=>
 .ret (T28 (.bool true)) h
def k12_0 : KF := K3 y0 y1 y2 fun c i x h a b d=>
 x (T32 a b d) h
def x12 : AC := (.ah k12_0 (.seq (.seq (.ops [m d8 r0,
 o d9 (.len r8),
 m d10 r1,
 o d11 (.len r10),
 o d12 (.bin .add r11 (.c (pi 80))),
 o d13 (.bin .ne r9 r12),
 m d14 r13,
 .g .h0 .he false d15 (.op (.mv r0)),
 .g .h0 .he false d16 (.op (.mv r1)),
 .g .h0 .he false d17 (.op (.len r16)),
 .g .h0 .he false d18 (.op (.Sh 1 r15 .none (.some r17) .none)),
 .g .h0 .he false d19 (.op (.mv r1)),
 .g .h0 .he false d20 (.call 43 [r18,r19]),
 .g .h0 .he false d21 (.op (.un .not r20)),
 o d22 (.pick r14 (.c (.bool true)) r21)]) (.ah k12_1 .skip)) (.seq (.ah k12_2 (.block 0 (.loop (.ah k12_3 .skip)))) (.ah k12_4 .skip))))
def f12 : AF := .mk x12 [.t .h0 .h6]
def k13_1 : KF := K1 y0 fun c i x h a=>
 .ret (T11 a) h
def k13_0 : KF := K1 y0 fun c i x h a=>
 Y a (ni 999) h fun b h=>
 gD b false (fun d=>d a h) h fun d h=>
 gD b false (fun e=>tR (dx d (pi 1000) h) fun f h=>
 e f h) h fun e h=>
 tR (fU (.c b) (.c (.bool true)) (.c e) .nil h) fun f h=>
 I f (.ret (T11 i0) h) (x (T34 a) h)
def x13 : AC := (.ah k13_0 (.ah k13_1 .skip))
def f13 : AF := .mk x13 [.t .h0 .h2]
def k14_2 : KF := K5 y0 y1 y5 y6 y18 fun c i x h a b d e f=>
 I f (.nm (T35 a b d e) h) (.ex 0 (T35 a b d e) h)
def k14_8 : KF := K7 y0 y1 y5 y6 y7 y8 y9 fun c i x h a b d e f g j=>
 D j i1 h fun k h=>
 .nm (T38 a b d e f g k) h
def xm : KF := K7 y0 y1 y5 y6 y7 y8 y9 fun c i x h a b d e f g j=>
 X 3 g j h fun k h=>
 A 2 k h fun l h=>
 L l h fun m h=>
 tR (fQ m h) fun n h=>
 tR (dx n (pi 41) h) fun o h=>
 I o (X 3 g j h fun p h=>
 A 2 p h fun q h=>
 L q h fun s h=>
 tR (gM (.c s) .none (.some (.c (pi 41))) .nil h) fun t h=>
 X 3 g j h fun v h=>
 A 2 v h fun w h=>
 W w t h fun y h=>
 X 3 g j h fun z h=>
 A 0 z h fun a0 h=>
 L a0 h fun a1 h=>
 C c 13 [a1] h fun a2 h=>
 X 3 g j h fun a3 h=>
 A 0 a3 h fun a4 h=>
 W a4 a2 h fun a5 h=>
 x (T38 a b d e f g j) h) (X 3 g j h fun p h=>
 A 0 p h fun q h=>
 L q h fun s h=>
 C c 13 [s] h fun t h=>
 X 3 g j h fun v h=>
 A 0 v h fun w h=>
 W w t h fun y h=>
 x (T38 a b d e f g j) h)
def xn : KF := K7 y0 y1 y5 y6 y7 y8 y9 fun c i x h a b d e f g j=>
 G g h fun k h=>
 Y j k h fun l h=>
 I l (x (T38 a b d e f g j) h) (.ex 2 (T37 a b d e f g) h)
def k14_5 : KF := K6 y0 y1 y5 y6 y7 y8 fun c i x h a b d e f g=>
 x (T38 a b d e f g i0) h
def k14_9 : KF := K6 y0 y1 y5 y6 y7 y8 fun c i x h a b d e f g=>
 A 1 f h fun j h=>
 W j g h fun k h=>
 M 3 f h fun l h=>
 tR (bs 48 3 1 [iS,.ar,(.bool false)] [.mk 0 3 (.c l)] h) fun m h=>
 tR (lj 48 3 d m h) fun n h=>
 .nm (T35 a b n e) h
def k14_4 : KF := K5 y0 y1 y5 y6 y7 fun c i x h a b d e f=>
 tR (bs 50 3 0 [] [] h) fun g h=>
 A 1 f h fun j h=>
 L j h fun k h=>
 tR (lj 50 3 g k h) fun l h=>
 G l h fun m h=>
 tR (dx m (pi 7) h) fun n h=>
 I n (tR (fN 3 (.c l) .none (.some (.c (pi 7))) .none .nil h) fun o h=>
 x (T37 a b d e f o) h) (x (T37 a b d e f l) h)
def k14_3 : KF := K4 y0 y1 y5 y6 fun c i x h a b d e=>
 X 3 a e h fun f h=>
 M 3 f h fun g h=>
 O 48 3 (.k1 (Y3 iS .ar (.bool false))) h fun j h=>
 S 3 j g h fun k h=>
 A 0 j h fun l h=>
 L l h fun m h=>
 tR (fQ m h) fun n h=>
 tR (dx n (pi 20) h) fun o h=>
 I o (A 0 j h fun p h=>
 L p h fun q h=>
 tR (gM (.c q) .none (.some (.c (pi 20))) .nil h) fun s h=>
 A 0 j h fun t h=>
 W t s h fun v h=>
 x (T36 a b d e j) h) (x (T36 a b d e j) h)
def k14_10 : KF := K4 y0 y1 y5 y6 fun c i x h a b d e=>
 D e i1 h fun f h=>
 .nm (T35 a b d f) h
def k14_1 : KF := K3 y0 y1 y5 fun c i x h a b d=>
 x (T35 a b d i0) h
def k14_11 : KF := K1 y5 fun c i x h a=>
 .ret (T31 a) h
def k14_0 : KF := K2 y0 y1 fun c i x h a b=>
 x (T29 a b .ar) h
def x14 : AC := (.ah k14_0 (.seq (.ah k14_1 (.block 0 (.loop (.seq (.seq (.ops [m d10 r6,
 m d11 r0,
 o d12 (.len r11),
 o d13 (.bin .lt r10 r12),
 m d14 r13,
 .g .h0 .he true d15 (.op (.mv r6)),
 .g .h0 .he true d16 (.op (.mv r1)),
 .g .h0 .he true d17 (.op (.bin .lt r15 r16)),
 o d18 (.pick r14 r17 (.c (.bool false)))]) (.ah k14_2 .skip)) (.seq (.block 1 (.ah k14_3 (.ah k14_4 (.seq (.ah k14_5 (.block 2 (.loop (.ah xn (.ah xm (.ah k14_8 .skip)))))) (.ah k14_9 .skip))))) (.ah k14_10 .skip)))))) (.ah k14_11 .skip)))
def f14 : AF := .mk x14 [.t .h0 .h4]
def k15_0 : KF := K1 y0 fun c i x h a=>
 tR (yn a (ni 2147483647) h) fun b h=>
 gD b true (fun d=>d a h) h fun d h=>
 gD b true (fun e=>Y d (pi 2147483648) h fun f h=>
 e f h) h fun e h=>
 tR (fU (.c b) (.c e) (.c (.bool false)) .nil h) fun f h=>
 .ret (T11 f) h
def x15 : AC := (.ah k15_0 .skip)
def f15 : AF := .mk x15 [.t .h0 .h2]
def k28_1 : KF := K2 y1 y36 fun c i x h a b=>
 I b (.ret (T11 (.bool false)) h) (.nm (T12 a) h)
def k28_5 : KF := K5 y1 y38 y39 y40 y55 fun c i x h a b d e f=>
 I f (.ret (T11 (.bool false)) h) (.nm (T39 a b d e) h)
def k28_4 : KF := K4 y1 y38 y39 y40 fun c i x h a b d e=>
 X 2 b e h fun f h=>
 M 2 f h fun g h=>
 O 41 2 (.k1 (Y2 iS i0)) h fun j h=>
 S 2 j g h fun k h=>
 x (T40 a j b d e) h
def k28_6 : KF := K4 y1 y38 y39 y40 fun c i x h a b d e=>
 D e i1 h fun f h=>
 .nm (T39 a b d f) h
def k28_3 : KF := K4 y1 y38 y39 y40 fun c i x h a b d e=>
 Y e d h fun f h=>
 I f (x (T39 a b d e) h) (.ex 0 (T12 a) h)
def k28_2 : KF := K1 y1 fun c i x h a=>
 A 5 a h fun b h=>
 L b h fun d h=>
 G d h fun e h=>
 x (T39 a d e i0) h
def k28_10 : KF := K4 y58 y59 y60 y74 fun c i x h a b d e=>
 I e (.ret (T11 (.bool false)) h) (.nm (T41 a b d) h)
def k28_9 : KF := K3 y58 y59 y60 fun c i x h a b d=>
 X 3 a d h fun e h=>
 M 3 e h fun f h=>
 O 48 3 (.k1 (Y3 iS .ar (.bool false))) h fun g h=>
 S 3 g f h fun j h=>
 x (T42 g a b d) h
def k28_11 : KF := K3 y58 y59 y60 fun c i x h a b d=>
 D d i1 h fun e h=>
 .nm (T41 a b e) h
def k28_8 : KF := K3 y58 y59 y60 fun c i x h a b d=>
 Y d b h fun e h=>
 I e (x (T41 a b d) h) (.ex 2 T6 h)
def k28_7 : KF := K1 y1 fun c i x h a=>
 A 6 a h fun b h=>
 L b h fun d h=>
 G d h fun e h=>
 x (T41 d e i0) h
def k28_12 : KF := fun c i x r h=>
 .ret (T11 (.bool true)) h
def k28_0 : KF := K1 y0 fun c i x h a=>
 B 25 a h fun b h=>
 x (T12 b) h
def x28 : AC := (.ah k28_0 (.seq (.seq (.ops [of d7 0 r1,
 ol d8 r7,
 of d9 1 r1,
 ol d10 r9,
 of d11 2 r1,
 ol d12 r11,
 o d13 (.cu 3 1 3 [i0,i0,i0] [.mk 0 1 r8,.mk 1 1 r10,.mk 2 1 r12]),
 oc d14 52 [r13],
 o d15 (.un .not r14),
 m d16 r15,
 .g .h1 .h0 false d17 (.op (.lS 3 r1)),
 .g .h1 .h0 false d18 (.op (.lP r17)),
 .g .h1 .h0 false d19 (.op (.lS 4 r1)),
 .g .h1 .h0 false d20 (.op (.lP r19)),
 .g .h1 .h0 false d21 (.op (.cu 9 1 2 [iS,iS] [.mk 0 1 r18,.mk 1 1 r20])),
 .g .h1 .h0 false d22 (.call 53 [r21]),
 .g .h1 .h0 false d23 (.op (.un .not r22)),
 o d24 (.pick r16 (.c (.bool true)) r23),
 m d25 r24,
 .g .h1 .h9 false d26 (.op (.lS 5 r1)),
 .g .h1 .h9 false d27 (.op (.lP r26)),
 .g .h1 .h9 false d28 (.op (.len r27)),
 .g .h1 .h9 false d29 (.op (.bin .gt r28 (.c (pi 255)))),
 o d30 (.pick r25 (.c (.bool true)) r29),
 m d31 r30,
 .g .h1 .hf false d32 (.op (.lS 6 r1)),
 .g .h1 .hf false d33 (.op (.lP r32)),
 .g .h1 .hf false d34 (.op (.len r33)),
 .g .h1 .hf false d35 (.op (.bin .gt r34 (.c (pi 255)))),
 o d36 (.pick r31 (.c (.bool true)) r35)]) (.ah k28_1 .skip)) (.seq (.ah k28_2 (.block 0 (.loop (.ah k28_3 (.seq (.block 1 (.ah k28_4 (.seq (.ops [of d44 1 r4,
 ol d45 r44,
 o d46 (.cu 3 1 1 [i0] [.mk 0 1 r45]),
 oc d47 52 [r46],
 o d48 (.un .not r47),
 m d49 r48,
 .g .h3 .h1 false d50 (.op (.lS 0 r4)),
 .g .h3 .h1 false d51 (.op (.lP r50)),
 .g .h3 .h1 false d52 (.op (.cu 9 1 1 [iS] [.mk 0 1 r51])),
 .g .h3 .h1 false d53 (.call 53 [r52]),
 .g .h3 .h1 false d54 (.op (.un .not r53)),
 o d55 (.pick r49 (.c (.bool true)) r54)]) (.ah k28_5 .skip)))) (.ah k28_6 .skip)))))) (.seq (.ah k28_7 (.block 2 (.loop (.ah k28_8 (.seq (.block 3 (.ah k28_9 (.seq (.ops [of d64 0 r6,
 ol d65 r64,
 o d66 (.cu 9 1 1 [iS] [.mk 0 1 r65]),
 oc d67 53 [r66],
 o d68 (.un .not r67),
 m d69 r68,
 .g .h4 .h5 false d70 (.op (.lS 1 r6)),
 .g .h4 .h5 false d71 (.op (.lP r70)),
 .g .h4 .h5 false d72 (.call 54 [r71]),
 .g .h4 .h5 false d73 (.op (.un .not r72)),
 o d74 (.pick r69 (.c (.bool true)) r73)]) (.ah k28_10 .skip)))) (.ah k28_11 .skip)))))) (.ah k28_12 .skip)))))
def f28 : AF := .mk x28 [.t .h0 .h2]
def k29_0 : KF := fun c i x r h=>
 U [.ar] [] h fun a h=>
 B 110 a h fun b h=>
 .ret (T34 b) h
def x29 : AC := (.ah k29_0 .skip)
def f29 : AF := .mk x29 [.t .h0 .h0]
def k30_0 : KF := K2 y0 y1 fun c i x h a b=>
 tR (cK (.toInt .u64) b h) fun d h=>
 C c 55 [a,d,(pi 8)] h fun e h=>
 .nm T6 h
def x30 : AC := (.ah k30_0 .skip)
def f30 : AF := .mk x30 []
def k31_0 : KF := K2 y0 y1 fun c i x h a b=>
 tR (fQ b h) fun d h=>
 C c 56 [a,d] h fun e h=>
 J a h fun f h=>
 A 0 f h fun g h=>
 L g h fun j h=>
 tR (me 5 (.c j) (.c b) .nil h) fun k h=>
 J a h fun l h=>
 A 0 l h fun m h=>
 W m k h fun n h=>
 .nm T6 h
def x31 : AC := (.ah k31_0 .skip)
def f31 : AF := .mk x31 []
def k32_0 : KF := K2 y0 y1 fun c i x h a b=>
 tR (cK (.toInt .u64) b h) fun d h=>
 C c 55 [a,d,i1] h fun e h=>
 .nm T6 h
def x32 : AC := (.ah k32_0 .skip)
def f32 : AF := .mk x32 []
def k33_0 : KF := K1 y0 fun c i x h a=>
 J a h fun b h=>
 A 0 b h fun d h=>
 L d h fun e h=>
 C c 57 [e] h fun f h=>
 .ret (T11 f) h
def x33 : AC := (.ah k33_0 .skip)
def f33 : AF := .mk x33 [.t .h0 .h2]
def k34_0 : KF := K1 y0 fun c i x h a=>
 C c 57 [a] h fun b h=>
 U [.ar,i0,i0,i0] [.mk 0 1 (.c b)] h fun d h=>
 B 115 d h fun e h=>
 .ret (T11 e) h
def x34 : AC := (.ah k34_0 .skip)
def f34 : AF := .mk x34 [.t .h0 .h2]
def k35_0 : KF := K1 y0 fun c i x h a=>
 C c 58 [a,(pi 8)] h fun b h=>
 tR (cK (.toInt .i64) b h) fun d h=>
 .ret (T11 d) h
def x35 : AC := (.ah k35_0 .skip)
def f35 : AF := .mk x35 [.t .h0 .h2]
def k36_1 : KF := K4 y0 y5 y6 y23 fun c i x h a b d e=>
 I e (C c 60 [a,(pi 3),b] h fun f h=>
 .nm (T43 a d) h) (.nm (T43 a d) h)
def k36_2 : KF := K2 y0 y6 fun c i x h a b=>
 C c 61 [a,b] h fun d h=>
 tR (cK .LP d h) fun e h=>
 .ret (T31 e) h
def k36_0 : KF := K2 y0 y1 fun c i x h a b=>
 J a h fun d h=>
 A 1 d h fun e h=>
 L e h fun f h=>
 C c 59 [a] h fun g h=>
 x (T35 a b f g) h
def x36 : AC := (.ah k36_0 (.seq (.seq (.ops [m d13 r0,
 oj d14 r13,
 of d15 2 r14,
 ol d16 r15,
 o d17 (.bin .eq r16 a0),
 m d18 r17,
 .g .h1 .h2 true d19 (.op (.mv r6)),
 .g .h1 .h2 true d20 (.op (.mv r1)),
 .g .h1 .h2 true d21 (.op (.max false [r20,a0])),
 .g .h1 .h2 true d22 (.op (.bin .gt r19 r21)),
 o d23 (.pick r18 r22 (.c (.bool false)))]) (.ah k36_1 .skip)) (.ah k36_2 .skip)))
def f36 : AF := .mk x36 [.t .h0 .h4]
def k37_0 : KF := K1 y0 fun c i x h a=>
 C c 58 [a,i1] h fun b h=>
 tR (cK (.toInt .i64) b h) fun d h=>
 .ret (T11 d) h
def x37 : AC := (.ah k37_0 .skip)
def f37 : AF := .mk x37 [.t .h0 .h2]
def k38_3 : KF := K4 y0 y2 y3 y4 fun c i x h a b d e=>
 Z e i1 h fun f h=>
 .nm (T45 a b d f) h
def Bc : KF := K4 y0 y2 y3 y4 fun c i x h a b d e=>
 tR (dx e i0 h) fun f h=>
 I f (C c 35 [a] h fun g h=>
 C c 35 [a] h fun j h=>
 U [i0,i0,iS] [.mk 0 1 (.c g),.mk 1 1 (.c j)] h fun k h=>
 O 50 3 (.k1 (Y3 i0 i0 iS)) h fun l h=>
 S 3 l k h fun m h=>
 C c 36 [a,(pi 65535)] h fun n h=>
 A 2 l h fun o h=>
 W o n h fun p h=>
 A 1 d h fun q h=>
 L q h fun s h=>
 M 3 l h fun t h=>
 tR (bs 50 3 1 [i0,i0,iS] [.mk 0 3 (.c t)] h) fun v h=>
 tR (lj 50 3 s v h) fun w h=>
 A 1 d h fun y h=>
 W y w h fun z h=>
 x (T45 a b d e) h) (.ex 0 (T44 a b d) h)
def k38_1 : KF := K3 y0 y2 y3 fun c i x h a b d=>
 C c 37 [a] h fun e h=>
 x (T45 a b d e) h
def k38_4 : KF := K3 y0 y2 y3 fun c i x h a b d=>
 C c 37 [a] h fun e h=>
 tR (dx e i0 h) fun f h=>
 A 2 d h fun g h=>
 W g f h fun j h=>
 M 3 d h fun k h=>
 S 3 b k h fun l h=>
 .ret (T11 b) h
def k38_0 : KF := K1 y0 fun c i x h a=>
 O 48 3 (.k1 (Y3 iS .ar (.bool false))) h fun b h=>
 C c 36 [a,(pi 65535)] h fun d h=>
 U [iS,.ar,(.bool false)] [.mk 0 1 (.c d)] h fun e h=>
 O 48 3 (.k1 (Y3 iS .ar (.bool false))) h fun f h=>
 S 3 f e h fun g h=>
 x (T44 a b f) h
def x38 : AC := (.ah k38_0 (.seq (.ah k38_1 (.block 0 (.loop (.ah Bc (.ah k38_3 .skip))))) (.ah k38_4 .skip)))
def f38 : AF := .mk x38 [.agg 3 .h0 .h2]
def k39_2 : KF := fun c i x r h=>
 .ret (T25 i0 i0) h
def k39_1 : KF := K1 y0 fun c i x h a=>
 J a h fun b h=>
 A 2 b h fun d h=>
 L d h fun e h=>
 tR (jL e i0 h) fun f h=>
 I f (tQ (nC a h) fun g=>
 tQ (fA 2 g h) fun j=>
 tQ (lD j h) fun k=>
 tQ (nC a h) fun l=>
 tQ (fA 3 l h) fun m=>
 tQ (lD m h) fun n=>
 .ret (T25 k n) h) (tQ (nC a h) fun g=>
 tQ (fA 1 g h) fun j=>
 tQ (lD j h) fun k=>
 tQ (nC a h) fun l=>
 tQ (fA 0 l h) fun m=>
 tQ (lD m h) fun n=>
 tQ (len n h) fun o=>
 tQ (qR k o h) fun p=>
 I p (tQ (nC a h) fun q=>
 tQ (fA 1 q h) fun s=>
 tQ (lD s h) fun t=>
 .ret (T25 (pi 11) t) h) (x T6 h))
def k39_0 : KF := K1 y0 fun c i x h a=>
 x (T34 a) h
def x39 : AC := (.ah k39_0 (.ah k39_1 (.ah k39_2 .skip)))
def f39 : AF := .mk x39 [.t .h0 .h2,.t .h0 .h3]
def k40_0 : KF := K2 y0 y1 fun c i x h a b=>
 tR (cK .LP a h) fun d h=>
 tR (cK .LP b h) fun e h=>
 tR (dh d e h) fun f h=>
 .ret (T31 f) h
def x40 : AC := (.ah k40_0 .skip)
def f40 : AF := .mk x40 [.t .h0 .h4]
def k41_2 : KF := K3 y0 y1 y5 fun c i x h a b d=>
 G a h fun e h=>
 Y d e h fun f h=>
 I f (tQ (iX 2 a d h) fun g=>
 tQ (lR 2 g h) fun j=>
 tQ (iX 2 b d h) fun k=>
 tQ (lR 2 k h) fun l=>
 tQ (bK (.PX [.s,.i]) j l h) fun m=>
 I m (.ret (T31 (.bool false)) h) (D d i1 h fun n h=>
 .nm (T29 a b n) h)) (.ex 0 (T29 a b d) h)
def k41_1 : KF := K2 y0 y1 fun c i x h a b=>
 x (T29 a b i0) h
def k41_3 : KF := fun c i x r h=>
 .ret (T31 (.bool true)) h
def k41_0 : KF := K2 y0 y1 fun c i x h a b=>
 G a h fun d h=>
 G b h fun e h=>
 tR (jL d e h) fun f h=>
 I f (.ret (T31 (.bool false)) h) (x (T27 a b) h)
def x41 : AC := (.ah k41_0 (.seq (.ah k41_1 (.block 0 (.loop (.ah k41_2 .skip)))) (.ah k41_3 .skip)))
def f41 : AF := .mk x41 [.t .h0 .h4]
def k42_3 : KF := K4 y0 y1 y5 y54 fun c i x h a b d e=>
 I e (.ret (T31 (.bool false)) h) (.nm (T29 a b d) h)
def k42_4 : KF := K3 y0 y1 y5 fun c i x h a b d=>
 D d i1 h fun e h=>
 .nm (T29 a b e) h
def k42_2 : KF := K3 y0 y1 y5 fun c i x h a b d=>
 G a h fun e h=>
 Y d e h fun f h=>
 I f (x (T29 a b d) h) (.ex 0 T6 h)
def k42_1 : KF := K2 y0 y1 fun c i x h a b=>
 x (T29 a b i0) h
def k42_5 : KF := fun c i x r h=>
 .ret (T31 (.bool true)) h
def k42_0 : KF := K2 y0 y1 fun c i x h a b=>
 G a h fun d h=>
 G b h fun e h=>
 tR (jL d e h) fun f h=>
 I f (.ret (T31 (.bool false)) h) (x (T27 a b) h)
def x42 : AC := (.ah k42_0 (.seq (.ah k42_1 (.block 0 (.loop (.ah k42_2 (.seq (.block 1 (.seq (.qv [q 0 (m d17 r0),
 q 0 (m d18 r5),
 q 0 (o d19 (.zg 3 r17 r18)),
 qf 0 d20 0 r19,
 ql 0 d21 r20,
 q 0 (m d22 r1),
 q 0 (m d23 r5),
 q 0 (o d24 (.zg 3 r22 r23)),
 qf 0 d25 0 r24,
 ql 0 d26 r25,
 q 0 (o d27 (.bin .Si r21 r26)),
 q 0 (m d28 r27),
 q 0 (.g .h1 .hc false d29 (.op (.mv r0))),
 q 0 (.g .h1 .hc false d30 (.op (.mv r5))),
 q 0 (.g .h1 .hc false d31 (.op (.zg 3 r29 r30))),
 q 0 (.g .h1 .hc false d32 (.op (.lS 2 r31))),
 q 0 (.g .h1 .hc false d33 (.op (.lP r32))),
 q 0 (.g .h1 .hc false d34 (.op (.mv r1))),
 q 0 (.g .h1 .hc false d35 (.op (.mv r5))),
 q 0 (.g .h1 .hc false d36 (.op (.zg 3 r34 r35))),
 q 0 (.g .h1 .hc false d37 (.op (.lS 2 r36))),
 q 0 (.g .h1 .hc false d38 (.op (.lP r37))),
 q 0 (.g .h1 .hc false d39 (.op (.bin .bne r33 r38))),
 q 0 (o d40 (.pick r28 (.c (.bool true)) r39)),
 q 0 (m d41 r40),
 q 0 (.g .h2 .h9 false d42 (.op (.mv r0))),
 q 0 (.g .h2 .h9 false d43 (.op (.mv r5))),
 q 0 (.g .h2 .h9 false d44 (.op (.zg 3 r42 r43))),
 q 0 (.g .h2 .h9 false d45 (.op (.lS 1 r44))),
 q 0 (.g .h2 .h9 false d46 (.op (.lP r45))),
 q 0 (.g .h2 .h9 false d47 (.op (.mv r1))),
 q 0 (.g .h2 .h9 false d48 (.op (.mv r5))),
 q 0 (.g .h2 .h9 false d49 (.op (.zg 3 r47 r48))),
 q 0 (.g .h2 .h9 false d50 (.op (.lS 1 r49))),
 q 0 (.g .h2 .h9 false d51 (.op (.lP r50))),
 w (.g .h2 .h9 false d52 (.call 51 [r46,r51])),
 q 0 (.g .h2 .h9 false d53 (.op (.un .not r52))),
 q 0 (o d54 (.pick r41 (.c (.bool true)) r53))]) (.ah k42_3 .skip))) (.ah k42_4 .skip)))))) (.ah k42_5 .skip)))
def f42 : AF := .mk x42 [.t .h0 .h4]
def k43_2 : KF := K3 y0 y1 y5 fun c i x h a b d=>
 G a h fun e h=>
 Y d e h fun f h=>
 I f (tQ (iX 1 a d h) fun g=>
 tQ (lD g h) fun j=>
 tQ (iX 1 b d h) fun k=>
 tQ (lD k h) fun l=>
 tQ (jL j l h) fun m=>
 I m (.ret (T31 (.bool false)) h) (D d i1 h fun n h=>
 .nm (T29 a b n) h)) (.ex 0 (T29 a b d) h)
def k43_1 : KF := K2 y0 y1 fun c i x h a b=>
 x (T29 a b i0) h
def k43_3 : KF := fun c i x r h=>
 .ret (T31 (.bool true)) h
def k43_0 : KF := K2 y0 y1 fun c i x h a b=>
 G a h fun d h=>
 G b h fun e h=>
 tR (jL d e h) fun f h=>
 I f (.ret (T31 (.bool false)) h) (x (T27 a b) h)
def x43 : AC := (.ah k43_0 (.seq (.ah k43_1 (.block 0 (.loop (.ah k43_2 .skip)))) (.ah k43_3 .skip)))
def f43 : AF := .mk x43 [.t .h0 .h4]
def k51_2 : KF := K3 y0 y1 y5 fun c i x h a b d=>
 G a h fun e h=>
 Y d e h fun f h=>
 I f (tQ (iX 3 a d h) fun g=>
 tQ (lR 3 g h) fun j=>
 tQ (iX 3 b d h) fun k=>
 tQ (lR 3 k h) fun l=>
 tQ (bK (.PX [.i,.i,.s]) j l h) fun m=>
 I m (.ret (T31 (.bool false)) h) (D d i1 h fun n h=>
 .nm (T29 a b n) h)) (.ex 0 (T29 a b d) h)
def k51_1 : KF := K2 y0 y1 fun c i x h a b=>
 x (T29 a b i0) h
def k51_3 : KF := fun c i x r h=>
 .ret (T31 (.bool true)) h
def k51_0 : KF := K2 y0 y1 fun c i x h a b=>
 G a h fun d h=>
 G b h fun e h=>
 tR (jL d e h) fun f h=>
 I f (.ret (T31 (.bool false)) h) (x (T27 a b) h)
def x51 : AC := (.ah k51_0 (.seq (.ah k51_1 (.block 0 (.loop (.ah k51_2 .skip)))) (.ah k51_3 .skip)))
def f51 : AF := .mk x51 [.t .h0 .h4]
def Bd : KF := K3 y5 y6 y7 fun c i x h a b d=>
 D d i1 h fun e h=>
 .nm (T46 a b e) h
def xp : KF := K3 y5 y6 y7 fun c i x h a b d=>
 Y d b h fun e h=>
 I e (X 1 a d h fun f h=>
 L f h fun g h=>
 Y g (ni 2147483647) h fun j h=>
 gD j false (fun k=>k g h) h fun k h=>
 gD j false (fun l=>tR (dx k (pi 2147483647) h) fun m h=>
 l m h) h fun l h=>
 tR (fU (.c j) (.c (.bool true)) (.c l) .nil h) fun m h=>
 I m (.ret (T11 (.bool false)) h) (x (T46 a b d) h)) (.ex 0 T6 h)
def k52_1 : KF := K1 y0 fun c i x h a=>
 G a h fun b h=>
 x (T46 a b i0) h
def k52_4 : KF := fun c i x r h=>
 .ret (T11 (.bool true)) h
def k52_0 : KF := K1 y0 fun c i x h a=>
 x (T34 a) h
def x52 : AC := (.ah k52_0 (.seq (.ah k52_1 (.block 0 (.loop (.ah xp (.ah Bd .skip))))) (.ah k52_4 .skip)))
def f52 : AF := .mk x52 [.t .h0 .h2]
def xq : KF := K3 y5 y6 y7 fun c i x h a b d=>
 Y d b h fun e h=>
 I e (X 1 a d h fun f h=>
 L f h fun g h=>
 tR (fQ g h) fun j h=>
 tR (dx j (pi 65535) h) fun k h=>
 I k (.ret (T11 (.bool false)) h) (D d i1 h fun l h=>
 .nm (T46 a b l) h)) (.ex 0 (T46 a b d) h)
def k53_1 : KF := K1 y0 fun c i x h a=>
 G a h fun b h=>
 x (T46 a b i0) h
def k53_3 : KF := fun c i x r h=>
 .ret (T11 (.bool true)) h
def k53_0 : KF := K1 y0 fun c i x h a=>
 x (T34 a) h
def x53 : AC := (.ah k53_0 (.seq (.ah k53_1 (.block 0 (.loop (.ah xq .skip)))) (.ah k53_3 .skip)))
def f53 : AF := .mk x53 [.t .h0 .h2]
def k54_4 : KF := K4 y8 y9 y10 y25 fun c i x h a b d e=>
 I e (.ret (T11 (.bool false)) h) (.nm (T47 a b d) h)
def k54_3 : KF := K3 y8 y9 y10 fun c i x h a b d=>
 X 3 a d h fun e h=>
 M 3 e h fun f h=>
 O 50 3 (.k1 (Y3 i0 i0 iS)) h fun g h=>
 S 3 g f h fun j h=>
 x (T48 g a b d) h
def k54_5 : KF := K3 y8 y9 y10 fun c i x h a b d=>
 D d i1 h fun e h=>
 .nm (T47 a b e) h
def k54_2 : KF := K3 y8 y9 y10 fun c i x h a b d=>
 Y d b h fun e h=>
 I e (x (T47 a b d) h) (.ex 0 T6 h)
def k54_1 : KF := K1 y0 fun c i x h a=>
 G a h fun b h=>
 x (T47 a b i0) h
def k54_6 : KF := fun c i x r h=>
 .ret (T11 (.bool true)) h
def k54_0 : KF := K1 y0 fun c i x h a=>
 G a h fun b h=>
 tR (dx b (pi 255) h) fun d h=>
 I d (.ret (T11 (.bool false)) h) (x (T34 a) h)
def x54 : AC := (.ah k54_0 (.seq (.ah k54_1 (.block 0 (.loop (.ah k54_2 (.seq (.block 1 (.ah k54_3 (.seq (.ops [of d14 0 r4,
 ol d15 r14,
 o d16 (.cu 3 1 1 [i0] [.mk 0 1 r15]),
 oc d17 52 [r16],
 o d18 (.un .not r17),
 m d19 r18,
 .g .h1 .h3 false d20 (.op (.lS 2 r4)),
 .g .h1 .h3 false d21 (.op (.lP r20)),
 .g .h1 .h3 false d22 (.op (.cu 9 1 1 [iS] [.mk 0 1 r21])),
 .g .h1 .h3 false d23 (.call 53 [r22]),
 .g .h1 .h3 false d24 (.op (.un .not r23)),
 o d25 (.pick r19 (.c (.bool true)) r24)]) (.ah k54_4 .skip)))) (.ah k54_5 .skip)))))) (.ah k54_6 .skip)))
def f54 : AF := .mk x54 [.t .h0 .h2]
def sw : KF := K3 y0 y1 y6 fun c i x h a b d=>
 Q d i0 h fun e h=>
 I e (.ret T6 h) (J a h fun f h=>
 A 0 f h fun g h=>
 L g h fun j h=>
 tR (cK (.toInt .u8) b h) fun k h=>
 tR (bs 5 1 1 [(.int .u8 (.ofNat 0))] [.mk 0 1 (.c k)] h) fun l h=>
 tR (lj 5 1 j l h) fun m h=>
 J a h fun n h=>
 A 0 n h fun o h=>
 W o m h fun p h=>
 tR (bK .shr b (.int .u64 (.ofNat 8)) h) fun q h=>
 Z d i1 h fun s h=>
 .go 0 (T49 a q s) h)
def k55_0 : KF := K3 y0 y1 y2 fun c i x h a b d=>
 x (T49 a b d) h
def x55 : AC := (.scope (.ah k55_0 (.seq (.label 0) (.ah sw .skip))))
def f55 : AF := .mk x55 []
def k56_0 : KF := K2 y0 y1 fun c i x h a b=>
 tR (cK (.toInt .u64) b h) fun d h=>
 C c 55 [a,d,(pi 2)] h fun e h=>
 .nm T6 h
def x56 : AC := (.ah k56_0 .skip)
def f56 : AF := .mk x56 []
def Be : KF := K1 y0 fun c i x h a=>
 tR (bK (.jR .s) a .ar h) fun b h=>
 I b (.ret (T11 .ar) h) (tR (bs 5 1 0 [] [] h) fun d h=>
 tR (lj 5 1 d a h) fun e h=>
 .ret (T11 e) h)
def x57 : AC := (.ah Be .skip)
def f57 : AF := .mk x57 [.t .h0 .h2]
def xr : KF := K3 y5 y6 y7 fun c i x h a b d=>
 tR (dx d i0 h) fun e h=>
 I e (Z d i1 h fun f h=>
 tR (bK .shl a (.int .u64 (.ofNat 8)) h) fun g h=>
 X 1 b f h fun j h=>
 L j h fun k h=>
 tR (cK (.toInt .u64) k h) fun l h=>
 tR (MX g l h) fun m h=>
 .go 0 (T50 u m b f) h) (.ret (T31 a) h)
def k58_1 : KF := K2 y0 y1 fun c i x h a b=>
 C c 61 [a,b] h fun d h=>
 G d h fun e h=>
 x (T46 (.int .u64 (.ofNat 0)) d e) h
def k58_0 : KF := K2 y0 y1 fun c i x h a b=>
 x (T27 a b) h
def x58 : AC := (.ah k58_0 (.scope (.ah k58_1 (.seq (.label 0) (.ah xr .skip)))))
def f58 : AF := .mk x58 [.t .h0 .h4]
def k59_0 : KF := K1 y0 fun c i x h a=>
 C c 58 [a,(pi 2)] h fun b h=>
 tR (cK (.toInt .i64) b h) fun d h=>
 .ret (T11 d) h
def x59 : AC := (.ah k59_0 .skip)
def f59 : AF := .mk x59 [.t .h0 .h2]
def k60_0 : KF := K3 y0 y1 y2 fun c i x h a b d=>
 J a h fun e h=>
 A 2 e h fun f h=>
 L f h fun g h=>
 Q g i0 h fun j h=>
 I j (J a h fun k h=>
 A 2 k h fun l h=>
 W l b h fun m h=>
 J a h fun n h=>
 A 3 n h fun o h=>
 W o d h fun p h=>
 .nm T6 h) (.nm T6 h)
def x60 : AC := (.ah k60_0 .skip)
def f60 : AF := .mk x60 []
def k61_3 : KF := K2 y0 y1 fun c i x h a b=>
 tQ (nC a h) fun d=>
 tQ (fA 0 d h) fun e=>
 tQ (lD e h) fun f=>
 tQ (nC a h) fun g=>
 tQ (fA 1 g h) fun j=>
 tQ (lD j h) fun k=>
 tQ (nV k b h) fun l=>
 tQ (nC a h) fun m=>
 tQ (fA 1 m h) fun n=>
 tQ (lD n h) fun o=>
 tQ (fN 1 (.c f) (.some (.c l)) (.some (.c o)) .none .nil h) fun p=>
 .ret (T31 p) h
def k61_2 : KF := K2 y0 y1 fun c i x h a b=>
 J a h fun d h=>
 A 1 d h fun e h=>
 L e h fun f h=>
 D f b h fun g h=>
 J a h fun j h=>
 A 1 j h fun k h=>
 W k g h fun l h=>
 x (T27 a b) h
def k61_1 : KF := K2 y0 y1 fun c i x h a b=>
 tQ (nC a h) fun d=>
 tQ (fA 0 d h) fun e=>
 tQ (lD e h) fun f=>
 tQ (len f h) fun g=>
 tQ (nC a h) fun j=>
 tQ (fA 1 j h) fun k=>
 tQ (lD k h) fun l=>
 tQ (nV g l h) fun m=>
 tQ (dx b m h) fun n=>
 I n (J a h fun o h=>
 A 0 o h fun p h=>
 L p h fun q h=>
 G q h fun s h=>
 C c 60 [a,(pi 10),s] h fun t h=>
 .ret (T31 .ar) h) (x (T27 a b) h)
def k61_0 : KF := K2 y0 y1 fun c i x h a b=>
 J a h fun d h=>
 A 2 d h fun e h=>
 L e h fun f h=>
 tR (jL f i0 h) fun g h=>
 I g (.ret (T31 .ar) h) (x (T27 a b) h)
def x61 : AC := (.ah k61_0 (.ah k61_1 (.ah k61_2 (.ah k61_3 .skip))))
def f61 : AF := .mk x61 [.t .h0 .h4]
def x6 : AC := b6
def f6 : AF := .mk x6 [.t .h0 .h0]
def x16 : AC := b16
def f16 : AF := .mk x16 [.t .h0 .h0]
def x17 : AC := b17
def f17 : AF := .mk x17 [.agg 3 .h0 .h4]
def x18 : AC := b18
def f18 : AF := .mk x18 [.agg 7 .h0 .h6]
def x19 : AC := b19
def f19 : AF := .mk x19 [.agg 7 .h0 .h4]
def x20 : AC := b20
def f20 : AF := .mk x20 [.t .h0 .h0]
def x21 : AC := b21
def f21 : AF := .mk x21 [.agg 7 .h0 .h4]
def x22 : AC := b22
def f22 : AF := .mk x22 [.agg 7 .h0 .h2]
def x23 : AC := b23
def f23 : AF := .mk x23 [.agg 3 .h0 .h4]
def x24 : AC := b24
def f24 : AF := .mk x24 [.t .h0 .h2]
def x25 : AC := b25
def f25 : AF := .mk x25 [.t .h0 .h4,.t .h0 .h5]
def x26 : AC := b26
def f26 : AF := .mk x26 [.t .h0 .h4]
def x27 : AC := b27
def f27 : AF := .mk x27 [.t .h0 .h4]
def x44 : AC := b44
def f44 : AF := .mk x44 [.t .h0 .h0]
def x45 : AC := b45
def f45 : AF := .mk x45 [.t .h0 .h0]
def x46 : AC := b46
def f46 : AF := .mk x46 [.t .h0 .h6,.agg 3 .h0 .h7]
def x47 : AC := b47
def f47 : AF := .mk x47 [.agg 3 .h0 .h4]
def x48 : AC := b48
def f48 : AF := .mk x48 [.t .h0 .h8]
def x49 : AC := b49
def f49 : AF := .mk x49 [.agg 3 .h0 .h2]
def x50 : AC := b50
def f50 : AF := .mk x50 [.t .h0 .h2]
def x62 : AC := b62
def f62 : AF := .mk x62 [.t .h0 .h6]
def x63 : AC := b63
def f63 : AF := .mk x63 []
def x67 : AC := b67
def f67 : AF := .mk x67 [.agg 3 .h0 .h6]
def x69 : AC := b69
def f69 : AF := .mk x69 [.agg 3 .h0 .h4]
def x70 : AC := b70
def f70 : AF := .mk x70 [.t .h0 .h2]
def x71 : AC := b71
def f71 : AF := .mk x71 [.t .h0 .h4]
def x72 : AC := b72
def f72 : AF := .mk x72 [.t .h0 .h2]
def x73 : AC := b73
def f73 : AF := .mk x73 [.t .h0 .h2]
def x74 : AC := b74
def f74 : AF := .mk x74 []
def x77 : AC := b77
def f77 : AF := .mk x77 [.t .h0 .h4]
def x79 : AC := b79
def f79 : AF := .mk x79 [.t .h0 .h6]
def x80 : AC := b80
def f80 : AF := .mk x80 [.t .h0 .h4]
def x83 : AC := b83
def f83 : AF := .mk x83 [.t .h0 .h2]
def x84 : AC := b84
def f84 : AF := .mk x84 [.t .h0 .h6,.t .h0 .h7,.t .h0 .h8]
def x85 : AC := b85
def f85 : AF := .mk x85 [.t .h0 .h4,.t .h0 .h5]
def x86 : AC := b86
def f86 : AF := .mk x86 [.t .h0 .h4]
def x88 : AC := b88
def f88 : AF := .mk x88 [.t .h0 .h4,.t .h0 .h5,.t .h0 .h6,.t .h0 .h7]
def x89 : AC := b89
def f89 : AF := .mk x89 [.t .h0 .h2]
def x90 : AC := b90
def f90 : AF := .mk x90 [.t .h0 .h4]
def x91 : AC := b91
def f91 : AF := .mk x91 [.t .h0 .h3]
def x92 : AC := b92
def f92 : AF := .mk x92 [.t .h0 .h4]
def x93 : AC := b93
def f93 : AF := .mk x93 [.t .h0 .h2]
def x94 : AC := b94
def f94 : AF := .mk x94 [.t .h0 .h2]
def x95 : AC := b95
def f95 : AF := .mk x95 [.t .h0 .h4,.t .h0 .h5]
def x96 : AC := b96
def f96 : AF := .mk x96 [.agg 2 .h0 .h4]
def k97_1 : KF := K2 y0 y14 fun c i x h a b=>
 I b (.ret (T11 (.bool false)) h) (.nm (T34 a) h)
def k97_5 : KF := K4 y0 y16 y17 y29 fun c i x h a b d e=>
 I e (.ret (T11 (.bool false)) h) (.nm (T94 a b d) h)
def k97_4 : KF := K3 y0 y16 y17 fun c i x h a b d=>
 x (T95 a d b d) h
def k97_6 : KF := K3 y0 y16 y17 fun c i x h a b d=>
 D d i1 h fun e h=>
 .nm (T94 a b e) h
def k97_3 : KF := K3 y0 y16 y17 fun c i x h a b d=>
 Y d b h fun e h=>
 I e (x (T94 a b d) h) (.ex 0 T6 h)
def k97_2 : KF := K1 y0 fun c i x h a=>
 tR (fQ a h) fun b h=>
 x (T94 a b i0) h
def k97_7 : KF := fun c i x r h=>
 .ret (T11 (.bool true)) h
def k97_0 : KF := K1 y0 fun c i x h a=>
 x (T34 a) h
def x97 : AC := (.ah k97_0 (.seq (.seq (.ops [m d4 r0,
 o d5 (.bin .seq r4 (.c iS)),
 m d6 r5,
 .g .h0 .h6 false d7 (.op (.mv r0)),
 .g .h0 .h6 false d8 (.op (.fQ r7)),
 .g .h0 .h6 false d9 (.op (.bin .gt r8 (.c (pi 12)))),
 o d10 (.pick r6 (.c (.bool true)) r9),
 m d11 r10,
 .g .h0 .hb false d12 (.op (.mv r0)),
 .g .h0 .hb false d13 (.call 132 [r12]),
 o d14 (.pick r11 (.c (.bool true)) r13)]) (.ah k97_1 .skip)) (.seq (.ah k97_2 (.block 0 (.loop (.ah k97_3 (.seq (.block 1 (.ah k97_4 (.seq (.ops [m d20 r0,
 m d21 r3,
 o d22 (.idxs r20 r21),
 o d23 (.bin .lt r22 (.c (.int .u8 (.ofNat 97)))),
 m d24 r23,
 .g .h1 .h8 false d25 (.op (.mv r0)),
 .g .h1 .h8 false d26 (.op (.mv r3)),
 .g .h1 .h8 false d27 (.op (.idxs r25 r26)),
 .g .h1 .h8 false d28 (.op (.bin .gt r27 (.c (.int .u8 (.ofNat 122))))),
 o d29 (.pick r24 (.c (.bool true)) r28)]) (.ah k97_5 .skip)))) (.ah k97_6 .skip)))))) (.ah k97_7 .skip))))
def f97 : AF := .mk x97 [.t .h0 .h2]
def x98 : AC := b98
def f98 : AF := .mk x98 [.t .h0 .h4,.t .h0 .h5]
def x99 : AC := b99
def f99 : AF := .mk x99 []
def x100 : AC := b100
def f100 : AF := .mk x100 [.t .h0 .h2]
def x101 : AC := b101
def f101 : AF := .mk x101 [.t .h0 .h2]
def x104 : AC := b104
def f104 : AF := .mk x104 [.t .h0 .h4]
def x105 : AC := b105
def f105 : AF := .mk x105 [.t .h0 .h3]
def x106 : AC := b106
def f106 : AF := .mk x106 [.t .h0 .h2]
def x107 : AC := b107
def f107 : AF := .mk x107 [.t .h0 .h2]
def x108 : AC := b108
def f108 : AF := .mk x108 [.agg 8 .h0 .h2,.t .h0 .h3,.t .h0 .h4]
def x109 : AC := b109
def f109 : AF := .mk x109 [.t .h0 .h4,.t .h0 .h5,.t .h0 .h6]
def x110 : AC := b110
def f110 : AF := .mk x110 [.t .h0 .h2]
def x111 : AC := b111
def f111 : AF := .mk x111 []
def x113 : AC := b113
def f113 : AF := .mk x113 [.t .h0 .h4,.t .h0 .h5]
def x114 : AC := b114
def f114 : AF := .mk x114 [.t .h0 .h2]
def x115 : AC := b115
def f115 : AF := .mk x115 [.t .h0 .h4]
def x117 : AC := b117
def f117 : AF := .mk x117 [.t .h0 .h2]
def x118 : AC := b118
def f118 : AF := .mk x118 [.t .h0 .h2]
def x119 : AC := b119
def f119 : AF := .mk x119 [.t .h0 .h4]
def x120 : AC := b120
def f120 : AF := .mk x120 []
def x121 : AC := b121
def f121 : AF := .mk x121 [.t .h0 .h2]
def x122 : AC := b122
def f122 : AF := .mk x122 [.t .h0 .h4]
def x123 : AC := b123
def f123 : AF := .mk x123 [.t .h0 .h4,.t .h0 .h5]
def x124 : AC := b124
def f124 : AF := .mk x124 [.t .h0 .h2]
def x125 : AC := b125
def f125 : AF := .mk x125 [.t .h0 .h4]
def x126 : AC := b126
def f126 : AF := .mk x126 [.t .h0 .h4]
def x127 : AC := b127
def f127 : AF := .mk x127 [.t .h0 .h4]
def x128 : AC := b128
def f128 : AF := .mk x128 [.t .h0 .h4,.t .h0 .h5,.t .h0 .h6]
def x129 : AC := b129
def f129 : AF := .mk x129 [.t .h0 .h2]
def x130 : AC := b130
def f130 : AF := .mk x130 [.t .h0 .h4,.t .h0 .h5]
def x131 : AC := b131
def f131 : AF := .mk x131 [.t .h0 .h2]
def k132_3 : KF := K1 y4 fun c i x h a=>
 I a (.ret (T11 (.bool true)) h) (.nm T6 h)
def k132_2 : KF := K1 y3 fun c i x h a=>
 tR (dh a (.str [116,97,98,108,101]) h) fun b h=>
 I b (x (T31 b) h) (tR (dh a (.str [102,105,108,116,101,114]) h) fun d h=>
 I d (x (T31 d) h) (tR (dh a (.str [112,114,111,106,101,99,116]) h) fun e h=>
 I e (x (T31 e) h) (tR (dh a (.str [106,111,105,110]) h) fun f h=>
 I f (x (T31 f) h) (tR (dh a (.str [117,110,105,111,110]) h) fun g h=>
 I g (x (T31 g) h) (tR (dh a (.str [100,105,115,116,105,110,99,116]) h) fun j h=>
 I j (x (T31 j) h) (tR (dh a (.str [103,114,111,117,112]) h) fun k h=>
 I k (x (T31 k) h) (tR (dh a (.str [99,111,117,110,116]) h) fun l h=>
 I l (x (T31 l) h) (tR (dh a (.str [115,117,109]) h) fun m h=>
 I m (x (T31 m) h) (tR (dh a (.str [109,105,110]) h) fun n h=>
 I n (x (T31 n) h) (tR (dh a (.str [109,97,120]) h) fun o h=>
 I o (x (T31 o) h) (tR (dh a (.str [97,100,100]) h) fun p h=>
 I p (x (T31 p) h) (tR (dh a (.str [115,117,98]) h) fun q h=>
 I q (x (T31 q) h) (tR (dh a (.str [109,117,108]) h) fun s h=>
 I s (x (T31 s) h) (tR (dh a (.str [110,101,103]) h) fun t h=>
 I t (x (T31 t) h) (tR (dh a (.str [101,113]) h) fun v h=>
 I v (x (T31 v) h) (tR (dh a (.str [108,116]) h) fun w h=>
 I w (x (T31 w) h) (tR (dh a (.str [97,110,100]) h) fun y h=>
 I y (x (T31 y) h) (tR (dh a (.str [111,114]) h) fun z h=>
 I z (x (T31 z) h) (tR (dh a (.str [110,111,116]) h) fun a0 h=>
 I a0 (x (T31 a0) h) (tR (dh a (.str [99,97,116]) h) fun a1 h=>
 I a1 (x (T31 a1) h) (tR (dh a (.str [108,101,110]) h) fun a2 h=>
 I a2 (x (T31 a2) h) (tR (dh a (.str [105,102]) h) fun a3 h=>
 x (T31 a3) h))))))))))))))))))))))
def k132_1 : KF := K1 y0 fun c i x h a=>
 x (T18 a) h
def k132_4 : KF := fun c i x r h=>
 .ret (T11 (.bool false)) h
def k132_0 : KF := K1 y0 fun c i x h a=>
 x (T34 a) h
def x132 : AC := (.ah k132_0 (.seq (.ah k132_1 (.block 0 (.ah k132_2 (.ah k132_3 .skip)))) (.ah k132_4 .skip)))
def f132 : AF := .mk x132 [.t .h0 .h2]
def x133 : AC := b133
def f133 : AF := .mk x133 [.t .h0 .h4]
def x134 : AC := b134
def f134 : AF := .mk x134 [.t .h0 .h3]
def x135 : AC := b135
def f135 : AF := .mk x135 []
def x144 : AC := b144
def f144 : AF := .mk x144 [.t .h0 .h2]
def x146 : AC := b146
def f146 : AF := .mk x146 [.agg 5 .h0 .h2,.t .h0 .h3,.t .h0 .h4]
def x147 : AC := b147
def f147 : AF := .mk x147 [.agg 8 .h0 .h4]
def k148_5 : KF := K4 y3 y11 y12 y13 fun c i x h a b d e=>
 Y e d h fun f h=>
 I f (X 5 b e h fun g h=>
 M 5 g h fun j h=>
 O 242 5 (.k1 (Y5 i0 iS i0 .ar i0)) h fun k h=>
 S 5 k j h fun l h=>
 M 5 k h fun m h=>
 C c 148 [m] h fun n h=>
 tR (bs 9 1 1 [iS] [.mk 0 1 (.c n)] h) fun o h=>
 tR (lj 9 1 a o h) fun p h=>
 D e i1 h fun q h=>
 .nm (T158 p b d q) h) (.ex 1 (T158 a b d e) h)
def k148_4 : KF := K2 y1 y3 fun c i x h a b=>
 A 3 a h fun d h=>
 L d h fun e h=>
 G e h fun f h=>
 x (T158 b e f i0) h
def k148_6 : KF := K1 y3 fun c i x h a=>
 C c 194 [a,(.str [32])] h fun b h=>
 tR (zX (.str [40]) b h) fun d h=>
 tR (zX d (.str [41]) h) fun e h=>
 .ret (T11 e) h
def k148_3 : KF := K1 y1 fun c i x h a=>
 x (T13 a .ar) h
def k148_7 : KF := K2 y1 y7 fun c i x h a b=>
 Q b (pi 2) h fun d h=>
 I d (A 1 a h fun e h=>
 L e h fun f h=>
 .ret (T11 f) h) (Q b (pi 3) h fun e h=>
 I e (A 2 a h fun f h=>
 L f h fun g h=>
 C c 195 [g,(pi 10)] h fun j h=>
 .ret (T11 j) h) (Q b (pi 4) h fun f h=>
 I f (A 1 a h fun g h=>
 L g h fun j h=>
 C c 197 [j] h fun k h=>
 C c 196 [k] h fun l h=>
 .ret (T11 l) h) (.nm T6 h)))
def k148_2 : KF := K2 y1 y7 fun c i x h a b=>
 Q b i1 h fun d h=>
 x (T157 a b d) h
def k148_1 : KF := K1 y1 fun c i x h a=>
 A 0 a h fun b h=>
 L b h fun d h=>
 x (T156 a d) h
def k148_8 : KF := fun c i x r h=>
 .ret (T11 iS) h
def k148_0 : KF := K1 y0 fun c i x h a=>
 B 242 a h fun b h=>
 x (T12 b) h
def x148 : AC := (.ah k148_0 (.seq (.ah k148_1 (.block 0 (.ah k148_2 (.cond r8 (.ah k148_3 (.seq (.ah k148_4 (.block 1 (.loop (.ah k148_5 .skip)))) (.ah k148_6 .skip))) (.ah k148_7 .skip))))) (.ah k148_8 .skip)))
def f148 : AF := .mk x148 [.t .h0 .h2]
def x149 : AC := b149
def f149 : AF := .mk x149 [.agg 5 .h0 .h2]
def x151 : AC := b151
def f151 : AF := .mk x151 [.t .h0 .h2]
def x152 : AC := b152
def f152 : AF := .mk x152 [.t .h0 .h4,.agg 2 .h0 .h5]
def x153 : AC := b153
def f153 : AF := .mk x153 [.t .h0 .h4]
def x154 : AC := b154
def f154 : AF := .mk x154 []
def x155 : AC := b155
def f155 : AF := .mk x155 [.t .h0 .h4]
def x156 : AC := b156
def f156 : AF := .mk x156 [.t .h0 .h2]
def x157 : AC := b157
def f157 : AF := .mk x157 [.t .h0 .h2]
def x158 : AC := b158
def f158 : AF := .mk x158 [.t .h0 .h4]
def x160 : AC := b160
def f160 : AF := .mk x160 [.t .h0 .h4]
def k161_0 : KF := K2 y0 y1 fun c i x h a b=>
 tR (cK (.Um .f64) a h) fun d h=>
 tR (cK (.Um .f64) b h) fun e h=>
 tR (oJ .f64 (.c d) (.c e) .nil h) fun f h=>
 .ret (T31 f) h
def x161 : AC := (.ah k161_0 .skip)
def f161 : AF := .mk x161 [.t .h0 .h4]
def x163 : AC := b163
def f163 : AF := .mk x163 [.t .h0 .h2]
def x164 : AC := b164
def f164 : AF := .mk x164 []
def x165 : AC := b165
def f165 : AF := .mk x165 [.t .h0 .h3]
def x166 : AC := b166
def f166 : AF := .mk x166 [.t .h0 .h2,.t .h0 .h3]
def x167 : AC := b167
def f167 : AF := .mk x167 [.t .h0 .h2]
def x168 : AC := b168
def f168 : AF := .mk x168 [.t .h0 .h2]
def x170 : AC := b170
def f170 : AF := .mk x170 [.t .h0 .h3]
def x171 : AC := b171
def f171 : AF := .mk x171 [.t .h0 .h4]
def x172 : AC := b172
def f172 : AF := .mk x172 [.t .h0 .h2]
def x177 : AC := b177
def f177 : AF := .mk x177 [.t .h0 .h4,.t .h0 .h5]
def x179 : AC := b179
def f179 : AF := .mk x179 [.t .h0 .h2]
def k186_2 : KF := K4 y1 y4 y9 y10 fun c i x h a b d e=>
 .nm (T211 b d e (pi 11) a) h
def k186_4 : KF := K6 y1 y4 y8 y9 y11 y12 fun c i x h a b d e f g=>
 C c 267 [d,a,(.fn 265 [])] h fun j h=>
 x (T213 a b d e j f g) h
def k186_3 : KF := K7 y1 y4 y8 y9 y11 y12 y13 fun c i x h a b d e f g j=>
 C c 265 [j] h fun k h=>
 x (T212 a b d e f g k) h
def k186_1 : KF := K8 y0 y1 y4 y8 y9 y10 y11 y12 fun c i x h a b d e f g j k=>
 tR (oI (.c e) (.c b) .nil h) fun l h=>
 x (T210 a b d e f g j k l) h
def k186_5 : KF := K5 y4 y9 y10 y11 y12 fun c i x h a b d e f=>
 M 5 b h fun g h=>
 S 5 a g h fun j h=>
 .ret (T50 a d e f) h
def k186_0 : KF := K2 y0 y1 fun c i x h a b=>
 O 242 5 (.k1 (Y5 i0 iS i0 .ar i0)) h fun d h=>
 J a h fun e h=>
 A 0 e h fun f h=>
 L f h fun g h=>
 U [i0,iS,i0,.ar,i0] [.mk 4 1 (.c b)] h fun j h=>
 O 242 5 (.k1 (Y5 i0 iS i0 .ar i0)) h fun k h=>
 S 5 k j h fun l h=>
 D b i1 h fun m h=>
 x (T209 a b d g k m i0 i0) h
def x186 : AC := (.ah k186_0 (.seq (.ah k186_1 (.block 0 (.seq (.ops [m d28 r0,
 oc d29 188 [r28],
 m d30 r29,
 .g .h1 .he true d31 (.op (.mv r13)),
 .g .h1 .he true d32 (.call 265 [r31]),
 .g .h1 .he true d33 (.op (.mv r32)),
 .g .h2 .h1 false d34 (.op (.mv r13)),
 .g .h2 .h1 false d35 (.call 266 [r34]),
 .g .h1 .he true d36 (.op (.pick r33 (.c (.bool true)) r35)),
 .g .h1 .he true d37 (.op (.mv r36)),
 .g .h2 .h5 false d38 (.op (.mv r13)),
 .g .h2 .h5 false d39 (.op (.bin .eq r38 (.c (.int .u8 (.ofNat 45))))),
 .g .h1 .he true d40 (.op (.pick r37 (.c (.bool true)) r39)),
 .g .h1 .he true d41 (.op (.mv r40)),
 .g .h2 .h9 false d42 (.op (.mv r13)),
 .g .h2 .h9 false d43 (.op (.bin .eq r42 (.c (.int .u8 (.ofNat 34))))),
 .g .h1 .he true d44 (.op (.pick r41 (.c (.bool true)) r43)),
 o d45 (.pick r30 r44 (.c (.bool false))),
 m d27 r45]) (.cond r27 (.ah k186_2 .skip) (.ah k186_3 (.cond r47 (.ah k186_4 (.qv [qf 0 d57 0 r9,
 w (os r57 a2),
 q 1 (m d53 r8),
 q 1 (m d54 r1),
 q 1 (m d55 r10),
 q 1 (o d56 (.GM r53 (.some r54) (.some r55))),
 qf 0 d58 1 r9,
 w (os r58 r56)])) (.bad 0))))))) (.ah k186_5 .skip)))
def f186 : AF := .mk x186 [.agg 5 .h0 .h4,.t .h0 .h5,.t .h0 .h6,.t .h0 .h7]
def k187_2 : KF := K3 y29 y30 y32 fun c i x h a b d=>
 X 5 d b h fun e h=>
 S 5 e a h fun f h=>
 .nm T6 h
def k187_1 : KF := K2 y0 y3 fun c i x h a b=>
 J a h fun d h=>
 A 1 d h fun e h=>
 L e h fun f h=>
 G f h fun g h=>
 tR (dx g i0 h) fun j h=>
 x (T214 a b g j) h
def k187_0 : KF := K2 y0 y1 fun c i x h a b=>
 B 242 b h fun d h=>
 x (T53 a d) h
def x187 : AC := (.ah k187_0 (.seq (.ah k187_1 (.cond r11 (.seq (.seq (.alt (.qv [w (o d12 (.alloc 4 1 (.k1 (Y1 (.bool false))))),
 w (os r12 (.c (.bool true))),
 w (os r12 (.c (.bool false))),
 ql 0 d13 r12])
 (.qv [w (o d12 (.alloc 4 1 (.k1 (Y1 (.bool false))))),
 w (os r12 (.c (.bool false))),
 w (os r12 (.c (.bool true))),
 ql 0 d13 r12])) (.cond r13 (.seq (.qv [w (o d31 (.cu 242 5 1 [i0,iS,i0,.ar,i0] [.mk 0 5 (.c (.agg [i0,iS,i0,.ar,i0]))])),
 q 1 (m d14 r0),
 qj 1 d15 r14,
 qf 1 d16 1 r15,
 ql 1 d17 r16,
 q 1 (m d18 r4),
 q 1 (o d19 (.bin .sub r18 a1)),
 q 1 (m d20 r0),
 qj 1 d21 r20,
 qf 1 d22 1 r21,
 ql 1 d23 r22,
 q 1 (m d24 r4),
 q 1 (o d25 (.bin .sub r24 a1)),
 q 1 (o d26 (.zg 5 r23 r25)),
 qf 1 d27 3 r26,
 ql 1 d28 r27,
 q 1 (o d29 (.lR 5 r3)),
 q 1 (o d30 (.len r28)),
 w (o d32 (.app 242 5 r28 r31)),
 q 0 (o d33 (.zg 5 r17 r19)),
 qf 0 d34 3 r33,
 w (os r34 r32)]) (.ah k187_2 .skip)) (.qv [q 0 (o d51 (.lR 5 r3)),
 w (o d52 (.cu 242 5 1 [i0,iS,i0,.ar,i0] [.mk 0 5 r51])),
 q 1 (m d42 r0),
 qj 1 d43 r42,
 qf 1 d44 1 r43,
 ql 1 d45 r44,
 q 1 (m d46 r4),
 q 1 (o d47 (.bin .sub r46 a1)),
 q 1 (o d48 (.zg 5 r45 r47)),
 qf 1 d49 3 r48,
 ql 1 d50 r49,
 w (o d53 (.app 242 5 r50 r52)),
 q 2 (m d36 r0),
 qj 2 d37 r36,
 qf 2 d38 1 r37,
 ql 2 d39 r38,
 q 2 (m d40 r4),
 q 2 (o d41 (.bin .sub r40 a1)),
 q 0 (o d54 (.zg 5 r39 r41)),
 qf 0 d55 3 r54,
 w (os r55 r53)]))) .ret) .skip)) (.alt (.qv [w (o d62 (.cu 242 5 1 [i0,iS,i0,.ar,i0] [.mk 0 5 (.c (.agg [i0,iS,i0,.ar,i0]))])),
 q 1 (m d56 r0),
 qj 1 d57 r56,
 qf 1 d58 2 r57,
 ql 1 d59 r58,
 q 1 (o d60 (.lR 5 r3)),
 q 1 (o d61 (.len r59)),
 w (o d63 (.app 242 5 r59 r62)),
 q 0 (o d64 (.zg 5 r63 r61)),
 w (o .no (.EW 5 r64 r60)),
 qj 1 d65 r56,
 qf 1 d66 2 r65,
 w (os r66 r63)])
 (.qv [w (o d62 (.cu 242 5 1 [i0,iS,i0,.ar,i0] [.mk 0 5 (.c (.agg [i0,iS,i0,.ar,i0]))])),
 q 1 (m d56 r0),
 qj 1 d57 r56,
 qf 1 d58 2 r57,
 ql 1 d59 r58,
 q 1 (o d60 (.lR 5 r3)),
 q 1 (o d61 (.len r59)),
 w (o d63 (.app 242 5 r59 r62)),
 qj 0 d65 r56,
 qf 0 d66 2 r65,
 w (os r66 r63),
 q 1 (o d64 (.zg 5 r63 r61)),
 w (o .no (.EW 5 r64 r60))]))))
def f187 : AF := .Qc x187 []
def k188_0 : KF := K1 y0 fun c i x h a=>
 J a h fun b h=>
 A 2 b h fun d h=>
 L d h fun e h=>
 G e h fun f h=>
 tR (dx f i0 h) fun g h=>
 .ret (T11 g) h
def x188 : AC := (.ah k188_0 .skip)
def f188 : AF := .mk x188 [.t .h0 .h2]
def x189 : AC := b189
def f189 : AF := .mk x189 [.t .h0 .h2]
def k190_0 : KF := K2 y0 y1 fun c i x h a b=>
 B 242 b h fun d h=>
 A 1 d h fun e h=>
 L e h fun f h=>
 C c 97 [f] h fun g h=>
 tR (nT g h) fun j h=>
 I j (A 4 d h fun k h=>
 L k h fun l h=>
 C c 150 [a,(pi 20),l] h fun m h=>
 A 1 d h fun n h=>
 L n h fun o h=>
 .ret (T31 o) h) (A 1 d h fun k h=>
 L k h fun l h=>
 .ret (T31 l) h)
def x190 : AC := (.ah k190_0 .skip)
def f190 : AF := .mk x190 [.t .h0 .h4]
def x192 : AC := b192
def f192 : AF := .mk x192 [.t .h0 .h4]
def x193 : AC := b193
def f193 : AF := .mk x193 [.agg 3 .h0 .h4]
def k194_2 : KF := K3 y0 y1 y5 fun c i x h a b d=>
 tR (fQ b h) fun e h=>
 G a h fun f h=>
 Z f i1 h fun g h=>
 tR (IX (pi 9223372036854775807) g h) fun j h=>
 tR (yn e j h) fun k h=>
 x (T225 a b d k) h
def k194_3 : KF := K3 y0 y1 y5 fun c i x h a b d=>
 tR (fQ b h) fun e h=>
 G a h fun f h=>
 Z f i1 h fun g h=>
 tR (IW e g h) fun j h=>
 D d j h fun k h=>
 .nm (T29 a b k) h
def k194_1 : KF := K3 y0 y1 y5 fun c i x h a b d=>
 tR (fQ b h) fun e h=>
 tR (dx e i0 h) fun f h=>
 x (T224 a b d f) h
def k194_7 : KF := K7 y0 y1 y5 y7 y39 y40 y41 fun c i x h a b d e f g j=>
 tR (fQ e h) fun k h=>
 Z (pi 9223372036854775807) d h fun l h=>
 tR (dx k l h) fun m h=>
 x (T228 a b d e f g j m) h
def k194_8 : KF := K7 y0 y1 y5 y7 y39 y40 y41 fun c i x h a b d e f g j=>
 tR (fQ e h) fun k h=>
 D d k h fun l h=>
 .nm (T226 a b l f g j) h
def k194_6 : KF := K6 y0 y1 y5 y39 y40 y41 fun c i x h a b d e f g=>
 X 1 e g h fun j h=>
 L j h fun k h=>
 x (T227 a b d k e f g) h
def k194_9 : KF := K6 y0 y1 y5 y39 y40 y41 fun c i x h a b d e f g=>
 D g i1 h fun j h=>
 .nm (T226 a b d e f j) h
def k194_5 : KF := K6 y0 y1 y5 y39 y40 y41 fun c i x h a b d e f g=>
 Y g f h fun j h=>
 I j (x (T226 a b d e f g) h) (.ex 1 (T29 a b d) h)
def k194_4 : KF := K3 y0 y1 y5 fun c i x h a b d=>
 G a h fun e h=>
 x (T226 a b d a e i0) h
def k194_12 : KF := K5 y1 y8 y63 y64 y65 fun c i x h a b d e f=>
 Y f e h fun g h=>
 I g (X 1 d f h fun j h=>
 L j h fun k h=>
 C c 277 [b,a] h fun l h=>
 C c 277 [b,k] h fun m h=>
 D f i1 h fun n h=>
 .nm (T230 a b d e n) h) (.ex 3 (T230 a b d e f) h)
def k194_11 : KF := K3 y0 y1 y8 fun c i x h a b d=>
 tR (fN 1 (.c a) (.some (.c i1)) .none .none .nil h) fun e h=>
 G e h fun f h=>
 x (T230 b d e f i0) h
def k194_13 : KF := K1 y8 fun c i x h a=>
 C c 278 [a] h fun b h=>
 .ret (T31 b) h
def k194_10 : KF := K3 y0 y1 y5 fun c i x h a b d=>
 O 386 2 (.k1 (Y2 .fo .ar)) h fun e h=>
 C c 276 [e,d] h fun f h=>
 X 1 a i0 h fun g h=>
 L g h fun j h=>
 C c 277 [e,j] h fun k h=>
 x (T229 a b e) h
def k194_0 : KF := K2 y0 y1 fun c i x h a b=>
 G a h fun d h=>
 Q d i0 h fun e h=>
 I e (.ret (T31 iS) h) (Q d i1 h fun f h=>
 I f (X 1 a i0 h fun g h=>
 L g h fun j h=>
 .ret (T31 j) h) (x (T29 a b i0) h))
def x194 : AC := (.ah k194_0 (.seq (.ah k194_1 (.cond r22 (.seq (.ah k194_2 (.cond r29 (.ops [o d30 (.OK 9 (.c (.str [115,116,114,105,110,103,115,58,32,74,111,105,110,32,111,117,116,112,117,116,32,108,101,110,103,116,104,32,111,118,101,114,102,108,111,119]))),
 o .no (.bad 400)]) .skip)) (.ah k194_3 .skip)) .skip)) (.seq (.ah k194_4 (.block 1 (.loop (.ah k194_5 (.seq (.block 2 (.ah k194_6 (.seq (.ah k194_7 (.cond r49 (.ops [o d50 (.OK 9 (.c (.str [115,116,114,105,110,103,115,58,32,74,111,105,110,32,111,117,116,112,117,116,32,108,101,110,103,116,104,32,111,118,101,114,102,108,111,119]))),
 o .no (.bad 400)]) .skip)) (.ah k194_8 .skip)))) (.ah k194_9 .skip)))))) (.ah k194_10 (.seq (.ah k194_11 (.block 3 (.loop (.ah k194_12 .skip)))) (.ah k194_13 .skip))))))
def f194 : AF := .mk x194 [.t .h0 .h4]
def k198_0 : KF := K1 y0 fun c i x h a=>
 O 242 5 (.k1 (Y5 i0 iS i0 .ar i0)) h fun b h=>
 U [i0,iS,i0,.ar,i0] [.mk 0 1 (.c i1),.mk 3 1 (.c a)] h fun d h=>
 S 5 b d h fun e h=>
 .ret (T11 b) h
def x198 : AC := (.ah k198_0 .skip)
def f198 : AF := .mk x198 [.agg 5 .h0 .h2]
def k199_0 : KF := K1 y0 fun c i x h a=>
 O 242 5 (.k1 (Y5 i0 iS i0 .ar i0)) h fun b h=>
 U [i0,iS,i0,.ar,i0] [.mk 0 1 (.c (pi 2)),.mk 1 1 (.c a)] h fun d h=>
 S 5 b d h fun e h=>
 .ret (T11 b) h
def x199 : AC := (.ah k199_0 .skip)
def f199 : AF := .mk x199 [.agg 5 .h0 .h2]
def k201_3 : KF := K5 y2 y3 y7 y8 y9 fun c i x h a b d e f=>
 X 1 d f h fun g h=>
 L g h fun j h=>
 x (T232 a b j d e f) h
def k201_4 : KF := K5 y2 y3 y7 y8 y9 fun c i x h a b d e f=>
 D f i1 h fun g h=>
 .nm (T231 a b d e g) h
def k201_2 : KF := K5 y2 y3 y7 y8 y9 fun c i x h a b d e f=>
 Y f e h fun g h=>
 I g (x (T231 a b d e f) h) (.ex 0 (T25 a b) h)
def k201_1 : KF := K3 y0 y2 y3 fun c i x h a b d=>
 G a h fun e h=>
 x (T231 b d a e i0) h
def k201_5 : KF := K2 y2 y3 fun c i x h a b=>
 M 5 b h fun d h=>
 S 5 a d h fun e h=>
 .ret (T11 a) h
def k201_0 : KF := K1 y0 fun c i x h a=>
 O 242 5 (.k1 (Y5 i0 iS i0 .ar i0)) h fun b h=>
 C c 198 [.ar] h fun d h=>
 O 242 5 (.k1 (Y5 i0 iS i0 .ar i0)) h fun e h=>
 S 5 e d h fun f h=>
 x (T44 a b e) h
def x201 : AC := (.ah k201_0 (.seq (.ah k201_1 (.block 0 (.loop (.ah k201_2 (.seq (.block 1 (.ah k201_3 (.qv [q 0 (m d15 r5),
 w (oc d16 199 [r15]),
 w (o d17 (.cu 242 5 1 [i0,iS,i0,.ar,i0] [.mk 0 5 r16])),
 qf 2 d13 3 r3,
 ql 2 d14 r13,
 w (o d18 (.app 242 5 r14 r17)),
 qf 0 d19 3 r3,
 w (os r19 r18)]))) (.ah k201_4 .skip)))))) (.ah k201_5 .skip)))
def f201 : AF := .mk x201 [.agg 5 .h0 .h2]
def x202 : AC := b202
def f202 : AF := .mk x202 [.t .h0 .h4]
def x204 : AC := b204
def f204 : AF := .mk x204 [.t .h0 .h3]
def x209 : AC := b209
def f209 : AF := .mk x209 [.t .h0 .h4,.agg 2 .h0 .h5]
def x210 : AC := b210
def f210 : AF := .mk x210 [.t .h0 .h6]
def x212 : AC := b212
def f212 : AF := .mk x212 [.t .h0 .h4]
end
end Go.Am.Seat
