/- The program's code in a form that runs fast, written by program. Nothing is asked. -/
import Derived.Test.YtkagkfknfennmaaGreatDoorHead
set_option linter.all false
namespace Go.Am.Seat
set_option maxRecDepth 20000
noncomputable section
def T0 (a b d : AV) : A2 := N0 (Y5 a u u b d)
def T1 (a b d e : AV) : A2 := N0 (Y6 a u u b d e)
def T2 (a b : AV) : A2 := N0 (Y5 u u u a b)
def T3 (a b d e : AV) : A2 := N0 (Y9 u u u a b u u d e)
def T4 (a b d e : AV) : A2 := N2 (Y9 u u u a u u u b d) .nil (Y8 u u u u u u u e)
def T5 (a : AV) : A2 := N0 (Y3 u u a)
def T6 (a b : AV) : A2 := N0 (Y4 u a u b)
def T7 (a : AV) : A2 := N0 (Y4 u u u a)
def T8 (a b : AV) : A2 := N0 (Y6 u u u a u b)
def T9 : A2 := .nil
def T10 (a b d : AV) : A2 := N0 (Y7 u u u a u b d)
def T11 (a b : AV) : A2 := N0 (Y4 u u a b)
def T12 (a : AV) : A2 := N0 (Y1 a)
def T13 (a b d e : AV) : A2 := N1 (.mk a u u u u u u u u u u u u u u b) (Y2 d e)
def T14 (a b : AV) : A2 := N0 (Y7 a u u u u u b)
def T15 (a b d e : AV) : A2 := N1 (Y7 u u u u u u a) (Y13 u u u u u u u u u u b d e)
def T16 (a : AV) : A2 := N0 (Y7 u u u u u u a)
def T17 (a b d e f : AV) : A2 := N1 (Y9 u u u u u u a u b) (Y13 u u u u u u u u u u d e f)
def T18 (a b d e f g j k : AV) : A2 := N2 (Y9 u u u u u u a u b) (Y13 u u u u u u u u u u d e f) (Y7 u u u u g j k)
def T19 (a b : AV) : A2 := N0 (Y4 a u u b)
def T20 (a b : AV) : A2 := N0 (Y3 u a b)
def T21 (a b d : AV) : A2 := N0 (Y4 u a b d)
def T22 (a b d e : AV) : A2 := N0 (Y5 u a b d e)
def T23 (a : AV) : A2 := N0 (Y2 u a)
def T24 (a b d e : AV) : A2 := N0 (Y8 u a u u u b d e)
def T25 (a b d e f : AV) : A2 := N0 (Y8 u a u u b d e f)
def T26 (a b d e f : AV) : A2 := N2 (Y4 u a u b) .nil (Y12 u u u u u u u u u d e f)
def T27 (a b d e : AV) : A2 := N4 (Y4 u u u a) .nil .nil (.mk u u u u u u u u u u u u u u b d) (Y1 e)
def T28 (a b d e f : AV) : A2 := N4 (Y8 u u u a u u u b) .nil .nil (.mk u u u u u u u u u u u u u u d e) (Y1 f)
def T29 (a b d e f g j k : AV) : A2 := N5 (Y8 u u u a u u u b) .nil .nil (.mk u u u u u u u u u u u u u u d e) (.mk f u u u u u u u u u u u u u g j) (Y1 k)
def T30 (a : AV) : A2 := N0 (Y5 u u u u a)
def T31 (a b : AV) : A2 := N0 (Y6 u a u u u b)
def T32 (a b d : AV) : A2 := N0 (Y7 u a u u u b d)
def T33 (a b d : AV) : A2 := N0 (Y6 a b u u u d)
def T34 (a b d e : AV) : A2 := N0 (Y7 a b u u u d e)
def T35 (a b d e f : AV) : A2 := N0 (Y8 a b u u u d e f)
def T36 (a b d e f g : AV) : A2 := N0 (Y9 a b u u u d e f g)
def T37 (a b d e f g j : AV) : A2 := N0 (Y10 a b u u u d e f g j)
def T38 (a b d e : AV) : A2 := N2 (Y2 u a) .nil (Y9 u u u u u u b d e)
def T39 (a b d e f : AV) : A2 := N2 (Y5 u a u u b) .nil (Y9 u u u u u u d e f)
def T40 (a b d : AV) : A2 := N3 .nil .nil .nil (Y13 u u u u u u u u u u a b d)
def T41 (a b d e : AV) : A2 := N3 (Y7 u u u u u u a) .nil .nil (Y13 u u u u u u u u u u b d e)
def T42 (a b d : AV) : A2 := N0 (Y7 a b u u u u d)
def T43 (a b d : AV) : A2 := N0 (Y8 u u u u u a b d)
def T44 (a b d : AV) : A2 := N0 (Y11 u u u u u u u u a b d)
def T45 (a b d e : AV) : A2 := N0 (Y11 u u u u a u u u b d e)
def T46 (a b d e : AV) : A2 := N0 (Y9 u u u a u u b d e)
def T47 (a b : AV) : A2 := N0 (Y6 u u u u a b)
def T48 (a b d e : AV) : A2 := N1 (Y1 a) (Y15 u u u u u u u u u u u u b d e)
def T49 (a b d e f g : AV) : A2 := N1 (Y7 a u u u u b d) (Y15 u u u u u u u u u u u u e f g)
def T50 (a b d e f g j k l : AV) : A2 := N2 (Y7 a u u u u b d) (Y15 u u u u u u u u u u u u e f g) (Y6 u u u j k l)
def T51 (a : AV) : A2 := N1 .nil (Y4 u u u a)
def T52 (a b : AV) : A2 := N0 (Y2 a b)
def T53 (a b d : AV) : A2 := N0 (Y12 a b u u u u u u u u u d)
def T54 (a b d e : AV) : A2 := N0 (Y8 a u u u u b d e)
def T55 (a b d e : AV) : A2 := N0 (Y8 u a u u b d u e)
def T56 (a b d e f : AV) : A2 := N0 (Y9 u a u u b d u e f)
def T57 (a b d : AV) : A2 := N0 (Y8 u u u u a b u d)
def T58 (a b d : AV) : A2 := N1 (Y7 u u u u u u a) (Y7 u u u u u b d)
def T59 (a b d : AV) : A2 := N0 (Y11 u u u a u u u u u b d)
def T60 (a b : AV) : A2 := N0 (Y6 a u u u u b)
def T61 (a b d : AV) : A2 := N0 (Y14 u u u u u a u u u u u u b d)
def T62 (a : AV) : A2 := N0 (Y6 u u u u u a)
def T63 (a b d e : AV) : A2 := N0 (Y14 u u u u u a b u u u u u d e)
def T64 (a b d e : AV) : A2 := N2 (Y6 u u u u u a) .nil (Y5 u u b d e)
def T65 (a b : AV) : A2 := N0 (Y5 a u u u b)
def T66 (a b d e : AV) : A2 := N5 (Y1 a) .nil .nil .nil .nil (Y4 u b d e)
def T67 (a b d : AV) : A2 := N0 (Y6 a u u u b d)
def T68 (a b d e : AV) : A2 := N0 (Y7 a u u u b d e)
def T69 (a b d e f : AV) : A2 := N1 (Y3 u a b) (.mk u u u u u u u u u u u u u d e f)
def T70 (a b d e f : AV) : A2 := N3 (Y3 u a b) .nil .nil (Y5 u u d e f)
def T71 (a b d e f g j : AV) : A2 := N3 (Y8 u a b u u u d e) .nil .nil (Y5 u u f g j)
def T72 (a b d e f : AV) : A2 := N1 (.mk a u b u u u u u u u u u u u d e) (Y1 f)
def T73 (a b d : AV) : A2 := N0 (Y7 a u u u u b d)
def T74 (a b d e : AV) : A2 := N0 (Y10 u u u a u u u b d e)
def T75 (a b d e f : AV) : A2 := N1 (Y10 u u u a u u u b d e) (Y2 u f)
def f79 : AF := .ext .Cu
def k3_4 : KF := K4 y0 y3 y4 y5 fun c i x h a b d e=>
 D e i1 h fun f h=>
 .nm (T1 a b d f) h
def k3_3 : KF := K4 y0 y3 y4 y5 fun c i x h a b d e=>
 X 12 a e h fun f h=>
 M 12 f h fun g h=>
 C c 4 [g] h fun j h=>
 O 28 12 (.k1 (Y12 i0 i0 i0 i0 iS i0 i0 i0 iS iS .ak .ak)) h fun k h=>
 S 12 k j h fun l h=>
 M 12 k h fun m h=>
 tR (bs 28 12 1 [i0,i0,i0,i0,iS,i0,i0,i0,iS,iS,.ak,.ak] [.mk 0 12 (.c m)] h) fun n h=>
 tR (dW 28 12 b n h) fun o h=>
 gD d true (fun p=>M 12 k h fun q h=>
 p q h) h fun p h=>
 gD d true (fun q=>C c 5 [p] h fun s h=>
 q s h) h fun q h=>
 tR (dJ (.c d) (.c q) (.c (.bool false)) .nil h) fun s h=>
 x (T1 a o s e) h
def k3_2 : KF := K4 y0 y3 y4 y5 fun c i x h a b d e=>
 G a h fun f h=>
 Y e f h fun g h=>
 gD g true (fun j=>j e h) h fun j h=>
 gD g true (fun k=>Y j (pi 30) h fun l h=>
 k l h) h fun k h=>
 tR (dJ (.c g) (.c k) (.c (.bool false)) .nil h) fun l h=>
 I l (x (T1 a b d e) h) (.ex 0 (T2 b d) h)
def k3_1 : KF := K3 y0 y3 y4 fun c i x h a b d=>
 x (T1 a b d i0) h
def Cw : KF := K4 y3 y4 y7 y8 fun c i x h a b d e=>
 tR (jU b h) fun f h=>
 x (T4 a d e f) h
def k3_5 : KF := K2 y3 y4 fun c i x h a b=>
 C c 6 [a] h fun d h=>
 E 0 d h fun e h=>
 E 1 d h fun f h=>
 x (T3 a b e f) h
def k3_0 : KF := K1 y0 fun c i x h a=>
 x (T0 a .ak (.bool true)) h
def x3 : AC := (.ag k3_0 (.seq (.ag k3_1 (.block 0 (.loop (.ag k3_2 (.ag k3_3 (.ag k3_4 .skip)))))) (.ag k3_5 (.seq (.ag Cw (.cond r39 (.seq (.ops [m d40 r7,
 o d41 (.len r40),
 o d42 (.bin .eq r41 a0),
 m d43 r42,
 .g .h2 .hb true d44 (.op (.mv r8)),
 .g .h2 .hb true d45 (.op (.bin .eq r44 a1)),
 o d46 (.pick r43 r45 (.c (.bool false))),
 m d47 r46,
 .g .h2 .hf true d48 (.call 7 []),
 o d49 (.pick r47 r48 (.c (.bool false))),
 m d2 r49]) .ret) .skip)) (.seq (.pL [q 0 (m d50 r8),
 q 0 (o d51 (.bin .eq r50 a0)),
 q 0 (m d52 r51),
 q 0 (.g .h3 .h4 true d55 (.op (.mv r3))),
 w (.g .h3 .h4 true d56 (.call 8 [r55])),
 q 1 (.g .h3 .h4 true d53 (.op (.mv r7))),
 q 1 (.g .h3 .h4 true d54 (.op (.conv .Hl r53))),
 q 0 (.g .h3 .h4 true d57 (.op (.conv .Hl r56))),
 q 0 (.g .h3 .h4 true d58 (.op (.bin .seq r54 r57))),
 q 0 (o d59 (.pick r52 r58 (.c (.bool false)))),
 q 0 (m d60 r59),
 w (.g .h3 .hc true d61 (.call 7 [])),
 q 0 (o d62 (.pick r60 r61 (.c (.bool false)))),
 q 0 (m d2 r62)]) .ret)))))
def f3 : AF := .mk x3 [.t .h0 .h2]
def k4_0 : KF := K1 y0 fun c i x h a=>
 B 28 a h fun b h=>
 O 28 12 (.k1 (Y12 i0 i0 i0 i0 iS i0 i0 i0 iS iS .ak .ak)) h fun d h=>
 A 5 b h fun e h=>
 M 7 e h fun f h=>
 C c 9 [f] h fun g h=>
 A 5 b h fun j h=>
 S 7 j g h fun k h=>
 M 12 b h fun l h=>
 S 12 d l h fun m h=>
 .ret (T5 d) h
def x4 : AC := (.ag k4_0 .skip)
def f4 : AF := .mk x4 [.agg 12 .h0 .h2]
def k5_1 : KF := K2 y3 y70 fun c i x h a b=>
 I b (.ret (T5 (.bool false)) h) (.nm (T7 a) h)
def Cx : KF := K2 y3 y4 fun c i x h a b=>
 A 5 a h fun d h=>
 L d h fun e h=>
 G e h fun f h=>
 Y b f h fun g h=>
 I g (A 5 a h fun j h=>
 L j h fun k h=>
 X 2 k b h fun l h=>
 A 1 l h fun m h=>
 L m h fun n h=>
 C c 10 [n] h fun o h=>
 tR (jU o h) fun p h=>
 I p (.ret (T5 (.bool false)) h) (D b i1 h fun q h=>
 .nm (T2 a q) h)) (.ex 0 (T2 a b) h)
def k5_2 : KF := K1 y3 fun c i x h a=>
 x (T2 a i0) h
def k5_8 : KF := K3 y3 y5 y6 fun c i x h a b d=>
 A 6 a h fun e h=>
 L e h fun f h=>
 X 3 f b h fun g h=>
 A 1 g h fun j h=>
 L j h fun k h=>
 X 3 k d h fun l h=>
 A 0 l h fun m h=>
 L m h fun n h=>
 C c 10 [n] h fun o h=>
 tR (jU o h) fun p h=>
 I p (.ret (T5 (.bool false)) h) (D d i1 h fun q h=>
 .nm (T10 a b q) h)
def Cy : KF := K3 y3 y5 y6 fun c i x h a b d=>
 A 6 a h fun e h=>
 L e h fun f h=>
 X 3 f b h fun g h=>
 A 1 g h fun j h=>
 L j h fun k h=>
 G k h fun l h=>
 Y d l h fun m h=>
 I m (x (T10 a b d) h) (.ex 4 (T8 a b) h)
def k5_6 : KF := K2 y3 y5 fun c i x h a b=>
 A 6 a h fun d h=>
 L d h fun e h=>
 X 3 e b h fun f h=>
 A 1 f h fun g h=>
 L g h fun j h=>
 G j h fun k h=>
 tR (eN k (pi 255) h) fun l h=>
 I l (.ret (T5 (.bool false)) h) (x (T10 a b i0) h)
def k5_9 : KF := K2 y3 y5 fun c i x h a b=>
 D b i1 h fun d h=>
 .nm (T8 a d) h
def k5_5 : KF := K2 y3 y5 fun c i x h a b=>
 A 6 a h fun d h=>
 L d h fun e h=>
 G e h fun f h=>
 Y b f h fun g h=>
 I g (x (T8 a b) h) (.ex 2 T9 h)
def k5_4 : KF := K1 y3 fun c i x h a=>
 x (T8 a i0) h
def k5_10 : KF := fun c i x r h=>
 .ret (T5 (.bool true)) h
def k5_0 : KF := K1 y0 fun c i x h a=>
 B 28 a h fun b h=>
 A 5 b h fun d h=>
 M 7 d h fun e h=>
 O 26 7 (.k1 (Y7 i0 i0 i0 iS iS .ak .ak)) h fun f h=>
 S 7 f e h fun g h=>
 x (T6 b f) h
def x5 : AC := (.ag k5_0 (.seq (.seq (.ops [of d9 0 r1,
 ol d10 r9,
 o d11 (.bin .lt r10 a1),
 m d12 r11,
 .g .h0 .hc false d13 (.op (.ly 0 r1)),
 .g .h0 .hc false d14 (.op (.jV r13)),
 .g .h0 .hc false d15 (.op (.bin .gt r14 (.c (pi 9)))),
 o d16 (.pick r12 (.c (.bool true)) r15),
 m d17 r16,
 .g .h1 .h1 false d18 (.op (.ly 1 r1)),
 .g .h1 .h1 false d19 (.op (.jV r18)),
 .g .h1 .h1 false d20 (.call 10 [r19]),
 .g .h1 .h1 false d21 (.op (.un .not r20)),
 o d22 (.pick r17 (.c (.bool true)) r21),
 m d23 r22,
 .g .h1 .h7 false d24 (.op (.ly 2 r1)),
 .g .h1 .h7 false d25 (.op (.jV r24)),
 .g .h1 .h7 false d26 (.call 10 [r25]),
 .g .h1 .h7 false d27 (.op (.un .not r26)),
 o d28 (.pick r23 (.c (.bool true)) r27),
 m d29 r28,
 .g .h1 .hd false d30 (.op (.ly 3 r1)),
 .g .h1 .hd false d31 (.op (.jV r30)),
 .g .h1 .hd false d32 (.call 10 [r31]),
 .g .h1 .hd false d33 (.op (.un .not r32)),
 o d34 (.pick r29 (.c (.bool true)) r33),
 m d35 r34,
 .g .h2 .h3 false d36 (.op (.ly 4 r1)),
 .g .h2 .h3 false d37 (.op (.jV r36)),
 .g .h2 .h3 false d38 (.op (.hX r37)),
 .g .h2 .h3 false d39 (.op (.bin .gt r38 (.c (pi 255)))),
 o d40 (.pick r35 (.c (.bool true)) r39),
 m d41 r40,
 .g .h2 .h9 false d42 (.op (.ly 0 r3)),
 .g .h2 .h9 false d43 (.op (.jV r42)),
 .g .h2 .h9 false d44 (.call 10 [r43]),
 .g .h2 .h9 false d45 (.op (.un .not r44)),
 o d46 (.pick r41 (.c (.bool true)) r45),
 m d47 r46,
 .g .h2 .hf false d48 (.op (.ly 1 r3)),
 .g .h2 .hf false d49 (.op (.jV r48)),
 .g .h2 .hf false d50 (.call 10 [r49]),
 .g .h2 .hf false d51 (.op (.un .not r50)),
 o d52 (.pick r47 (.c (.bool true)) r51),
 m d53 r52,
 .g .h3 .h5 false d54 (.op (.ly 2 r3)),
 .g .h3 .h5 false d55 (.op (.jV r54)),
 .g .h3 .h5 false d56 (.call 10 [r55]),
 .g .h3 .h5 false d57 (.op (.un .not r56)),
 o d58 (.pick r53 (.c (.bool true)) r57),
 m d59 r58,
 .g .h3 .hb false d60 (.op (.ly 5 r3)),
 .g .h3 .hb false d61 (.op (.jV r60)),
 .g .h3 .hb false d62 (.op (.len r61)),
 .g .h3 .hb false d63 (.op (.bin .gt r62 (.c (pi 255)))),
 o d64 (.pick r59 (.c (.bool true)) r63),
 m d65 r64,
 .g .h4 .h1 false d66 (.op (.ly 6 r3)),
 .g .h4 .h1 false d67 (.op (.jV r66)),
 .g .h4 .h1 false d68 (.op (.len r67)),
 .g .h4 .h1 false d69 (.op (.bin .gt r68 (.c (pi 255)))),
 o d70 (.pick r65 (.c (.bool true)) r69)]) (.ag k5_1 .skip)) (.seq (.ag k5_2 (.block 0 (.loop (.ag Cx .skip)))) (.seq (.ag k5_4 (.block 2 (.loop (.ag k5_5 (.seq (.block 3 (.ag k5_6 (.block 4 (.loop (.ag Cy (.ag k5_8 .skip)))))) (.ag k5_9 .skip)))))) (.ag k5_10 .skip)))))
def f5 : AF := .mk x5 [.t .h0 .h2]
def Cz : KF := K4 y0 y15 y16 y17 fun c i x h a b d e=>
 Y e d h fun f h=>
 I f (X 12 b e h fun g h=>
 M 12 g h fun j h=>
 O 28 12 (.k1 (Y12 i0 i0 i0 i0 iS i0 i0 i0 iS iS .ak .ak)) h fun k h=>
 S 12 k j h fun l h=>
 M 12 k h fun m h=>
 C c 11 [m] h fun n h=>
 tR (jU n h) fun o h=>
 I o (.ret (T11 .ak i1) h) (D e i1 h fun p h=>
 .nm (T13 a b d p) h)) (.ex 0 (T13 a b d e) h)
def k6_1 : KF := K1 y0 fun c i x h a=>
 G a h fun b h=>
 x (T13 a a b i0) h
def CB : KF := K8 y6 y8 y26 y27 y28 y36 y37 y38 fun c i x h a b d e f g j k=>
 Y k j h fun l h=>
 I l (X 1 g k h fun m h=>
 L m h fun n h=>
 J n h fun o h=>
 L o h fun p h=>
 C c 15 [a,p] h fun q h=>
 D k i1 h fun s h=>
 .nm (T18 a b d e f g j s) h) (.ex 4 (T18 a b d e f g j k) h)
def k6_7 : KF := K5 y6 y8 y26 y27 y28 fun c i x h a b d e f=>
 C c 14 [b] h fun g h=>
 G g h fun j h=>
 x (T18 a b d e f g j i0) h
def k6_9 : KF := K5 y6 y8 y26 y27 y28 fun c i x h a b d e f=>
 A 4 b h fun g h=>
 L g h fun j h=>
 C c 16 [a,j] h fun k h=>
 A 5 b h fun l h=>
 M 7 l h fun m h=>
 C c 17 [m] h fun n h=>
 G n h fun o h=>
 tR (eN o (pi 65535) h) fun p h=>
 I p (.ret (T11 .ak (pi 3)) h) (tR (cK .Hl n h) fun q h=>
 C c 16 [a,q] h fun s h=>
 .nm (T15 a d e f) h)
def k6_6 : KF := K4 y6 y26 y27 y28 fun c i x h a b d e=>
 X 12 b e h fun f h=>
 M 12 f h fun g h=>
 O 28 12 (.k1 (Y12 i0 i0 i0 i0 iS i0 i0 i0 iS iS .ak .ak)) h fun j h=>
 S 12 j g h fun k h=>
 A 0 j h fun l h=>
 L l h fun m h=>
 C c 13 [a,m] h fun n h=>
 x (T17 a j b d e) h
def k6_10 : KF := K4 y6 y26 y27 y28 fun c i x h a b d e=>
 D e i1 h fun f h=>
 .nm (T15 a b d f) h
def k6_5 : KF := K4 y6 y26 y27 y28 fun c i x h a b d e=>
 Y e d h fun f h=>
 I f (x (T15 a b d e) h) (.ex 2 (T16 a) h)
def k6_4 : KF := K2 y0 y6 fun c i x h a b=>
 G a h fun d h=>
 x (T15 b a d i0) h
def k6_11 : KF := K1 y6 fun c i x h a=>
 C c 18 [a] h fun b h=>
 .ret (T11 b i0) h
def k6_3 : KF := K1 y0 fun c i x h a=>
 C c 12 [] h fun b h=>
 x (T14 a b) h
def k6_0 : KF := K1 y0 fun c i x h a=>
 G a h fun b h=>
 tR (eN b (pi 2048) h) fun d h=>
 I d (.ret (T11 .ak (pi 4)) h) (x (T12 a) h)
def x6 : AC := (.ag k6_0 (.seq (.ag k6_1 (.block 0 (.loop (.ag Cz .skip)))) (.ag k6_3 (.seq (.ag k6_4 (.block 2 (.loop (.ag k6_5 (.seq (.block 3 (.ag k6_6 (.seq (.ag k6_7 (.block 4 (.loop (.ag CB .skip)))) (.ag k6_9 .skip)))) (.ag k6_10 .skip)))))) (.ag k6_11 .skip)))))
def f6 : AF := .mk x6 [.t .h0 .h2,.t .h0 .h3]
def k8_3 : KF := K3 y0 y3 y4 fun c i x h a b d=>
 X 12 a d h fun e h=>
 M 12 e h fun f h=>
 O 28 12 (.k1 (Y12 i0 i0 i0 i0 iS i0 i0 i0 iS iS .ak .ak)) h fun g h=>
 S 12 g f h fun j h=>
 A 0 g h fun k h=>
 L k h fun l h=>
 C c 21 [b,l] h fun m h=>
 x (T1 a m d g) h
def k8_4 : KF := K3 y0 y3 y4 fun c i x h a b d=>
 D d i1 h fun e h=>
 .nm (T0 a b e) h
def k8_2 : KF := K3 y0 y3 y4 fun c i x h a b d=>
 G a h fun e h=>
 Y d e h fun f h=>
 I f (x (T0 a b d) h) (.ex 0 (T7 b) h)
def k8_1 : KF := K2 y0 y3 fun c i x h a b=>
 x (T0 a b i0) h
def k8_5 : KF := K1 y3 fun c i x h a=>
 .ret (T5 a) h
def k8_0 : KF := K1 y0 fun c i x h a=>
 x (T19 a .ak) h
def x8 : AC := (.ag k8_0 (.seq (.ag k8_1 (.block 0 (.loop (.ag k8_2 (.seq (.block 1 (.ag k8_3 (.seq (.pL [q 0 (m d20 r3),
 qf 0 d21 1 r5,
 ql 0 d22 r21,
 w (oc d23 22 [r20,r22]),
 qf 1 d24 2 r5,
 ql 1 d25 r24,
 w (oc d26 22 [r23,r25]),
 qf 2 d27 3 r5,
 ql 2 d28 r27,
 w (oc d29 22 [r26,r28]),
 q 0 (m d3 r29)]) (.pL [q 0 (m d30 r3),
 qf 0 d31 4 r5,
 ql 0 d32 r31,
 w (oc d33 23 [r30,r32]),
 qf 1 d34 5 r5,
 q 1 (o d35 (.xV 7 r34)),
 w (oc d36 17 [r35]),
 q 0 (o d37 (.conv .Hl r36)),
 w (oc d38 23 [r33,r37]),
 q 0 (m d3 r38)])))) (.ag k8_4 .skip)))))) (.ag k8_5 .skip)))
def f8 : AF := .mk x8 [.t .h0 .h2]
def k9_4 : KF := K5 y1 y2 y3 y4 y44 fun c i x h a b d e f=>
 I f (.nm (T22 a b d e) h) (.ex 0 (T22 a b d e) h)
def k9_5 : KF := K4 y1 y2 y3 y4 fun c i x h a b d e=>
 A 5 a h fun f h=>
 L f h fun g h=>
 X 2 g e h fun j h=>
 M 2 j h fun k h=>
 O 41 2 (.k1 (Y2 iS i0)) h fun l h=>
 S 2 l k h fun m h=>
 A 1 l h fun n h=>
 L n h fun o h=>
 C c 24 [o] h fun p h=>
 A 1 l h fun q h=>
 W q p h fun s h=>
 M 2 l h fun t h=>
 tR (bs 41 2 1 [iS,i0] [.mk 0 2 (.c t)] h) fun v h=>
 tR (dW 41 2 d v h) fun w h=>
 D e i1 h fun y h=>
 .nm (T22 a b w y) h
def k9_3 : KF := K3 y1 y2 y3 fun c i x h a b d=>
 x (T22 a b d i0) h
def k9_6 : KF := K3 y1 y2 y3 fun c i x h a b d=>
 A 5 a h fun e h=>
 W e d h fun f h=>
 A 6 a h fun g h=>
 L g h fun j h=>
 C c 25 [j,(pi 9)] h fun k h=>
 A 6 a h fun l h=>
 W l k h fun m h=>
 M 7 a h fun n h=>
 S 7 b n h fun o h=>
 .ret (T5 b) h
def CC : KF := K2 y1 y2 fun c i x h a b=>
 A 5 a h fun d h=>
 L d h fun e h=>
 G e h fun f h=>
 tR (eN f (pi 8) h) fun g h=>
 I g (A 5 a h fun j h=>
 L j h fun k h=>
 tR (iA 2 (.c k) .none (.some (.c (pi 8))) .none .nil h) fun l h=>
 A 5 a h fun m h=>
 W m l h fun n h=>
 x (T21 a b .ak) h) (x (T21 a b .ak) h)
def CD : KF := K2 y1 y2 fun c i x h a b=>
 A 4 a h fun d h=>
 L d h fun e h=>
 tR (hX e h) fun f h=>
 tR (eN f (pi 700) h) fun g h=>
 I g (A 4 a h fun j h=>
 L j h fun k h=>
 tR (eO (.c k) .none (.some (.c (pi 700))) .nil h) fun l h=>
 A 4 a h fun m h=>
 W m l h fun n h=>
 x (T20 a b) h) (x (T20 a b) h)
def CE : KF := K1 y0 fun c i x h a=>
 B 26 a h fun b h=>
 O 26 7 (.k1 (Y7 i0 i0 i0 iS iS .ak .ak)) h fun d h=>
 A 3 b h fun e h=>
 L e h fun f h=>
 tR (hX f h) fun g h=>
 tR (eN g (pi 20) h) fun j h=>
 I j (A 3 b h fun k h=>
 L k h fun l h=>
 tR (eO (.c l) .none (.some (.c (pi 20))) .nil h) fun m h=>
 A 3 b h fun n h=>
 W n m h fun o h=>
 x (T20 b d) h) (x (T20 b d) h)
def x9 : AC := (.ag CE (.ag CD (.ag CC (.seq (.ag k9_3 (.block 0 (.loop (.seq (.seq (.ops [m d30 r4,
 of d31 5 r1,
 ol d32 r31,
 o d33 (.len r32),
 o d34 (.bin .lt r30 r33),
 m d35 r34,
 .g .h2 .h3 true d36 (.op (.ly 5 r1)),
 .g .h2 .h3 true d37 (.op (.jV r36)),
 .g .h2 .h3 true d38 (.op (.mv r4)),
 .g .h2 .h3 true d39 (.op (.My 2 r37 r38)),
 .g .h2 .h3 true d40 (.op (.ly 0 r39)),
 .g .h2 .h3 true d41 (.op (.jV r40)),
 .g .h2 .h3 true d42 (.op (.hX r41)),
 .g .h2 .h3 true d43 (.op (.bin .le r42 (.c (pi 20)))),
 o d44 (.pick r35 r43 (.c (.bool false)))]) (.ag k9_4 .skip)) (.ag k9_5 .skip))))) (.ag k9_6 .skip)))))
def f9 : AF := .mk x9 [.agg 7 .h0 .h2]
def k10_0 : KF := K1 y0 fun c i x h a=>
 tR (CF a (ni 2147483647) h) fun b h=>
 gD b true (fun d=>d a h) h fun d h=>
 gD b true (fun e=>Y d (pi 2147483648) h fun f h=>
 e f h) h fun e h=>
 tR (dJ (.c b) (.c e) (.c (.bool false)) .nil h) fun f h=>
 .ret (T5 f) h
def x10 : AC := (.ag k10_0 .skip)
def f10 : AF := .mk x10 [.t .h0 .h2]
def k11_4 : KF := K5 y1 y5 y6 y7 y20 fun c i x h a b d e f=>
 I f (.ret (T5 (.bool false)) h) (.nm (T24 a b d e) h)
def k11_3 : KF := K4 y1 y5 y6 y7 fun c i x h a b d e=>
 X 1 b e h fun f h=>
 L f h fun g h=>
 x (T25 a g b d e) h
def k11_5 : KF := K4 y1 y5 y6 y7 fun c i x h a b d e=>
 D e i1 h fun f h=>
 .nm (T24 a b d f) h
def k11_2 : KF := K4 y1 y5 y6 y7 fun c i x h a b d e=>
 Y e d h fun f h=>
 I f (x (T24 a b d e) h) (.ex 0 (T23 a) h)
def k11_1 : KF := K1 y1 fun c i x h a=>
 C c 14 [a] h fun b h=>
 G b h fun d h=>
 x (T24 a b d i0) h
def k11_0 : KF := K1 y0 fun c i x h a=>
 B 28 a h fun b h=>
 x (T23 b) h
def x11 : AC := (.ag k11_0 (.seq (.ag k11_1 (.block 0 (.loop (.ag k11_2 (.seq (.block 1 (.ag k11_3 (.seq (.ops [m d11 r4,
 oj d12 r11,
 ol d13 r12,
 o d14 (.bin .lt r13 (.c (ni 2147483647))),
 m d15 r14,
 .g .h0 .hf false d16 (.op (.mv r4)),
 .g .h0 .hf false d17 (.op (.nR r16)),
 .g .h0 .hf false d18 (.op (.jV r17)),
 .g .h0 .hf false d19 (.op (.bin .gt r18 (.c (pi 2147483647)))),
 o d20 (.pick r15 (.c (.bool true)) r19)]) (.ag k11_4 .skip)))) (.ag k11_5 .skip)))))) (.seq (.ops [of d22 0 r1,
 ol d23 r22,
 o d24 (.bin .ge r23 a1),
 m d25 r24,
 .g .h1 .h9 true d26 (.op (.ly 0 r1)),
 .g .h1 .h9 true d27 (.op (.jV r26)),
 .g .h1 .h9 true d28 (.op (.bin .le r27 (.c (pi 9)))),
 o d29 (.pick r25 r28 (.c (.bool false))),
 m d30 r29,
 .g .h1 .he true d31 (.op (.ly 4 r1)),
 .g .h1 .he true d32 (.op (.jV r31)),
 .g .h1 .he true d33 (.op (.hX r32)),
 .g .h1 .he true d34 (.op (.bin .le r33 (.c (pi 255)))),
 o d35 (.pick r30 r34 (.c (.bool false))),
 m d36 r35,
 .g .h2 .h4 true d37 (.op (.ly 5 r1)),
 .g .h2 .h4 true d38 (.op (.xV 7 r37)),
 .g .h2 .h4 true d39 (.call 26 [r38]),
 o d40 (.pick r36 r39 (.c (.bool false))),
 m d2 r40]) .ret)))
def f11 : AF := .mk x11 [.t .h0 .h2]
def k12_0 : KF := fun c i x r h=>
 U [.ak] [] h fun a h=>
 B 78 a h fun b h=>
 .ret (T12 b) h
def x12 : AC := (.ag k12_0 .skip)
def f12 : AF := .mk x12 [.t .h0 .h0]
def k13_0 : KF := K2 y0 y1 fun c i x h a b=>
 tR (cK (.toInt .u64) b h) fun d h=>
 C c 27 [a,d,i1] h fun e h=>
 .nm T9 h
def x13 : AC := (.ag k13_0 .skip)
def f13 : AF := .mk x13 []
def k14_0 : KF := K1 y0 fun c i x h a=>
 tQ (nC a h) fun b=>
 tQ (fA 1 b h) fun d=>
 tQ (nC a h) fun e=>
 tQ (fA 2 e h) fun f=>
 tQ (nC a h) fun g=>
 tQ (fA 3 g h) fun j=>
 tX (RV.kW (bs 54 1 3 [.ct,.ct,.ct] [.mk 0 1 (.c d),.mk 1 1 (.c f),.mk 2 1 (.c j)] h)) fun k h=>
 .ret (T5 k) h
def x14 : AC := (.ag k14_0 .skip)
def f14 : AF := .mk x14 [.t .h0 .h2]
def k15_0 : KF := K2 y0 y1 fun c i x h a b=>
 tR (cK (.toInt .u64) b h) fun d h=>
 C c 27 [a,d,(pi 8)] h fun e h=>
 .nm T9 h
def x15 : AC := (.ag k15_0 .skip)
def f15 : AF := .mk x15 []
def k16_0 : KF := K2 y0 y1 fun c i x h a b=>
 tR (hX b h) fun d h=>
 C c 28 [a,d] h fun e h=>
 J a h fun f h=>
 A 0 f h fun g h=>
 L g h fun j h=>
 tR (hY 5 (.c j) (.c b) .nil h) fun k h=>
 J a h fun l h=>
 A 0 l h fun m h=>
 W m k h fun n h=>
 .nm T9 h
def x16 : AC := (.ag k16_0 .skip)
def f16 : AF := .mk x16 []
def k17_3 : KF := K5 y1 y3 y41 y42 y43 fun c i x h a b d e f=>
 Y f e h fun g h=>
 I g (X 2 d f h fun j h=>
 M 2 j h fun k h=>
 O 41 2 (.k1 (Y2 iS i0)) h fun l h=>
 S 2 l k h fun m h=>
 A 0 l h fun n h=>
 L n h fun o h=>
 C c 16 [b,o] h fun p h=>
 A 1 l h fun q h=>
 L q h fun s h=>
 C c 15 [b,s] h fun t h=>
 D f i1 h fun v h=>
 .nm (T26 a b d e v) h) (.ex 0 (T26 a b d e f) h)
def k17_2 : KF := K2 y1 y3 fun c i x h a b=>
 A 5 a h fun d h=>
 L d h fun e h=>
 G e h fun f h=>
 x (T26 a b e f i0) h
def vB : KF := K8 y3 y7 y62 y63 y64 y78 y79 y80 fun c i x h a b d e f g j k=>
 Y k j h fun l h=>
 I l (X 3 g k h fun m h=>
 M 3 m h fun n h=>
 O 47 3 (.k1 (Y3 i0 i0 iS)) h fun o h=>
 S 3 o n h fun p h=>
 A 0 o h fun q h=>
 L q h fun s h=>
 C c 15 [a,s] h fun t h=>
 A 1 o h fun v h=>
 L v h fun w h=>
 C c 15 [a,w] h fun y h=>
 A 2 o h fun z h=>
 L z h fun a0 h=>
 C c 16 [a,a0] h fun a1 h=>
 D k i1 h fun a2 h=>
 .nm (T29 a b d e f g j a2) h) (.ex 4 (T29 a b d e f g j k) h)
def k17_8 : KF := K5 y3 y7 y62 y63 y64 fun c i x h a b d e f=>
 A 1 b h fun g h=>
 L g h fun j h=>
 G j h fun k h=>
 x (T29 a b d e f j k i0) h
def k17_10 : KF := K5 y3 y7 y62 y63 y64 fun c i x h a b d e f=>
 A 2 b h fun g h=>
 L g h fun j h=>
 I j (C c 13 [a,i1] h fun k h=>
 .nm (T27 a d e f) h) (C c 13 [a,i0] h fun k h=>
 .nm (T27 a d e f) h)
def k17_7 : KF := K4 y3 y62 y63 y64 fun c i x h a b d e=>
 X 3 b e h fun f h=>
 M 3 f h fun g h=>
 O 45 3 (.k1 (Y3 iS .ak (.bool false))) h fun j h=>
 S 3 j g h fun k h=>
 A 0 j h fun l h=>
 L l h fun m h=>
 C c 16 [a,m] h fun n h=>
 A 1 j h fun o h=>
 L o h fun p h=>
 G p h fun q h=>
 C c 13 [a,q] h fun s h=>
 x (T28 a j b d e) h
def k17_11 : KF := K4 y3 y62 y63 y64 fun c i x h a b d e=>
 D e i1 h fun f h=>
 .nm (T27 a b d f) h
def k17_6 : KF := K4 y3 y62 y63 y64 fun c i x h a b d e=>
 Y e d h fun f h=>
 I f (x (T27 a b d e) h) (.ex 2 (T7 a) h)
def k17_5 : KF := K2 y1 y3 fun c i x h a b=>
 A 6 a h fun d h=>
 L d h fun e h=>
 G e h fun f h=>
 x (T27 b e f i0) h
def k17_12 : KF := K1 y3 fun c i x h a=>
 C c 18 [a] h fun b h=>
 .ret (T5 b) h
def k17_4 : KF := K2 y1 y3 fun c i x h a b=>
 A 6 a h fun d h=>
 L d h fun e h=>
 G e h fun f h=>
 C c 13 [b,f] h fun g h=>
 x (T6 a b) h
def k17_1 : KF := K2 y1 y3 fun c i x h a b=>
 A 3 a h fun d h=>
 L d h fun e h=>
 C c 16 [b,e] h fun f h=>
 A 4 a h fun g h=>
 L g h fun j h=>
 C c 16 [b,j] h fun k h=>
 A 5 a h fun l h=>
 L l h fun m h=>
 G m h fun n h=>
 C c 13 [b,n] h fun o h=>
 x (T6 a b) h
def k17_0 : KF := K1 y0 fun c i x h a=>
 B 26 a h fun b h=>
 M 7 b h fun d h=>
 C c 26 [d] h fun e h=>
 tR (jU e h) fun f h=>
 I f (.ret (T5 .ak) h) (C c 12 [] h fun g h=>
 A 0 b h fun j h=>
 L j h fun k h=>
 C c 15 [g,k] h fun l h=>
 A 1 b h fun m h=>
 L m h fun n h=>
 C c 15 [g,n] h fun o h=>
 A 2 b h fun p h=>
 L p h fun q h=>
 C c 15 [g,q] h fun s h=>
 x (T6 b g) h)
def x17 : AC := (.ag k17_0 (.ag k17_1 (.seq (.ag k17_2 (.block 0 (.loop (.ag k17_3 .skip)))) (.ag k17_4 (.seq (.ag k17_5 (.block 2 (.loop (.ag k17_6 (.seq (.block 3 (.ag k17_7 (.seq (.ag k17_8 (.block 4 (.loop (.ag vB .skip)))) (.ag k17_10 .skip)))) (.ag k17_11 .skip)))))) (.ag k17_12 .skip))))))
def f17 : AF := .mk x17 [.t .h0 .h2]
def k18_0 : KF := K1 y0 fun c i x h a=>
 J a h fun b h=>
 A 0 b h fun d h=>
 L d h fun e h=>
 C c 29 [e] h fun f h=>
 .ret (T5 f) h
def x18 : AC := (.ag k18_0 .skip)
def f18 : AF := .mk x18 [.t .h0 .h2]
def k21_0 : KF := K2 y0 y1 fun c i x h a b=>
 tR (bs 5 1 0 [] [] h) fun d h=>
 tR (dW 5 1 d a h) fun e h=>
 tR (cK (.toInt .u8) b h) fun f h=>
 tR (bs 5 1 1 [(.int .u8 (.ofNat 0))] [.mk 0 1 (.c f)] h) fun g h=>
 tR (dW 5 1 e g h) fun j h=>
 .ret (T30 j) h
def x21 : AC := (.ag k21_0 .skip)
def f21 : AF := .mk x21 [.t .h0 .h4]
def k22_2 : KF := K3 y1 y5 y6 fun c i x h a b d=>
 Y d (pi 8) h fun e h=>
 I e (tR (sJ (pi 8) d h) fun f h=>
 tR (cK (.toInt .u64) f h) fun g h=>
 tR (bK .shr a g h) fun j h=>
 tR (cK (.toInt .u8) j h) fun k h=>
 tR (bs 5 1 1 [(.int .u8 (.ofNat 0))] [.mk 0 1 (.c k)] h) fun l h=>
 tR (dW 5 1 b l h) fun m h=>
 D d i1 h fun n h=>
 .nm (T32 a m n) h) (.ex 0 (T32 a b d) h)
def k22_1 : KF := K2 y1 y5 fun c i x h a b=>
 x (T32 a b i0) h
def k22_3 : KF := K1 y5 fun c i x h a=>
 .ret (T30 a) h
def k22_0 : KF := K2 y0 y1 fun c i x h a b=>
 tR (bs 5 1 0 [] [] h) fun d h=>
 tR (dW 5 1 d a h) fun e h=>
 x (T31 b e) h
def x22 : AC := (.ag k22_0 (.seq (.ag k22_1 (.block 0 (.loop (.ag k22_2 .skip)))) (.ag k22_3 .skip)))
def f22 : AF := .mk x22 [.t .h0 .h4]
def k23_0 : KF := K2 y0 y1 fun c i x h a b=>
 tR (hX b h) fun d h=>
 C c 37 [a,d] h fun e h=>
 tR (hY 5 (.c e) (.c b) .nil h) fun f h=>
 .ret (T30 f) h
def x23 : AC := (.ag k23_0 .skip)
def f23 : AF := .mk x23 [.t .h0 .h4]
def k24_1 : KF := K1 y0 fun c i x h a=>
 .ret (T5 a) h
def k24_0 : KF := K1 y0 fun c i x h a=>
 Y a (ni 999) h fun b h=>
 gD b false (fun d=>d a h) h fun d h=>
 gD b false (fun e=>tR (eN d (pi 1000) h) fun f h=>
 e f h) h fun e h=>
 tR (dJ (.c b) (.c (.bool true)) (.c e) .nil h) fun f h=>
 I f (.ret (T5 i0) h) (x (T12 a) h)
def x24 : AC := (.ag k24_0 (.ag k24_1 .skip))
def f24 : AF := .mk x24 [.t .h0 .h2]
def k25_2 : KF := K5 y0 y1 y5 y6 y18 fun c i x h a b d e f=>
 I f (.nm (T34 a b d e) h) (.ex 0 (T34 a b d e) h)
def k25_8 : KF := K7 y0 y1 y5 y6 y7 y8 y9 fun c i x h a b d e f g j=>
 D j i1 h fun k h=>
 .nm (T37 a b d e f g k) h
def sK : KF := K7 y0 y1 y5 y6 y7 y8 y9 fun c i x h a b d e f g j=>
 X 3 g j h fun k h=>
 A 2 k h fun l h=>
 L l h fun m h=>
 tR (hX m h) fun n h=>
 tR (eN n (pi 41) h) fun o h=>
 I o (X 3 g j h fun p h=>
 A 2 p h fun q h=>
 L q h fun s h=>
 tR (eO (.c s) .none (.some (.c (pi 41))) .nil h) fun t h=>
 X 3 g j h fun v h=>
 A 2 v h fun w h=>
 W w t h fun y h=>
 X 3 g j h fun z h=>
 A 0 z h fun a0 h=>
 L a0 h fun a1 h=>
 C c 24 [a1] h fun a2 h=>
 X 3 g j h fun a3 h=>
 A 0 a3 h fun a4 h=>
 W a4 a2 h fun a5 h=>
 x (T37 a b d e f g j) h) (X 3 g j h fun p h=>
 A 0 p h fun q h=>
 L q h fun s h=>
 C c 24 [s] h fun t h=>
 X 3 g j h fun v h=>
 A 0 v h fun w h=>
 W w t h fun y h=>
 x (T37 a b d e f g j) h)
def sL : KF := K7 y0 y1 y5 y6 y7 y8 y9 fun c i x h a b d e f g j=>
 G g h fun k h=>
 Y j k h fun l h=>
 I l (x (T37 a b d e f g j) h) (.ex 2 (T36 a b d e f g) h)
def k25_5 : KF := K6 y0 y1 y5 y6 y7 y8 fun c i x h a b d e f g=>
 x (T37 a b d e f g i0) h
def k25_9 : KF := K6 y0 y1 y5 y6 y7 y8 fun c i x h a b d e f g=>
 A 1 f h fun j h=>
 W j g h fun k h=>
 M 3 f h fun l h=>
 tR (bs 45 3 1 [iS,.ak,(.bool false)] [.mk 0 3 (.c l)] h) fun m h=>
 tR (dW 45 3 d m h) fun n h=>
 .nm (T34 a b n e) h
def k25_4 : KF := K5 y0 y1 y5 y6 y7 fun c i x h a b d e f=>
 tR (bs 47 3 0 [] [] h) fun g h=>
 A 1 f h fun j h=>
 L j h fun k h=>
 tR (dW 47 3 g k h) fun l h=>
 G l h fun m h=>
 tR (eN m (pi 7) h) fun n h=>
 I n (tR (iA 3 (.c l) .none (.some (.c (pi 7))) .none .nil h) fun o h=>
 x (T36 a b d e f o) h) (x (T36 a b d e f l) h)
def k25_3 : KF := K4 y0 y1 y5 y6 fun c i x h a b d e=>
 X 3 a e h fun f h=>
 M 3 f h fun g h=>
 O 45 3 (.k1 (Y3 iS .ak (.bool false))) h fun j h=>
 S 3 j g h fun k h=>
 A 0 j h fun l h=>
 L l h fun m h=>
 tR (hX m h) fun n h=>
 tR (eN n (pi 20) h) fun o h=>
 I o (A 0 j h fun p h=>
 L p h fun q h=>
 tR (eO (.c q) .none (.some (.c (pi 20))) .nil h) fun s h=>
 A 0 j h fun t h=>
 W t s h fun v h=>
 x (T35 a b d e j) h) (x (T35 a b d e j) h)
def k25_10 : KF := K4 y0 y1 y5 y6 fun c i x h a b d e=>
 D e i1 h fun f h=>
 .nm (T34 a b d f) h
def k25_1 : KF := K3 y0 y1 y5 fun c i x h a b d=>
 x (T34 a b d i0) h
def k25_11 : KF := K1 y5 fun c i x h a=>
 .ret (T30 a) h
def k25_0 : KF := K2 y0 y1 fun c i x h a b=>
 x (T33 a b .ak) h
def x25 : AC := (.ag k25_0 (.seq (.ag k25_1 (.block 0 (.loop (.seq (.seq (.ops [m d10 r6,
 m d11 r0,
 o d12 (.len r11),
 o d13 (.bin .lt r10 r12),
 m d14 r13,
 .g .h0 .he true d15 (.op (.mv r6)),
 .g .h0 .he true d16 (.op (.mv r1)),
 .g .h0 .he true d17 (.op (.bin .lt r15 r16)),
 o d18 (.pick r14 r17 (.c (.bool false)))]) (.ag k25_2 .skip)) (.seq (.block 1 (.ag k25_3 (.ag k25_4 (.seq (.ag k25_5 (.block 2 (.loop (.ag sL (.ag sK (.ag k25_8 .skip)))))) (.ag k25_9 .skip))))) (.ag k25_10 .skip)))))) (.ag k25_11 .skip)))
def f25 : AF := .mk x25 [.t .h0 .h4]
def k26_1 : KF := K2 y1 y36 fun c i x h a b=>
 I b (.ret (T5 (.bool false)) h) (.nm (T23 a) h)
def k26_5 : KF := K5 y1 y38 y39 y40 y55 fun c i x h a b d e f=>
 I f (.ret (T5 (.bool false)) h) (.nm (T38 a b d e) h)
def k26_4 : KF := K4 y1 y38 y39 y40 fun c i x h a b d e=>
 X 2 b e h fun f h=>
 M 2 f h fun g h=>
 O 41 2 (.k1 (Y2 iS i0)) h fun j h=>
 S 2 j g h fun k h=>
 x (T39 a j b d e) h
def k26_6 : KF := K4 y1 y38 y39 y40 fun c i x h a b d e=>
 D e i1 h fun f h=>
 .nm (T38 a b d f) h
def k26_3 : KF := K4 y1 y38 y39 y40 fun c i x h a b d e=>
 Y e d h fun f h=>
 I f (x (T38 a b d e) h) (.ex 0 (T23 a) h)
def k26_2 : KF := K1 y1 fun c i x h a=>
 A 5 a h fun b h=>
 L b h fun d h=>
 G d h fun e h=>
 x (T38 a d e i0) h
def k26_10 : KF := K4 y58 y59 y60 y74 fun c i x h a b d e=>
 I e (.ret (T5 (.bool false)) h) (.nm (T40 a b d) h)
def k26_9 : KF := K3 y58 y59 y60 fun c i x h a b d=>
 X 3 a d h fun e h=>
 M 3 e h fun f h=>
 O 45 3 (.k1 (Y3 iS .ak (.bool false))) h fun g h=>
 S 3 g f h fun j h=>
 x (T41 g a b d) h
def k26_11 : KF := K3 y58 y59 y60 fun c i x h a b d=>
 D d i1 h fun e h=>
 .nm (T40 a b e) h
def k26_8 : KF := K3 y58 y59 y60 fun c i x h a b d=>
 Y d b h fun e h=>
 I e (x (T40 a b d) h) (.ex 2 T9 h)
def k26_7 : KF := K1 y1 fun c i x h a=>
 A 6 a h fun b h=>
 L b h fun d h=>
 G d h fun e h=>
 x (T40 d e i0) h
def k26_12 : KF := fun c i x r h=>
 .ret (T5 (.bool true)) h
def k26_0 : KF := K1 y0 fun c i x h a=>
 B 26 a h fun b h=>
 x (T23 b) h
def x26 : AC := (.ag k26_0 (.seq (.seq (.ops [of d7 0 r1,
 ol d8 r7,
 of d9 1 r1,
 ol d10 r9,
 of d11 2 r1,
 ol d12 r11,
 o d13 (.cB 3 1 3 [i0,i0,i0] [.mk 0 1 r8,.mk 1 1 r10,.mk 2 1 r12]),
 oc d14 38 [r13],
 o d15 (.un .not r14),
 m d16 r15,
 .g .h1 .h0 false d17 (.op (.ly 3 r1)),
 .g .h1 .h0 false d18 (.op (.jV r17)),
 .g .h1 .h0 false d19 (.op (.ly 4 r1)),
 .g .h1 .h0 false d20 (.op (.jV r19)),
 .g .h1 .h0 false d21 (.op (.cB 9 1 2 [iS,iS] [.mk 0 1 r18,.mk 1 1 r20])),
 .g .h1 .h0 false d22 (.call 39 [r21]),
 .g .h1 .h0 false d23 (.op (.un .not r22)),
 o d24 (.pick r16 (.c (.bool true)) r23),
 m d25 r24,
 .g .h1 .h9 false d26 (.op (.ly 5 r1)),
 .g .h1 .h9 false d27 (.op (.jV r26)),
 .g .h1 .h9 false d28 (.op (.len r27)),
 .g .h1 .h9 false d29 (.op (.bin .gt r28 (.c (pi 255)))),
 o d30 (.pick r25 (.c (.bool true)) r29),
 m d31 r30,
 .g .h1 .hf false d32 (.op (.ly 6 r1)),
 .g .h1 .hf false d33 (.op (.jV r32)),
 .g .h1 .hf false d34 (.op (.len r33)),
 .g .h1 .hf false d35 (.op (.bin .gt r34 (.c (pi 255)))),
 o d36 (.pick r31 (.c (.bool true)) r35)]) (.ag k26_1 .skip)) (.seq (.ag k26_2 (.block 0 (.loop (.ag k26_3 (.seq (.block 1 (.ag k26_4 (.seq (.ops [of d44 1 r4,
 ol d45 r44,
 o d46 (.cB 3 1 1 [i0] [.mk 0 1 r45]),
 oc d47 38 [r46],
 o d48 (.un .not r47),
 m d49 r48,
 .g .h3 .h1 false d50 (.op (.ly 0 r4)),
 .g .h3 .h1 false d51 (.op (.jV r50)),
 .g .h3 .h1 false d52 (.op (.cB 9 1 1 [iS] [.mk 0 1 r51])),
 .g .h3 .h1 false d53 (.call 39 [r52]),
 .g .h3 .h1 false d54 (.op (.un .not r53)),
 o d55 (.pick r49 (.c (.bool true)) r54)]) (.ag k26_5 .skip)))) (.ag k26_6 .skip)))))) (.seq (.ag k26_7 (.block 2 (.loop (.ag k26_8 (.seq (.block 3 (.ag k26_9 (.seq (.ops [of d64 0 r6,
 ol d65 r64,
 o d66 (.cB 9 1 1 [iS] [.mk 0 1 r65]),
 oc d67 39 [r66],
 o d68 (.un .not r67),
 m d69 r68,
 .g .h4 .h5 false d70 (.op (.ly 1 r6)),
 .g .h4 .h5 false d71 (.op (.jV r70)),
 .g .h4 .h5 false d72 (.call 40 [r71]),
 .g .h4 .h5 false d73 (.op (.un .not r72)),
 o d74 (.pick r69 (.c (.bool true)) r73)]) (.ag k26_10 .skip)))) (.ag k26_11 .skip)))))) (.ag k26_12 .skip)))))
def f26 : AF := .mk x26 [.t .h0 .h2]
def pd : KF := K3 y0 y1 y6 fun c i x h a b d=>
 Q d i0 h fun e h=>
 I e (.ret T9 h) (J a h fun f h=>
 A 0 f h fun g h=>
 L g h fun j h=>
 tR (cK (.toInt .u8) b h) fun k h=>
 tR (bs 5 1 1 [(.int .u8 (.ofNat 0))] [.mk 0 1 (.c k)] h) fun l h=>
 tR (dW 5 1 j l h) fun m h=>
 J a h fun n h=>
 A 0 n h fun o h=>
 W o m h fun p h=>
 tR (bK .shr b (.int .u64 (.ofNat 8)) h) fun q h=>
 Z d i1 h fun s h=>
 .go 0 (T42 a q s) h)
def k27_0 : KF := K3 y0 y1 y2 fun c i x h a b d=>
 x (T42 a b d) h
def x27 : AC := (.scope (.ag k27_0 (.seq (.label 0) (.ag pd .skip))))
def f27 : AF := .mk x27 []
def k28_0 : KF := K2 y0 y1 fun c i x h a b=>
 tR (cK (.toInt .u64) b h) fun d h=>
 C c 27 [a,d,(pi 2)] h fun e h=>
 .nm T9 h
def x28 : AC := (.ag k28_0 .skip)
def f28 : AF := .mk x28 []
def k29_0 : KF := K1 y0 fun c i x h a=>
 tR (bK (.jW .s) a .ak h) fun b h=>
 I b (.ret (T5 .ak) h) (tR (bs 5 1 0 [] [] h) fun d h=>
 tR (dW 5 1 d a h) fun e h=>
 .ret (T5 e) h)
def x29 : AC := (.ag k29_0 .skip)
def f29 : AF := .mk x29 [.t .h0 .h2]
def k37_0 : KF := K2 y0 y1 fun c i x h a b=>
 tR (bs 5 1 0 [] [] h) fun d h=>
 tR (dW 5 1 d a h) fun e h=>
 tR (cK (.toInt .u8) b h) fun f h=>
 tR (bK .shr b (.int .u64 (.ofNat 8)) h) fun g h=>
 tR (cK (.toInt .u8) g h) fun j h=>
 tR (bs 5 1 2 [(.int .u8 (.ofNat 0)),(.int .u8 (.ofNat 0))] [.mk 0 1 (.c f),.mk 1 1 (.c j)] h) fun k h=>
 tR (dW 5 1 e k h) fun l h=>
 .ret (T30 l) h
def x37 : AC := (.ag k37_0 .skip)
def f37 : AF := .mk x37 [.t .h0 .h4]
def vC : KF := K3 y5 y6 y7 fun c i x h a b d=>
 D d i1 h fun e h=>
 .nm (T43 a b e) h
def sM : KF := K3 y5 y6 y7 fun c i x h a b d=>
 Y d b h fun e h=>
 I e (X 1 a d h fun f h=>
 L f h fun g h=>
 Y g (ni 2147483647) h fun j h=>
 gD j false (fun k=>k g h) h fun k h=>
 gD j false (fun l=>tR (eN k (pi 2147483647) h) fun m h=>
 l m h) h fun l h=>
 tR (dJ (.c j) (.c (.bool true)) (.c l) .nil h) fun m h=>
 I m (.ret (T5 (.bool false)) h) (x (T43 a b d) h)) (.ex 0 T9 h)
def k38_1 : KF := K1 y0 fun c i x h a=>
 G a h fun b h=>
 x (T43 a b i0) h
def k38_4 : KF := fun c i x r h=>
 .ret (T5 (.bool true)) h
def k38_0 : KF := K1 y0 fun c i x h a=>
 x (T12 a) h
def x38 : AC := (.ag k38_0 (.seq (.ag k38_1 (.block 0 (.loop (.ag sM (.ag vC .skip))))) (.ag k38_4 .skip)))
def f38 : AF := .mk x38 [.t .h0 .h2]
def sN : KF := K3 y5 y6 y7 fun c i x h a b d=>
 Y d b h fun e h=>
 I e (X 1 a d h fun f h=>
 L f h fun g h=>
 tR (hX g h) fun j h=>
 tR (eN j (pi 65535) h) fun k h=>
 I k (.ret (T5 (.bool false)) h) (D d i1 h fun l h=>
 .nm (T43 a b l) h)) (.ex 0 (T43 a b d) h)
def k39_1 : KF := K1 y0 fun c i x h a=>
 G a h fun b h=>
 x (T43 a b i0) h
def k39_3 : KF := fun c i x r h=>
 .ret (T5 (.bool true)) h
def k39_0 : KF := K1 y0 fun c i x h a=>
 x (T12 a) h
def x39 : AC := (.ag k39_0 (.seq (.ag k39_1 (.block 0 (.loop (.ag sN .skip)))) (.ag k39_3 .skip)))
def f39 : AF := .mk x39 [.t .h0 .h2]
def k40_4 : KF := K4 y8 y9 y10 y25 fun c i x h a b d e=>
 I e (.ret (T5 (.bool false)) h) (.nm (T44 a b d) h)
def k40_3 : KF := K3 y8 y9 y10 fun c i x h a b d=>
 X 3 a d h fun e h=>
 M 3 e h fun f h=>
 O 47 3 (.k1 (Y3 i0 i0 iS)) h fun g h=>
 S 3 g f h fun j h=>
 x (T45 g a b d) h
def k40_5 : KF := K3 y8 y9 y10 fun c i x h a b d=>
 D d i1 h fun e h=>
 .nm (T44 a b e) h
def k40_2 : KF := K3 y8 y9 y10 fun c i x h a b d=>
 Y d b h fun e h=>
 I e (x (T44 a b d) h) (.ex 0 T9 h)
def k40_1 : KF := K1 y0 fun c i x h a=>
 G a h fun b h=>
 x (T44 a b i0) h
def k40_6 : KF := fun c i x r h=>
 .ret (T5 (.bool true)) h
def k40_0 : KF := K1 y0 fun c i x h a=>
 G a h fun b h=>
 tR (eN b (pi 255) h) fun d h=>
 I d (.ret (T5 (.bool false)) h) (x (T12 a) h)
def x40 : AC := (.ag k40_0 (.seq (.ag k40_1 (.block 0 (.loop (.ag k40_2 (.seq (.block 1 (.ag k40_3 (.seq (.ops [of d14 0 r4,
 ol d15 r14,
 o d16 (.cB 3 1 1 [i0] [.mk 0 1 r15]),
 oc d17 38 [r16],
 o d18 (.un .not r17),
 m d19 r18,
 .g .h1 .h3 false d20 (.op (.ly 2 r4)),
 .g .h1 .h3 false d21 (.op (.jV r20)),
 .g .h1 .h3 false d22 (.op (.cB 9 1 1 [iS] [.mk 0 1 r21])),
 .g .h1 .h3 false d23 (.call 39 [r22]),
 .g .h1 .h3 false d24 (.op (.un .not r23)),
 o d25 (.pick r19 (.c (.bool true)) r24)]) (.ag k40_4 .skip)))) (.ag k40_5 .skip)))))) (.ag k40_6 .skip)))
def f40 : AF := .mk x40 [.t .h0 .h2]
def k20_4 : KF := K4 y3 y6 y7 y8 fun c i x h a b d e=>
 D e i1 h fun f h=>
 .nm (T46 a b d f) h
def k20_3 : KF := K4 y3 y6 y7 y8 fun c i x h a b d e=>
 X 18 b e h fun f h=>
 M 18 f h fun g h=>
 O 70 18 (.k2 (.mk (.mk i0 i0 i0 i0 i0 i0 iS i0 i0 i0 iS iS .ak .ak i0 i0) (Y2 iS .ak) .nil .nil .nil .nil .nil .nil .nil .nil .nil .nil .nil .nil .nil .nil)) h fun j h=>
 S 18 j g h fun k h=>
 A 0 j h fun l h=>
 L l h fun m h=>
 Q m i1 h fun n h=>
 I n (C c 33 [a,(.str [99,97,108,108,32])] h fun o h=>
 A 1 j h fun p h=>
 L p h fun q h=>
 C c 34 [q] h fun s h=>
 C c 33 [a,s] h fun t h=>
 A 0 j h fun v h=>
 L v h fun w h=>
 Q w (pi 2) h fun y h=>
 I y (M 18 j h fun z h=>
 C c 35 [a,z] h fun a0 h=>
 C c 33 [a,(.str [10])] h fun a1 h=>
 x (T46 a b d e) h) (C c 33 [a,(.str [10])] h fun z h=>
 x (T46 a b d e) h)) (Q m (pi 2) h fun o h=>
 I o (C c 33 [a,(.str [100,111,110,101,32])] h fun p h=>
 A 1 j h fun q h=>
 L q h fun s h=>
 C c 34 [s] h fun t h=>
 C c 33 [a,t] h fun v h=>
 A 0 j h fun w h=>
 L w h fun y h=>
 Q y (pi 2) h fun z h=>
 I z (M 18 j h fun a0 h=>
 C c 35 [a,a0] h fun a1 h=>
 C c 33 [a,(.str [10])] h fun a2 h=>
 x (T46 a b d e) h) (C c 33 [a,(.str [10])] h fun a0 h=>
 x (T46 a b d e) h)) (Q m (pi 3) h fun p h=>
 I p (C c 33 [a,(.str [98,117,115,121,32])] h fun q h=>
 A 1 j h fun s h=>
 L s h fun t h=>
 C c 34 [t] h fun v h=>
 C c 33 [a,v] h fun w h=>
 A 0 j h fun y h=>
 L y h fun z h=>
 Q z (pi 2) h fun a0 h=>
 I a0 (M 18 j h fun a1 h=>
 C c 35 [a,a1] h fun a2 h=>
 C c 33 [a,(.str [10])] h fun a3 h=>
 x (T46 a b d e) h) (C c 33 [a,(.str [10])] h fun a1 h=>
 x (T46 a b d e) h)) (x (T46 a b d e) h)))
def k20_2 : KF := K4 y3 y6 y7 y8 fun c i x h a b d e=>
 Y e d h fun f h=>
 I f (x (T46 a b d e) h) (.ex 0 (T7 a) h)
def k20_1 : KF := K2 y0 y3 fun c i x h a b=>
 G a h fun d h=>
 x (T46 b a d i0) h
def k20_5 : KF := K1 y3 fun c i x h a=>
 C c 36 [a] h fun b h=>
 .ret (T5 b) h
def k20_0 : KF := K1 y0 fun c i x h a=>
 O 89 2 (.k1 (Y2 .ct .ak)) h fun b h=>
 x (T19 a b) h
def x20 : AC := (.ag k20_0 (.seq (.ag k20_1 (.block 0 (.loop (.ag k20_2 (.ag k20_3 (.ag k20_4 .skip)))))) (.ag k20_5 .skip)))
def f20 : AF := .mk x20 [.t .h0 .h2]
def k33_0 : KF := K2 y0 y1 fun c i x h a b=>
 C c 54 [a] h fun d h=>
 J a h fun e h=>
 A 1 e h fun f h=>
 L f h fun g h=>
 tR (hY 5 (.c g) (.c b) .nil h) fun j h=>
 J a h fun k h=>
 A 1 k h fun l h=>
 W l j h fun m h=>
 tR (hX b h) fun n h=>
 .ret (T47 n .vD) h
def x33 : AC := (.ag k33_0 .skip)
def f33 : AF := .mk x33 [.t .h0 .h4,.t .h0 .h5]
def k34_0 : KF := K1 y0 fun c i x h a=>
 C c 55 [a] h fun b h=>
 .ret (T5 b) h
def x34 : AC := (.ag k34_0 .skip)
def f34 : AF := .mk x34 [.t .h0 .h2]
def k35_5 : KF := K9 y0 y5 y6 y28 y29 y30 y35 y36 y37 fun c i x h a b d e f g j k l=>
 Y l k h fun m h=>
 I m (X 3 j l h fun n h=>
 M 3 n h fun o h=>
 O 47 3 (.k1 (Y3 i0 i0 iS)) h fun p h=>
 S 3 p o h fun q h=>
 M 3 p h fun s h=>
 C c 56 [s] h fun t h=>
 tR (bs 9 1 1 [iS] [.mk 0 1 (.c t)] h) fun v h=>
 tR (dW 9 1 d v h) fun w h=>
 D l i1 h fun y h=>
 .nm (T50 a b w e f g j k y) h) (.ex 2 (T50 a b d e f g j k l) h)
def k35_4 : KF := K6 y0 y5 y6 y28 y29 y30 fun c i x h a b d e f g=>
 A 0 b h fun j h=>
 L j h fun k h=>
 G k h fun l h=>
 x (T50 a b d e f g k l i0) h
def k35_3 : KF := K4 y0 y28 y29 y30 fun c i x h a b d e=>
 X 2 b e h fun f h=>
 M 2 f h fun g h=>
 O 123 2 (.k1 (Y2 .ak (.fZ .f64 0 0))) h fun j h=>
 S 2 j g h fun k h=>
 x (T49 a j .ak b d e) h
def k35_6 : KF := K4 y0 y28 y29 y30 fun c i x h a b d e=>
 D e i1 h fun f h=>
 .nm (T48 a b d f) h
def k35_2 : KF := K4 y0 y28 y29 y30 fun c i x h a b d e=>
 Y e d h fun f h=>
 I f (x (T48 a b d e) h) (.ex 0 T9 h)
def k35_1 : KF := K2 y0 y3 fun c i x h a b=>
 A 17 b h fun d h=>
 L d h fun e h=>
 G e h fun f h=>
 x (T48 a e f i0) h
def k35_0 : KF := K2 y0 y1 fun c i x h a b=>
 B 70 b h fun d h=>
 x (T19 a d) h
def x35 : AC := (.ag k35_0 (.seq (.pL [qf 0 d10 14 r3,
 qf 0 d11 0 r10,
 ql 0 d12 r11,
 w (oc d13 34 [r12]),
 qf 1 d16 14 r3,
 qf 1 d17 1 r16,
 ql 1 d18 r17,
 w (oc d19 34 [r18]),
 q 2 (m d9 r0),
 q 1 (o d14 (.bin .cat (.c (.str [32])) r13)),
 q 1 (o d15 (.bin .cat r14 (.c (.str [32])))),
 q 0 (o d20 (.bin .cat r15 r19)),
 q 0 (o d21 (.bin .cat r20 (.c (.str [32])))),
 qf 2 d22 14 r3,
 qf 2 d23 2 r22,
 ql 2 d24 r23,
 q 0 (o d25 (.bin .cat r21 r24)),
 w (oc d26 33 [r9,r25])]) (.ag k35_1 (.block 0 (.loop (.ag k35_2 (.seq (.block 1 (.ag k35_3 (.seq (.ag k35_4 (.block 2 (.loop (.ag k35_5 .skip)))) (.pL [q 0 (m d48 r6),
 w (oc d49 57 [r48,(.c (.str [32]))]),
 qf 1 d52 1 r5,
 ql 1 d53 r52,
 w (oc d54 59 [r53]),
 w (oc d55 58 [r54,(.c (pi 10))]),
 q 3 (m d47 r0),
 q 2 (o d50 (.bin .cat (.c (.str [32,91])) r49)),
 q 2 (o d51 (.bin .cat r50 (.c (.str [93,42])))),
 q 0 (o d56 (.bin .cat r51 r55)),
 w (oc d57 33 [r47,r56])])))) (.ag k35_6 .skip))))))))
def f35 : AF := .mk x35 []
def k36_0 : KF := K1 y0 fun c i x h a=>
 tQ (nC a h) fun b=>
 tQ (fA 1 b h) fun d=>
 tQ (lD d h) fun e=>
 tQ (jX (.c e) .nil h) fun f=>
 tQ (nC a h) fun g=>
 tQ (fA 1 g h) fun j=>
 tQ (lD j h) fun k=>
 tQ (len k h) fun l=>
 tX (RV.kW (lX 5 (.c f) (.c l) .nil h)) fun m h=>
 .ret (T5 m) h
def x36 : AC := (.ag k36_0 .skip)
def f36 : AF := .mk x36 [.t .h0 .h2]
def k54_1 : KF := K1 y0 fun c i x h a=>
 tR (cK .Oz a h) fun b h=>
 C c 79 [b] h fun d h=>
 tR (cK (.CG 89 2) d h) fun e h=>
 J a h fun f h=>
 A 0 f h fun g h=>
 W g e h fun j h=>
 .nm T9 h
def k54_2 : KF := K1 y0 fun c i x h a=>
 J a h fun b h=>
 A 0 b h fun d h=>
 L d h fun e h=>
 tR (bK .OE e a h) fun f h=>
 x (T51 f) h
def k54_0 : KF := K1 y0 fun c i x h a=>
 J a h fun b h=>
 A 0 b h fun d h=>
 L d h fun e h=>
 tR (bK .nS e .ct h) fun f h=>
 x (T14 a f) h
def x54 : AC := (.ag k54_0 (.cond r6 (.ag k54_1 .skip) (.ag k54_2 (.cond r19 (.bad 403) .skip))))
def f54 : AF := .mk x54 []
def k55_0 : KF := K1 y0 fun c i x h a=>
 C c 80 [a,(pi 10)] h fun b h=>
 .ret (T5 b) h
def x55 : AC := (.ag k55_0 .skip)
def f55 : AF := .mk x55 [.t .h0 .h2]
def k80_4 : KF := K4 y0 y5 y6 y7 fun c i x h a b d e=>
 D i1 e h fun f h=>
 tR (jc 24 1 (.c b) (.some (.c i1)) (.some (.c f)) .none .nil h) fun g h=>
 C c 113 [g,d] h fun j h=>
 Y a i0 h fun k h=>
 I k (tR (Kw 24 1 b i0 h) fun l h=>
 W l (.int .u8 (.ofNat 45)) h fun m h=>
 D i1 e h fun n h=>
 tR (jc 24 1 (.c b) .none (.some (.c n)) .none .nil h) fun o h=>
 tR (cK .Hl o h) fun p h=>
 .ret (T30 p) h) (D i1 e h fun l h=>
 tR (jc 24 1 (.c b) (.some (.c i1)) (.some (.c l)) .none .nil h) fun m h=>
 tR (cK .Hl m h) fun n h=>
 .ret (T30 n) h)
def k80_3 : KF := K1 y0 fun c i x h a=>
 O 213 24 (.k2 (.mk (.mk (.int .u8 (.ofNat 0)) (.int .u8 (.ofNat 0)) (.int .u8 (.ofNat 0)) (.int .u8 (.ofNat 0)) (.int .u8 (.ofNat 0)) (.int .u8 (.ofNat 0)) (.int .u8 (.ofNat 0)) (.int .u8 (.ofNat 0)) (.int .u8 (.ofNat 0)) (.int .u8 (.ofNat 0)) (.int .u8 (.ofNat 0)) (.int .u8 (.ofNat 0)) (.int .u8 (.ofNat 0)) (.int .u8 (.ofNat 0)) (.int .u8 (.ofNat 0)) (.int .u8 (.ofNat 0))) (Y8 (.int .u8 (.ofNat 0)) (.int .u8 (.ofNat 0)) (.int .u8 (.ofNat 0)) (.int .u8 (.ofNat 0)) (.int .u8 (.ofNat 0)) (.int .u8 (.ofNat 0)) (.int .u8 (.ofNat 0)) (.int .u8 (.ofNat 0))) .nil .nil .nil .nil .nil .nil .nil .nil .nil .nil .nil .nil .nil .nil)) h fun b h=>
 tR (cK (.toInt .u64) a h) fun d h=>
 Y a i0 h fun e h=>
 I e (tR (zh d h) fun f h=>
 C c 112 [f] h fun g h=>
 x (T54 a b f g) h) (C c 112 [d] h fun f h=>
 x (T54 a b d f) h)
def k80_2 : KF := K1 y0 fun c i x h a=>
 tR (AH i0 a h) fun b h=>
 gD b true (fun d=>d a h) h fun d h=>
 gD b true (fun e=>Y d (pi 100) h fun f h=>
 e f h) h fun e h=>
 tR (dJ (.c b) (.c e) (.c (.bool false)) .nil h) fun f h=>
 I f (C c 111 [a] h fun g h=>
 .ret (T30 g) h) (x (T12 a) h)
def k80_1 : KF := K2 y0 y1 fun c i x h a b=>
 Q b (pi 10) h fun d h=>
 x (T53 a b d) h
def k80_5 : KF := K2 y0 y1 fun c i x h a b=>
 tR (cK (.toInt .u64) a h) fun d h=>
 Y a i0 h fun e h=>
 C c 114 [.ak,d,b,e,(.bool false)] h fun f h=>
 E 0 f h fun g h=>
 E 1 f h fun j h=>
 .ret (T30 j) h
def k80_0 : KF := K2 y0 y1 fun c i x h a b=>
 x (T52 a b) h
def x80 : AC := (.ag k80_0 (.seq (.ag k80_1 (.cond r11 (.ag k80_2 (.ag k80_3 (.ag k80_4 .skip))) .skip)) (.ag k80_5 .skip)))
def f80 : AF := .mk x80 [.t .h0 .h4]
def k111_0 : KF := K1 y0 fun c i x h a=>
 Y a (pi 10) h fun b h=>
 I b (D a i1 h fun d h=>
 tR (eO (.c (.str [48,49,50,51,52,53,54,55,56,57,97,98,99,100,101,102,103,104,105,106,107,108,109,110,111,112,113,114,115,116,117,118,119,120,121,122])) (.some (.c a)) (.some (.c d)) .nil h) fun e h=>
 .ret (T5 e) h) (tR (sJ a (pi 2) h) fun d h=>
 tR (sJ a (pi 2) h) fun e h=>
 D e (pi 2) h fun f h=>
 tR (eO (.c (.str [48,48,48,49,48,50,48,51,48,52,48,53,48,54,48,55,48,56,48,57,49,48,49,49,49,50,49,51,49,52,49,53,49,54,49,55,49,56,49,57,50,48,50,49,50,50,50,51,50,52,50,53,50,54,50,55,50,56,50,57,51,48,51,49,51,50,51,51,51,52,51,53,51,54,51,55,51,56,51,57,52,48,52,49,52,50,52,51,52,52,52,53,52,54,52,55,52,56,52,57,53,48,53,49,53,50,53,51,53,52,53,53,53,54,53,55,53,56,53,57,54,48,54,49,54,50,54,51,54,52,54,53,54,54,54,55,54,56,54,57,55,48,55,49,55,50,55,51,55,52,55,53,55,54,55,55,55,56,55,57,56,48,56,49,56,50,56,51,56,52,56,53,56,54,56,55,56,56,56,57,57,48,57,49,57,50,57,51,57,52,57,53,57,54,57,55,57,56,57,57])) (.some (.c d)) (.some (.c f)) .nil h) fun g h=>
 .ret (T5 g) h)
def x111 : AC := (.ag k111_0 .skip)
def f111 : AF := .mk x111 [.t .h0 .h2]
def k7_0 : KF := fun c i x r h=>
 C c 19 [(pi 3),.ak] h fun a h=>
 O 62 3 (.k1 (Y3 i0 .ak .ak)) h fun b h=>
 S 3 b a h fun d h=>
 x (T23 b) h
def x7 : AC := (.ag k7_0 (.seq (.ops [of d3 0 r1,
 ol d4 r3,
 o d5 (.bin .eq r4 a0),
 m d6 r5,
 .g .h0 .h6 true d7 (.op (.ly 1 r1)),
 .g .h0 .h6 true d8 (.op (.jV r7)),
 .g .h0 .h6 true d9 (.op (.len r8)),
 .g .h0 .h6 true d10 (.op (.bin .eq r9 a0)),
 o d11 (.pick r6 r10 (.c (.bool false))),
 m d12 r11,
 .g .h0 .hc true d13 (.op (.ly 2 r1)),
 .g .h0 .hc true d14 (.op (.jV r13)),
 .g .h0 .hc true d15 (.op (.len r14)),
 .g .h0 .hc true d16 (.op (.bin .eq r15 a0)),
 o d17 (.pick r12 r16 (.c (.bool false))),
 m d18 r17,
 .g .h1 .h2 true d19 (.op (.build [i0,i0,i0,i0,i0,i0,iS,i0,i0,i0,iS,iS,.ak,.ak,i0,i0,iS,.ak] [.mk 0 1 a2,.mk 1 1 (.c (pi 3))])),
 .g .h1 .h2 true d20 (.op (.cB 70 18 1 [i0,i0,i0,i0,i0,i0,iS,i0,i0,i0,iS,iS,.ak,.ak,i0,i0,iS,.ak] [.mk 0 18 r19])),
 .g .h1 .h2 true d21 (.call 20 [r20]),
 .g .h1 .h2 true d22 (.op (.bin .seq r21 (.c (.str [100,111,110,101,32,51,32,48,32,48,32,10])))),
 o d23 (.pick r18 r22 (.c (.bool false))),
 m d0 r23]) .ret))
def f7 : AF := .mk x7 [.t .h0 .h0]
def k19_3 : KF := K5 y1 y4 y5 y7 y8 fun c i x h a b d e f=>
 D f i1 h fun g h=>
 .nm (T56 a b d e g) h
def k19_2 : KF := K5 y1 y4 y5 y7 y8 fun c i x h a b d e f=>
 G a h fun g h=>
 Y f g h fun j h=>
 gD j true (fun k=>k f h) h fun k h=>
 gD j true (fun l=>Y k (pi 2048) h fun m h=>
 l m h) h fun l h=>
 tR (dJ (.c j) (.c l) (.c (.bool false)) .nil h) fun m h=>
 I m (x (T56 a b d e f) h) (.ex 0 (T57 b d e) h)
def k19_1 : KF := K4 y1 y4 y5 y7 fun c i x h a b d e=>
 x (T56 a b d e i0) h
def k19_4 : KF := K3 y4 y5 y7 fun c i x h a b d=>
 C c 32 [b] h fun e h=>
 A 2 d h fun f h=>
 W f e h fun g h=>
 M 3 d h fun j h=>
 S 3 a j h fun k h=>
 .ret (T30 a) h
def k19_0 : KF := K2 y0 y1 fun c i x h a b=>
 O 62 3 (.k1 (Y3 i0 .ak .ak)) h fun d h=>
 C c 30 [a] h fun e h=>
 E 0 e h fun f h=>
 E 1 e h fun g h=>
 tR (Hm g i0 h) fun j h=>
 I j (U [i0,.ak,.ak] [.mk 0 1 (.c g)] h fun k h=>
 S 3 d k h fun l h=>
 .ret (T30 d) h) (O 62 3 (.k1 (Y3 i0 .ak .ak)) h fun k h=>
 x (T55 b d f k) h)
def x19 : AC := (.ag k19_0 (.seq (.ag k19_1 (.block 0 (.loop (.ag k19_2 (.seq (.block 1 (.pL [q 0 (m d30 r5),
 q 0 (m d31 r1),
 q 0 (m d32 r8),
 q 0 (o d33 (.My 12 r31 r32)),
 q 0 (o d34 (.xV 12 r33)),
 w (oc d35 31 [r30,r34]),
 qf 1 d28 1 r7,
 ql 1 d29 r28,
 w (o d36 (.app 70 18 r29 r35)),
 qf 0 d37 1 r7,
 w (os r37 r36)])) (.ag k19_3 .skip)))))) (.ag k19_4 .skip)))
def f19 : AF := .mk x19 [.agg 3 .h0 .h4]
def k30_3 : KF := K3 y6 y21 y22 fun c i x h a b d=>
 D d i1 h fun e h=>
 .nm (T58 a b e) h
def k30_2 : KF := K3 y6 y21 y22 fun c i x h a b d=>
 Y d b h fun e h=>
 I e (x (T58 a b d) h) (.ex 0 (T16 a) h)
def k30_1 : KF := K2 y0 y6 fun c i x h a b=>
 x (T58 b a i0) h
def k30_4 : KF := K1 y6 fun c i x h a=>
 .ret (T11 a i0) h
def k30_0 : KF := K1 y0 fun c i x h a=>
 C c 41 [a] h fun b h=>
 E 0 b h fun d h=>
 E 1 b h fun e h=>
 tR (Hm e i0 h) fun f h=>
 I f (.ret (T11 .ct e) h) (tR (gp 3 [i0] (.c a) (.c a) .nil h) fun g h=>
 U [.ct,i0,.ak,.ak,(.bool false),(.bool false),i0,i0,i0,i0,i0,iS,i0,i0,i0,iS,iS,.ak,.ak,iS,i0,i0,(.bool false),(.bool false),i0,i0,i0,i0,i0,iS,i0,i0,i0,iS,iS,.ak,.ak,iS,i0,i0,(.bool false),(.bool false),i0,i0,i0,i0,i0,iS,i0,i0,i0,iS,iS,.ak,.ak,iS,i0,i0,(.bool false),(.bool false),i0,i0,i0,i0,i0,iS,i0,i0,i0,iS,iS,.ak,.ak,iS,i0,i0,(.bool false),(.bool false),i0,i0,i0,i0,i0,iS,i0,i0,i0,iS,iS,.ak,.ak,iS,i0,i0,(.bool false),(.bool false),i0,i0,i0,i0,i0,iS,i0,i0,i0,iS,iS,.ak,.ak,iS,i0,i0,(.bool false),(.bool false),i0,i0,i0,i0,i0,iS,i0,i0,i0,iS,iS,.ak,.ak,iS,i0,i0,(.bool false),(.bool false),i0,i0,i0,i0,i0,iS,i0,i0,i0,iS,iS,.ak,.ak,iS,i0,i0,(.bool false),(.bool false),i0,i0,i0,i0,i0,iS,i0,i0,i0,iS,iS,.ak,.ak,iS,i0,i0,(.bool false),(.bool false),i0,i0,i0,i0,i0,iS,i0,i0,i0,iS,iS,.ak,.ak,iS,i0,i0,(.bool false),(.bool false),i0,i0,i0,i0,i0,iS,i0,i0,i0,iS,iS,.ak,.ak,iS,i0,i0,(.bool false),(.bool false),i0,i0,i0,i0,i0,iS,i0,i0,i0,iS,iS,.ak,.ak,iS,i0,i0,(.bool false),(.bool false),i0,i0,i0,i0,i0,iS,i0,i0,i0,iS,iS,.ak,.ak,iS,i0,i0,(.bool false),(.bool false),i0,i0,i0,i0,i0,iS,i0,i0,i0,iS,iS,.ak,.ak,iS,i0,i0,(.bool false),(.bool false),i0,i0,i0,i0,i0,iS,i0,i0,i0,iS,iS,.ak,.ak,iS,i0,i0,(.bool false),(.bool false),i0,i0,i0,i0,i0,iS,i0,i0,i0,iS,iS,.ak,.ak,iS,i0,i0,i0,.ak] [.mk 0 1 (.c d),.mk 1 1 (.c a),.mk 3 1 (.c g)] h fun j h=>
 B 109 j h fun k h=>
 x (T14 a k) h)
def x30 : AC := (.ag k30_0 (.seq (.ag k30_1 (.block 0 (.loop (.ag k30_2 (.seq (.block 1 (.pL [w (oc d29 42 []),
 w (o d30 (.cB 110 1 1 [.ct] [.mk 0 1 r29])),
 q 2 (m d25 r6),
 qj 2 d26 r25,
 qf 2 d27 2 r26,
 ql 2 d28 r27,
 w (o d31 (.app 110 1 r28 r30)),
 q 3 (m d24 r6),
 qj 0 d32 r24,
 qf 0 d33 2 r32,
 w (os r33 r31)])) (.ag k30_3 .skip)))))) (.ag k30_4 .skip)))
def f30 : AF := .mk x30 [.t .h0 .h2,.t .h0 .h3]
def k32_2 : KF := K3 y3 y9 y10 fun c i x h a b d=>
 Y d (pi 16) h fun e h=>
 I e (tR (lY 16 18 true (.c b) (.c d) .nil h) fun f h=>
 O 106 18 (.k2 (.mk (.mk (.bool false) (.bool false) i0 i0 i0 i0 i0 iS i0 i0 i0 iS iS .ak .ak iS) (Y2 i0 i0) .nil .nil .nil .nil .nil .nil .nil .nil .nil .nil .nil .nil .nil .nil)) h fun g h=>
 S 18 g f h fun j h=>
 A 0 g h fun k h=>
 L k h fun l h=>
 I l (tR (bs 3 1 1 [i0] [.mk 0 1 (.c d)] h) fun m h=>
 tR (dW 3 1 a m h) fun n h=>
 D d i1 h fun o h=>
 .nm (T59 n b o) h) (D d i1 h fun m h=>
 .nm (T59 a b m) h)) (.ex 0 (T59 a b d) h)
def k32_1 : KF := K2 y0 y3 fun c i x h a b=>
 J a h fun d h=>
 A 4 d h fun e h=>
 M 288 e h fun f h=>
 x (T59 b f i0) h
def k32_3 : KF := K1 y3 fun c i x h a=>
 .ret (T5 a) h
def k32_0 : KF := K1 y0 fun c i x h a=>
 x (T19 a .ak) h
def x32 : AC := (.ag k32_0 (.seq (.ag k32_1 (.block 0 (.loop (.ag k32_2 .skip)))) (.ag k32_3 .skip)))
def f32 : AF := .mk x32 [.t .h0 .h2]
def k41_1 : KF := K1 y0 fun c i x h a=>
 U [i0,iS,.ak,i0,iS,.ak,i0,iS,.ak,i0,iS,.ak,i0,iS,.ak,.ak] [] h fun b h=>
 B 135 b h fun d h=>
 U [.ct,.ct] [.mk 1 1 (.c d)] h fun e h=>
 B 138 e h fun f h=>
 J f h fun g h=>
 A 1 g h fun j h=>
 L j h fun k h=>
 C c 60 [a,(.iface 130 k)] h fun l h=>
 J f h fun m h=>
 A 0 m h fun n h=>
 W n l h fun o h=>
 .ret (T11 f i0) h
def k41_0 : KF := K1 y0 fun c i x h a=>
 Y a i1 h fun b h=>
 gD b false (fun d=>d a h) h fun d h=>
 gD b false (fun e=>tR (eN d (pi 5) h) fun f h=>
 e f h) h fun e h=>
 tR (dJ (.c b) (.c (.bool true)) (.c e) .nil h) fun f h=>
 I f (.ret (T11 .ct i1) h) (x (T12 a) h)
def x41 : AC := (.ag k41_0 (.ag k41_1 .skip))
def f41 : AF := .mk x41 [.t .h0 .h2,.t .h0 .h3]
def k42_0 : KF := fun c i x r h=>
 C c 61 [] h fun a h=>
 U [.ct,i0] [.mk 0 1 (.c a)] h fun b h=>
 B 143 b h fun d h=>
 .ret (T12 d) h
def x42 : AC := (.ag k42_0 .skip)
def f42 : AF := .mk x42 [.t .h0 .h0]
def k60_3 : KF := K3 y5 y12 y13 fun c i x h a b d=>
 x (T63 a d b d) h
def k60_4 : KF := K3 y5 y12 y13 fun c i x h a b d=>
 D d i1 h fun e h=>
 .nm (T61 a b e) h
def k60_2 : KF := K3 y5 y12 y13 fun c i x h a b d=>
 Y d b h fun e h=>
 I e (x (T61 a b d) h) (.ex 0 (T62 a) h)
def k60_1 : KF := K2 y0 y5 fun c i x h a b=>
 x (T61 b a i0) h
def k60_6 : KF := K4 y5 y34 y35 y36 fun c i x h a b d e=>
 Y e d h fun f h=>
 I f (X 1 b e h fun g h=>
 L g h fun j h=>
 C c 85 [j,(.bool false)] h fun k h=>
 D e i1 h fun l h=>
 .nm (T64 a b d l) h) (.ex 2 (T64 a b d e) h)
def k60_5 : KF := K1 y5 fun c i x h a=>
 J a h fun b h=>
 A 1 b h fun d h=>
 L d h fun e h=>
 G e h fun f h=>
 x (T64 a e f i0) h
def k60_7 : KF := K1 y5 fun c i x h a=>
 .ret (T30 a) h
def k60_0 : KF := K2 y0 y1 fun c i x h a b=>
 U [.ak,.ak,.vD] [.mk 2 1 (.c b)] h fun d h=>
 B 163 d h fun e h=>
 x (T60 a e) h
def x60 : AC := (.ag k60_0 (.seq (.ag k60_1 (.block 0 (.loop (.ag k60_2 (.seq (.block 1 (.ag k60_3 (.pL [w (oc d23 84 []),
 q 1 (m d21 r5),
 q 1 (m d22 r6),
 q 0 (o d24 (.build [.ct,i0,.ct,i0,(.bool false),i0,i0,.ct,.ct,.ct,i0,.jQ,i0,i0,i0,.jQ,iS,.ak,i0,i0,.jQ,i0,i0,i0,(.bool false)] [.mk 0 1 r21,.mk 1 1 r22,.mk 2 1 r23])),
 w (o d25 (.box 177 r24)),
 w (o d26 (.cB 164 1 1 [.ct] [.mk 0 1 r25])),
 q 3 (m d17 r5),
 qj 3 d18 r17,
 qf 3 d19 1 r18,
 ql 3 d20 r19,
 w (o d27 (.app 164 1 r20 r26)),
 q 4 (m d16 r5),
 qj 0 d28 r16,
 qf 0 d29 1 r28,
 w (os r29 r27)]))) (.ag k60_4 .skip)))))) (.seq (.ag k60_5 (.block 2 (.loop (.ag k60_6 .skip)))) (.ag k60_7 .skip))))
def f60 : AF := .mk x60 [.t .h0 .h4]
def k61_0 : KF := fun c i x r h=>
 C c 86 [] h fun a h=>
 tR (Oh h) fun b h=>
 C c 87 [] h fun d h=>
 U [.ct,.ak,.jQ,.ct] [.mk 0 1 (.c a),.mk 2 1 (.c b),.mk 3 1 (.c d)] h fun e h=>
 B 186 e h fun f h=>
 .ret (T12 f) h
def x61 : AC := (.ag k61_0 .skip)
def f61 : AF := .mk x61 [.t .h0 .h0]
def k84_0 : KF := fun c i x r h=>
 U [.ak,i0] [] h fun a h=>
 B 221 a h fun b h=>
 .ret (T12 b) h
def x84 : AC := (.ag k84_0 .skip)
def f84 : AF := .mk x84 [.t .h0 .h0]
def k85_6 : KF := K4 y0 y81 y82 y83 fun c i x h a b d e=>
 Y e d h fun f h=>
 I f (X 1 b e h fun g h=>
 L g h fun j h=>
 C c 124 [j] h fun k h=>
 C c 123 [a,k] h fun l h=>
 D e i1 h fun m h=>
 .nm (T66 a b d m) h) (.ex 0 (T66 a b d e) h)
def k85_5 : KF := K2 y0 y4 fun c i x h a b=>
 G b h fun d h=>
 x (T66 a b d i0) h
def k85_9 : KF := K1 y0 fun c i x h a=>
 C c 126 [a] h fun b h=>
 .nm T9 h
def k85_8 : KF := K1 y0 fun c i x h a=>
 tQ (nC a h) fun b=>
 tQ (fA 0 b h) fun d=>
 tQ (lD d h) fun e=>
 tQ (nC e h) fun f=>
 tQ (fA 2 f h) fun g=>
 tQ (lD g h) fun j=>
 tQ (nC a h) fun k=>
 tQ (fA 1 k h) fun l=>
 tQ (lD l h) fun m=>
 tQ (nC a h) fun n=>
 tQ (fA 13 n h) fun o=>
 tQ (fA 1 o h) fun p=>
 tQ (lD p h) fun q=>
 tQ (nC a h) fun s=>
 tQ (fA 13 s h) fun t=>
 tQ (fA 3 t h) fun v=>
 tQ (lD v h) fun w=>
 tQ (nC j h) fun y=>
 tX (i 0 j [m,q,w] h) fun z h=>
 x (T12 a) h
def k85_7 : KF := K1 y0 fun c i x h a=>
 J a h fun b h=>
 A 6 b h fun d h=>
 L d h fun e h=>
 D e i1 h fun f h=>
 J a h fun g h=>
 A 6 g h fun j h=>
 W j f h fun k h=>
 C c 125 [a] h fun l h=>
 x (T12 a) h
def k85_4 : KF := K1 y0 fun c i x h a=>
 J a h fun b h=>
 A 2 b h fun d h=>
 L d h fun e h=>
 C c 122 [e] h fun f h=>
 C c 121 [f] h fun g h=>
 E 0 g h fun j h=>
 E 1 g h fun k h=>
 x (T65 a j) h
def k85_3 : KF := K2 y0 y1 fun c i x h a b=>
 J a h fun d h=>
 A 3 d h fun e h=>
 L e h fun f h=>
 J a h fun g h=>
 A 19 g h fun j h=>
 W j i0 h fun k h=>
 J a h fun l h=>
 A 22 l h fun m h=>
 W m i0 h fun n h=>
 J a h fun o h=>
 A 23 o h fun p h=>
 W p f h fun q h=>
 J a h fun s h=>
 A 24 s h fun t h=>
 W t b h fun v h=>
 x (T12 a) h
def k85_2 : KF := K2 y0 y1 fun c i x h a b=>
 U [i0,i0,.jQ,iS] [] h fun d h=>
 J a h fun e h=>
 A 13 e h fun f h=>
 S 4 f d h fun g h=>
 x (T52 a b) h
def k85_1 : KF := K2 y0 y1 fun c i x h a b=>
 tR (Oh h) fun d h=>
 J a h fun e h=>
 A 11 e h fun f h=>
 W f d h fun g h=>
 J a h fun j h=>
 A 17 j h fun k h=>
 W k .ak h fun l h=>
 J a h fun m h=>
 A 18 m h fun n h=>
 W n i0 h fun o h=>
 J a h fun p h=>
 A 6 p h fun q h=>
 W q i0 h fun s h=>
 J a h fun t h=>
 A 10 t h fun v h=>
 W v i0 h fun w h=>
 J a h fun y h=>
 A 12 y h fun z h=>
 W z i0 h fun a0 h=>
 x (T52 a b) h
def k85_0 : KF := K2 y0 y1 fun c i x h a b=>
 J a h fun d h=>
 A 4 d h fun e h=>
 W e (.bool true) h fun f h=>
 x (T52 a b) h
def x85 : AC := (.ag k85_0 (.seq (.pL [w (oc d14 117 []),
 w (oc d15 118 []),
 q 2 (m d20 r0),
 qj 2 d21 r20,
 qf 2 d22 0 r21,
 ql 2 d23 r22,
 w (oc d24 120 [r23]),
 q 3 (m d16 r0),
 qj 3 d17 r16,
 qf 3 d18 1 r17,
 ql 3 d19 r18,
 w (oc d25 119 [r19,r24]),
 q 4 (m d11 r0),
 qj 0 d26 r11,
 qf 0 d27 7 r26,
 w (os r27 r14),
 q 5 (m d12 r0),
 qj 0 d28 r12,
 qf 0 d29 9 r28,
 w (os r29 r15),
 q 6 (m d13 r0),
 qj 0 d30 r13,
 qf 0 d31 8 r30,
 w (os r31 r25)]) (.ag k85_1 (.ag k85_2 (.ag k85_3 (.ag k85_4 (.seq (.ag k85_5 (.block 0 (.loop (.ag k85_6 .skip)))) (.ag k85_7 (.ag k85_8 (.ag k85_9 .skip))))))))))
def f85 : AF := .mk x85 []
def k86_0 : KF := fun c i x r h=>
 U [.ak,.ak] [] h fun a h=>
 B 234 a h fun b h=>
 .ret (T12 b) h
def x86 : AC := (.ag k86_0 .skip)
def f86 : AF := .mk x86 [.t .h0 .h0]
def k87_0 : KF := fun c i x r h=>
 U [i0,i0,i0,iS,i0,i0,i0,iS,i0,i0,i0,iS,i0,i0,i0,iS,i0,i0,i0,iS,i0,i0,i0,iS,i0,i0,i0,iS,i0,i0,i0,iS,i0,i0,i0,iS,i0,i0,i0,iS,i0,i0,i0,iS,i0,i0,i0,iS,i0,i0,i0,iS,i0,i0,i0,iS,i0,i0,i0,iS,i0,i0,i0,iS] [] h fun a h=>
 B 239 a h fun b h=>
 .ret (T12 b) h
def x87 : AC := (.ag k87_0 .skip)
def f87 : AF := .mk x87 [.t .h0 .h0]
def k117_0 : KF := fun c i x r h=>
 tR (Oh h) fun a h=>
 U [i0,i0,.jQ,i0] [.mk 2 1 (.c a)] h fun b h=>
 B 288 b h fun d h=>
 .ret (T12 d) h
def x117 : AC := (.ag k117_0 .skip)
def f117 : AF := .mk x117 [.t .h0 .h0]
def k118_0 : KF := fun c i x r h=>
 tR (Oh h) fun a h=>
 U [.jQ,i0] [.mk 0 1 (.c a)] h fun b h=>
 B 291 b h fun d h=>
 .ret (T12 d) h
def x118 : AC := (.ag k118_0 .skip)
def f118 : AF := .mk x118 [.t .h0 .h0]
def k119_0 : KF := K2 y0 y1 fun c i x h a b=>
 U [i0,i0,i0,i0,i0,i0,.jQ,.jQ,.jQ] [.mk 0 1 (.c a),.mk 1 1 (.c b)] h fun d h=>
 B 294 d h fun e h=>
 .ret (T30 e) h
def x119 : AC := (.ag k119_0 .skip)
def f119 : AF := .mk x119 [.t .h0 .h4]
def k120_0 : KF := K1 y0 fun c i x h a=>
 J a h fun b h=>
 A 1 b h fun d h=>
 L d h fun e h=>
 G e h fun f h=>
 .ret (T5 f) h
def x120 : AC := (.ag k120_0 .skip)
def f120 : AF := .mk x120 [.t .h0 .h2]
def k121_3 : KF := K5 y0 y4 y5 y6 y35 fun c i x h a b d e f=>
 I f (.ex 0 (T68 a b d e) h) (.nm (T68 a b d e) h)
def k121_5 : KF := K4 y0 y4 y5 y6 fun c i x h a b d e=>
 D (pi 8) e h fun f h=>
 D d f h fun g h=>
 .nm (T67 a b g) h
def k121_4 : KF := K4 y0 y4 y5 y6 fun c i x h a b d e=>
 D d (pi 8) h fun f h=>
 D d (pi 8) h fun g h=>
 D g e h fun j h=>
 tR (iA 1 (.c a) (.some (.c f)) (.some (.c j)) .none .nil h) fun k h=>
 C c 167 [k] h fun l h=>
 E 0 l h fun m h=>
 E 1 l h fun n h=>
 tR (jU n h) fun o h=>
 I o (.ex 0 (T47 b d) h) (tR (bs 31 1 1 [.ak] [.mk 0 1 (.c m)] h) fun p h=>
 tR (dW 31 1 b p h) fun q h=>
 x (T68 a q d e) h)
def k121_2 : KF := K3 y0 y4 y5 fun c i x h a b d=>
 D d (pi 8) h fun e h=>
 tR (iA 1 (.c a) (.some (.c d)) (.some (.c e)) .none .nil h) fun f h=>
 C c 124 [f] h fun g h=>
 C c 128 [g] h fun j h=>
 x (T68 a b d j) h
def k121_1 : KF := K3 y0 y4 y5 fun c i x h a b d=>
 G a h fun e h=>
 Z e d h fun f h=>
 tR (CF f (pi 8) h) fun g h=>
 I g (x (T67 a b d) h) (.ex 0 (T47 b d) h)
def k121_6 : KF := K2 y4 y5 fun c i x h a b=>
 .ret (T11 a b) h
def k121_0 : KF := K1 y0 fun c i x h a=>
 x (T67 a .ak i0) h
def x121 : AC := (.ag k121_0 (.seq (.block 0 (.loop (.ag k121_1 (.block 1 (.ag k121_2 (.seq (.seq (.ops [m d21 r6,
 o d22 (.bin .lt r21 a0),
 m d23 r22,
 .g .h1 .h7 false d24 (.op (.mv r6)),
 .g .h1 .h7 false d25 (.op (.bin .gt r24 (.c (pi 1048576)))),
 o d26 (.pick r23 (.c (.bool true)) r25),
 m d27 r26,
 .g .h1 .hb false d28 (.op (.mv r6)),
 .g .h1 .hb false d29 (.op (.mv r0)),
 .g .h1 .hb false d30 (.op (.len r29)),
 .g .h1 .hb false d31 (.op (.mv r5)),
 .g .h1 .hb false d32 (.op (.bin .sub r30 r31)),
 .g .h1 .hb false d33 (.op (.bin .sub r32 (.c (pi 8)))),
 .g .h1 .hb false d34 (.op (.bin .gt r28 r33)),
 o d35 (.pick r27 (.c (.bool true)) r34)]) (.ag k121_3 .skip)) (.ag k121_4 (.ag k121_5 .skip)))))))) (.ag k121_6 .skip)))
def f121 : AF := .mk x121 [.t .h0 .h2,.t .h0 .h3]
def k122_0 : KF := K1 y0 fun c i x h a=>
 J a h fun b h=>
 A 0 b h fun d h=>
 L d h fun e h=>
 C c 29 [e] h fun f h=>
 .ret (T5 f) h
def x122 : AC := (.ag k122_0 .skip)
def f122 : AF := .mk x122 [.t .h0 .h2]
def k125_1 : KF := K5 y1 y2 y29 y30 y31 fun c i x h a b d e f=>
 Y f e h fun g h=>
 I g (X 4 d f h fun j h=>
 M 4 j h fun k h=>
 O 261 4 (.k1 (Y4 i0 i0 i0 iS)) h fun l h=>
 S 4 l k h fun m h=>
 C c 174 [(pi 2),(.fn 179 [l])] h fun n h=>
 tR (dW 5 1 b n h) fun o h=>
 D f i1 h fun p h=>
 .nm (T69 a o d e p) h) (.ex 0 (T69 a b d e f) h)
def k125_5 : KF := K8 y1 y2 y6 y7 y50 y51 y52 y68 fun c i x h a b d e f g j k=>
 I k (.nm (T71 a b d (pi 5) f g j) h) (.nm (T71 a b d e f g j) h)
def k125_6 : KF := K7 y1 y2 y6 y7 y50 y51 y52 fun c i x h a b d e f g j=>
 L a h fun k h=>
 M 4 d h fun l h=>
 C c 186 [k,e,l] h fun m h=>
 tR (dW 5 1 b m h) fun n h=>
 .nm (T70 a n f g j) h
def k125_4 : KF := K5 y1 y2 y50 y51 y52 fun c i x h a b d e f=>
 X 4 d f h fun g h=>
 M 4 g h fun j h=>
 O 261 4 (.k1 (Y4 i0 i0 i0 iS)) h fun k h=>
 S 4 k j h fun l h=>
 x (T71 a b k (pi 4) d e f) h
def k125_7 : KF := K5 y1 y2 y50 y51 y52 fun c i x h a b d e f=>
 D f i1 h fun g h=>
 .nm (T70 a b d e g) h
def k125_3 : KF := K5 y1 y2 y50 y51 y52 fun c i x h a b d e f=>
 Y f e h fun g h=>
 I g (x (T70 a b d e f) h) (.ex 2 (T20 a b) h)
def k125_8 : KF := K2 y1 y2 fun c i x h a b=>
 L a h fun d h=>
 J d h fun e h=>
 A 2 e h fun f h=>
 L f h fun g h=>
 C c 187 [g,b] h fun j h=>
 Q j i0 h fun k h=>
 I k (L a h fun l h=>
 G b h fun m h=>
 J l h fun n h=>
 A 5 n h fun o h=>
 W o m h fun p h=>
 .nm T9 h) (.nm T9 h)
def k125_2 : KF := K2 y1 y2 fun c i x h a b=>
 C c 174 [i1,(.fn 182 [a])] h fun d h=>
 tR (dW 5 1 b d h) fun e h=>
 x (T20 a e) h
def k125_0 : KF := K1 y0 fun c i x h a=>
 B 164 a h fun b h=>
 C c 174 [i0,(.fn 175 [b])] h fun d h=>
 L b h fun e h=>
 J e h fun f h=>
 A 13 f h fun g h=>
 A 0 g h fun j h=>
 L j h fun k h=>
 tR (eN k i0 h) fun l h=>
 I l (C c 174 [(pi 6),(.fn 176 [b])] h fun m h=>
 tR (dW 5 1 d m h) fun n h=>
 x (T20 b n) h) (x (T20 b d) h)
def x125 : AC := (.ag k125_0 (.seq (.seq (.pL [ql 0 d20 r1,
 qj 0 d21 r20,
 qf 0 d22 7 r21,
 ql 0 d23 r22,
 ql 0 d24 r1,
 qj 0 d25 r24,
 qf 0 d26 13 r25,
 qf 0 d27 0 r26,
 ql 0 d28 r27,
 w (oc d29 178 [r23,r28]),
 q 0 (o d30 (.len r29)),
 q 1 (m d31 a0)]) (.block 0 (.loop (.ag k125_1 .skip)))) (.ag k125_2 (.seq (.seq (.pL [ql 0 d44 r1,
 ql 0 d45 r1,
 qj 0 d46 r45,
 qf 0 d47 13 r46,
 qf 0 d48 0 r47,
 ql 0 d49 r48,
 w (oc d50 184 [r44,r49]),
 q 0 (o d51 (.len r50)),
 q 1 (m d52 a0)]) (.block 2 (.loop (.ag k125_3 (.seq (.block 3 (.ag k125_4 (.seq (.seq (.pL [ql 0 d56 r1,
 qf 0 d57 0 r6,
 ql 0 d58 r57,
 w (oc d59 185 [r56,r58]),
 q 0 (m d60 r59),
 q 0 (.g .h3 .hc true d61 (.op (.jV r1))),
 q 0 (.g .h3 .hc true d62 (.op (.ly 0 r6))),
 q 0 (.g .h3 .hc true d63 (.op (.jV r62))),
 w (.g .h3 .hc true d64 (.call 169 [r61,r63])),
 q 1 (.g .h3 .hc true d65 (.op (.ly 3 r6))),
 q 1 (.g .h3 .hc true d66 (.op (.jV r65))),
 q 0 (.g .h3 .hc true d67 (.op (.bin .seq r64 r66))),
 q 0 (o d68 (.pick r60 r67 (.c (.bool false))))]) (.ag k125_5 .skip)) (.ag k125_6 .skip)))) (.ag k125_7 .skip)))))) (.ag k125_8 .skip)))))
def f125 : AF := .mk x125 []
def k126_2 : KF := K5 y0 y2 y14 y15 y16 fun c i x h a b d e f=>
 D f i1 h fun g h=>
 .nm (T72 a b d e g) h
def k126_1 : KF := K5 y0 y2 y14 y15 y16 fun c i x h a b d e f=>
 Y f e h fun g h=>
 I g (X 1 d f h fun j h=>
 L j h fun k h=>
 tR (CH k iS h) fun l h=>
 I l (C c 189 [a,b,k] h fun m h=>
 D b i1 h fun n h=>
 x (T72 a n d e f) h) (D b i1 h fun m h=>
 x (T72 a m d e f) h)) (.ex 0 T9 h)
def k126_0 : KF := K1 y0 fun c i x h a=>
 J a h fun b h=>
 A 9 b h fun d h=>
 L d h fun e h=>
 C c 156 [e] h fun f h=>
 J a h fun g h=>
 A 9 g h fun j h=>
 L j h fun k h=>
 C c 188 [k] h fun l h=>
 G l h fun m h=>
 x (T72 a f l m i0) h
def x126 : AC := (.ag k126_0 (.block 0 (.loop (.ag k126_1 (.ag k126_2 .skip)))))
def f126 : AF := .mk x126 []
def k152_1 : KF := K2 y0 y3 fun c i x h a b=>
 J a h fun d h=>
 A 0 d h fun e h=>
 L e h fun f h=>
 tR (Cr (.one .i) iS true f b h) fun g h=>
 E 0 g h fun j h=>
 E 1 g h fun k h=>
 tR (jU k h) fun l h=>
 I l (.ret (T5 b) h) (D b i1 h fun m h=>
 .nm (T19 a m) h)
def k152_0 : KF := K1 y0 fun c i x h a=>
 J a h fun b h=>
 A 1 b h fun d h=>
 L d h fun e h=>
 x (T19 a e) h
def x152 : AC := (.ag k152_0 (.block 0 (.loop (.ag k152_1 .skip))))
def f152 : AF := .mk x152 [.t .h0 .h2]
def k156_0 : KF := K1 y0 fun c i x h a=>
 J a h fun b h=>
 A 1 b h fun d h=>
 L d h fun e h=>
 .ret (T5 e) h
def x156 : AC := (.ag k156_0 .skip)
def f156 : AF := .mk x156 [.t .h0 .h2]
def k174_0 : KF := K2 y0 y1 fun c i x h a b=>
 C c 12 [] h fun d h=>
 C c 13 [d,a] h fun e h=>
 tT (cd c b [d] h) fun f h=>
 C c 18 [d] h fun g h=>
 C c 245 [g] h fun j h=>
 .ret (T30 j) h
def x174 : AC := (.ag k174_0 .skip)
def f174 : AF := .mk x174 [.t .h0 .h4]
def k175_0 : KF := K2 y0 y1 fun c i x h a b=>
 L b h fun d h=>
 J d h fun e h=>
 A 6 e h fun f h=>
 L f h fun g h=>
 C c 15 [a,g] h fun j h=>
 .nm T9 h
def x175 : AC := (.ag k175_0 .skip)
def f175 : AF := .mk x175 []
def k178_4 : KF := K3 y0 y5 y6 fun c i x h a b d=>
 D d i1 h fun e h=>
 .nm (T73 a b e) h
def k178_3 : KF := K3 y0 y5 y6 fun c i x h a b d=>
 J a h fun e h=>
 A 2 e h fun f h=>
 L f h fun g h=>
 tR (Cr (.one .i) (.agg [i0,i0,i0,iS]) true g d h) fun j h=>
 E 0 j h fun k h=>
 E 1 j h fun l h=>
 O 261 4 (.k1 (Y4 i0 i0 i0 iS)) h fun m h=>
 S 4 m k h fun n h=>
 I l (M 4 m h fun o h=>
 tR (bs 261 4 1 [i0,i0,i0,iS] [.mk 0 4 (.c o)] h) fun p h=>
 tR (dW 261 4 b p h) fun q h=>
 x (T73 a q d) h) (x (T73 a b d) h)
def k178_2 : KF := K3 y0 y5 y6 fun c i x h a b d=>
 J a h fun e h=>
 A 3 e h fun f h=>
 L f h fun g h=>
 Y d g h fun j h=>
 I j (x (T73 a b d) h) (.ex 0 (T62 b) h)
def k178_1 : KF := K3 y0 y1 y5 fun c i x h a b d=>
 tR (CI false [b,i0] h) fun e h=>
 x (T73 a d e) h
def k178_5 : KF := K1 y5 fun c i x h a=>
 .ret (T30 a) h
def k178_0 : KF := K2 y0 y1 fun c i x h a b=>
 x (T33 a b .ak) h
def x178 : AC := (.ag k178_0 (.seq (.ag k178_1 (.block 0 (.loop (.ag k178_2 (.ag k178_3 (.ag k178_4 .skip)))))) (.ag k178_5 .skip)))
def f178 : AF := .mk x178 [.t .h0 .h4]
def k180_0 : KF := K2 y0 y1 fun c i x h a b=>
 B 253 b h fun d h=>
 A 0 d h fun e h=>
 L e h fun f h=>
 C c 15 [a,f] h fun g h=>
 A 1 d h fun j h=>
 L j h fun k h=>
 C c 15 [a,k] h fun l h=>
 .nm T9 h
def x180 : AC := (.ag k180_0 .skip)
def f180 : AF := .mk x180 []
def k182_0 : KF := K2 y0 y1 fun c i x h a b=>
 L b h fun d h=>
 J d h fun e h=>
 A 7 e h fun f h=>
 L f h fun g h=>
 C c 183 [g] h fun j h=>
 C c 180 [a,j] h fun k h=>
 .nm T9 h
def x182 : AC := (.ag k182_0 .skip)
def f182 : AF := .mk x182 []
def k183_0 : KF := K1 y0 fun c i x h a=>
 O 253 2 (.k1 (Y2 i0 i0)) h fun b h=>
 J a h fun d h=>
 A 0 d h fun e h=>
 M 2 e h fun f h=>
 S 2 b f h fun g h=>
 .ret (T5 b) h
def x183 : AC := (.ag k183_0 .skip)
def f183 : AF := .mk x183 [.agg 2 .h0 .h2]
def k184_4 : KF := K3 y0 y5 y6 fun c i x h a b d=>
 D d i1 h fun e h=>
 .nm (T73 a b e) h
def k184_3 : KF := K3 y0 y5 y6 fun c i x h a b d=>
 J a h fun e h=>
 A 9 e h fun f h=>
 L f h fun g h=>
 C c 230 [g,d] h fun j h=>
 E 0 j h fun k h=>
 E 1 j h fun l h=>
 I l (U [i0,i0,i0,iS] [.mk 0 1 (.c d),.mk 3 1 (.c k)] h fun m h=>
 tR (bs 261 4 1 [i0,i0,i0,iS] [.mk 0 4 (.c m)] h) fun n h=>
 tR (dW 261 4 b n h) fun o h=>
 x (T73 a o d) h) (x (T73 a b d) h)
def k184_2 : KF := K3 y0 y5 y6 fun c i x h a b d=>
 J a h fun e h=>
 A 10 e h fun f h=>
 L f h fun g h=>
 Y d g h fun j h=>
 I j (x (T73 a b d) h) (.ex 0 (T62 b) h)
def k184_1 : KF := K3 y0 y1 y5 fun c i x h a b d=>
 J a h fun e h=>
 A 13 e h fun f h=>
 A 0 f h fun g h=>
 L g h fun j h=>
 tR (CI false [b,j] h) fun k h=>
 x (T73 a d k) h
def k184_5 : KF := K1 y5 fun c i x h a=>
 .ret (T30 a) h
def k184_0 : KF := K2 y0 y1 fun c i x h a b=>
 x (T33 a b .ak) h
def x184 : AC := (.ag k184_0 (.seq (.ag k184_1 (.block 0 (.loop (.ag k184_2 (.ag k184_3 (.ag k184_4 .skip)))))) (.ag k184_5 .skip)))
def f184 : AF := .mk x184 [.t .h0 .h4]
def k187_0 : KF := K2 y0 y1 fun c i x h a b=>
 G b h fun d h=>
 tR (eN d (pi 4194304) h) fun e h=>
 I e (.ret (T30 (pi 13)) h) (C c 29 [b] h fun f h=>
 J a h fun g h=>
 A 0 g h fun j h=>
 W j f h fun k h=>
 J a h fun l h=>
 A 0 l h fun m h=>
 L m h fun n h=>
 G n h fun o h=>
 J a h fun p h=>
 A 1 p h fun q h=>
 W q o h fun s h=>
 .ret (T30 i0) h)
def x187 : AC := (.ag k187_0 .skip)
def f187 : AF := .mk x187 [.t .h0 .h4]
def k188_3 : KF := K3 y0 y3 y4 fun c i x h a b d=>
 J a h fun e h=>
 A 1 e h fun f h=>
 L f h fun g h=>
 D g i1 h fun j h=>
 J a h fun k h=>
 A 1 k h fun l h=>
 W l j h fun m h=>
 .nm (T0 a b d) h
def k188_2 : KF := K3 y0 y3 y4 fun c i x h a b d=>
 J a h fun e h=>
 A 1 e h fun f h=>
 L f h fun g h=>
 Y g d h fun j h=>
 I j (x (T0 a b d) h) (.ex 0 (T7 b) h)
def k188_1 : KF := K2 y0 y3 fun c i x h a b=>
 C c 152 [a] h fun d h=>
 x (T0 a b d) h
def k188_4 : KF := K1 y3 fun c i x h a=>
 .ret (T5 a) h
def k188_0 : KF := K1 y0 fun c i x h a=>
 x (T19 a .ak) h
def x188 : AC := (.ag k188_0 (.seq (.ag k188_1 (.block 0 (.loop (.ag k188_2 (.seq (.block 1 (.pL [q 0 (m d21 r0),
 qj 0 d22 r21,
 qf 0 d23 0 r22,
 ql 0 d24 r23,
 q 0 (m d25 r0),
 qj 0 d26 r25,
 qf 0 d27 1 r26,
 ql 0 d28 r27,
 q 0 (o d29 (.Cr (.one .i) iS false r24 r28)),
 w (o d30 (.cB 9 1 1 [iS] [.mk 0 1 r29])),
 q 1 (m d20 r3),
 w (o d31 (.app 9 1 r20 r30)),
 q 0 (m d3 r31)])) (.ag k188_3 .skip)))))) (.ag k188_4 .skip)))
def f188 : AF := .mk x188 [.t .h0 .h2]
def k241_0 : KF := K1 y0 fun c i x h a=>
 C c 302 [a] h fun b h=>
 tR (cK (.toInt .u8) b h) fun d h=>
 tR (bK .shr b (.int .u64 (.ofNat 8)) h) fun e h=>
 tR (cK (.toInt .u8) e h) fun f h=>
 tR (bK .shr b (.int .u64 (.ofNat 16)) h) fun g h=>
 tR (cK (.toInt .u8) g h) fun j h=>
 tR (bK .shr b (.int .u64 (.ofNat 24)) h) fun k h=>
 tR (cK (.toInt .u8) k h) fun l h=>
 tR (bs 5 1 4 [(.int .u8 (.ofNat 0)),(.int .u8 (.ofNat 0)),(.int .u8 (.ofNat 0)),(.int .u8 (.ofNat 0))] [.mk 0 1 (.c d),.mk 1 1 (.c f),.mk 2 1 (.c j),.mk 3 1 (.c l)] h) fun m h=>
 tR (dW 5 1 m a h) fun n h=>
 .ret (T5 n) h
def x241 : AC := (.ag k241_0 .skip)
def f241 : AF := .mk x241 [.t .h0 .h2]
def k245_0 : KF := K1 y0 fun c i x h a=>
 C c 12 [] h fun b h=>
 C c 241 [a] h fun d h=>
 G d h fun e h=>
 C c 15 [b,e] h fun f h=>
 C c 18 [b] h fun g h=>
 tR (dW 5 1 g d h) fun j h=>
 .ret (T5 j) h
def x245 : AC := (.ag k245_0 .skip)
def f245 : AF := .mk x245 [.t .h0 .h2]
def k302_4 : KF := K5 y3 y7 y8 y9 y17 fun c i x h a b d e f=>
 Y f (pi 8) h fun g h=>
 I g (tR (CJ a (.int .u32 (.ofNat 1)) h) fun j h=>
 tR (bK .shr a (.int .u64 (.ofNat 1)) h) fun k h=>
 Q j (.int .u32 (.ofNat 1)) h fun l h=>
 I l (tR (zi k (.int .u32 (.ofNat 3988292384)) h) fun m h=>
 D f i1 h fun n h=>
 .nm (T75 m b d e n) h) (D f i1 h fun m h=>
 .nm (T75 k b d e m) h)) (.ex 2 (T75 a b d e f) h)
def k302_3 : KF := K4 y3 y7 y8 y9 fun c i x h a b d e=>
 X 1 b e h fun f h=>
 L f h fun g h=>
 tR (cK (.toInt .u32) g h) fun j h=>
 tR (zi a j h) fun k h=>
 x (T75 k b d e i0) h
def k302_5 : KF := K4 y3 y7 y8 y9 fun c i x h a b d e=>
 D e i1 h fun f h=>
 .nm (T74 a b d f) h
def k302_2 : KF := K4 y3 y7 y8 y9 fun c i x h a b d e=>
 Y e d h fun f h=>
 I f (x (T74 a b d e) h) (.ex 0 (T7 a) h)
def k302_1 : KF := K2 y0 y3 fun c i x h a b=>
 G a h fun d h=>
 x (T74 b a d i0) h
def k302_6 : KF := K1 y3 fun c i x h a=>
 tR (zj a h) fun b h=>
 .ret (T5 b) h
def k302_0 : KF := K1 y0 fun c i x h a=>
 x (T19 a (.int .u32 (.ofNat 4294967295))) h
def x302 : AC := (.ag k302_0 (.seq (.ag k302_1 (.block 0 (.loop (.ag k302_2 (.seq (.block 1 (.ag k302_3 (.block 2 (.loop (.ag k302_4 .skip))))) (.ag k302_5 .skip)))))) (.ag k302_6 .skip)))
def f302 : AF := .mk x302 [.t .h0 .h2]
def k646_0 : KF := K4 y0 y1 y2 y3 fun c i x h a b d e=>
 U [i0,iS,.ak] [.mk 0 1 (.c d),.mk 1 1 (.c e),.mk 2 1 (.c .ak)] h fun f h=>
 J a h fun g h=>
 A 0 g h fun j h=>
 tR (Kw 5 3 j b h) fun k h=>
 S 3 k f h fun l h=>
 .nm T9 h
def x646 : AC := (.ag k646_0 .skip)
def f646 : AF := .mk x646 []
def Kx : F1 := (.mk .none .none .none f3 f4 f5 f6 f7 f8 f9 f10 f11 f12 f13 f14 f15)
def MG : F1 := (.mk f16 f17 f18 f19 f20 f21 f22 f23 f24 f25 f26 f27 f28 f29 f30 .none)
def MH : F1 := (.mk f32 f33 f34 f35 f36 f37 f38 f39 f40 f41 f42 .none .none .none .none .none)
def MI : F1 := (.mk .none .none .none .none .none .none f54 f55 .none .none .none .none f60 f61 .none .none)
def MJ : F1 := (.mk .none .none .none .none .none .none .none .none .none .none .none .none .none .none .none f79)
def MK : F1 := (.mk f80 .none .none .none f84 f85 f86 f87 .none .none .none .none .none .none .none .none)
def ML : F1 := (.mk .none .none .none .none .none .none .none .none .none .none .none .none .none .none .none f111)
def MM : F1 := (.mk .none .none .none .none .none f117 f118 f119 f120 f121 f122 .none .none f125 f126 .none)
def MN : F1 := (.mk .none .none .none .none .none .none .none .none f152 .none .none .none f156 .none .none .none)
def JH : F1 := (.mk .none .none .none .none .none .none .none .none .none .none .none .none .none .none f174 f175)
def JI : F1 := (.mk .none .none f178 .none f180 .none f182 f183 f184 .none .none f187 f188 .none .none .none)
def JJ : F1 := (.mk .none f241 .none .none .none f245 .none .none .none .none .none .none .none .none .none .none)
def JK : F1 := (.mk .none .none .none .none .none .none .none .none .none .none .none .none .none .none f302 .none)
def JL : F1 := (.mk .none .none .none .none .none .none f646 .none .none .none .none .none .none .none .none .none)
def CL : F2 := .mk Kx MG MH MI MJ MK ML MM .nil MN JH JI .nil .nil .nil JJ
def JM : F2 := .mk .nil .nil JK .nil .nil .nil .nil .nil .nil .nil .nil .nil .nil .nil .nil .nil
def JN : F2 := .mk .nil .nil .nil .nil .nil .nil .nil .nil JL .nil .nil .nil .nil .nil .nil .nil
def pg : Pg := .mk (.mk CL JM JN .nil .nil .nil .nil .nil .nil .nil .nil .nil .nil .nil .nil .nil) [.mk 136 2 74, .mk 130 2 645, .mk 130 1 644, .mk 130 4 643, .mk 110 4 95, .mk 130 3 647, .mk 130 0 646, .mk 110 0 93]
end
end Go.Am.Seat
