/- The program's code in a form that runs fast, written by program. Nothing is asked. -/
import Derived.Test.YtdknlglpmcchlaaGreatDoorHead
set_option linter.all false
namespace Go.Am.Seat
set_option maxRecDepth 20000
noncomputable section
def T0 (a : AV) : A2 := N0 (Y3 u u a)
def T1 (a b : AV) : A2 := N0 (Y4 u u a b)
def T2 (a : AV) : A2 := N0 (Y1 a)
def T3 (a b d e : AV) : A2 := N1 (.mk a u u u u u u u u u u u u u u b) (Y2 d e)
def T4 (a b : AV) : A2 := N0 (Y7 a u u u u u b)
def T5 (a b d e : AV) : A2 := N1 (Y7 u u u u u u a) (Y13 u u u u u u u u u u b d e)
def T6 (a : AV) : A2 := N0 (Y7 u u u u u u a)
def T7 (a b d e f : AV) : A2 := N1 (Y9 u u u u u u a u b) (Y13 u u u u u u u u u u d e f)
def T8 (a b d e f g j k : AV) : A2 := N2 (Y9 u u u u u u a u b) (Y13 u u u u u u u u u u d e f) (Y7 u u u u g j k)
def T9 (a b : AV) : A2 := N0 (Y3 u a b)
def T10 (a b d : AV) : A2 := N0 (Y4 u a b d)
def T11 (a b d e : AV) : A2 := N0 (Y5 u a b d e)
def T12 (a : AV) : A2 := N0 (Y2 u a)
def T13 (a b d e : AV) : A2 := N0 (Y8 u a u u u b d e)
def T14 (a b d e f : AV) : A2 := N0 (Y8 u a u u b d e f)
def T15 : A2 := .nil
def T16 (a b : AV) : A2 := N0 (Y4 u a u b)
def T17 (a b d e f : AV) : A2 := N2 (Y4 u a u b) .nil (Y12 u u u u u u u u u d e f)
def T18 (a b d e : AV) : A2 := N4 (Y4 u u u a) .nil .nil (.mk u u u u u u u u u u u u u u b d) (Y1 e)
def T19 (a : AV) : A2 := N0 (Y4 u u u a)
def T20 (a b d e f : AV) : A2 := N4 (Y8 u u u a u u u b) .nil .nil (.mk u u u u u u u u u u u u u u d e) (Y1 f)
def T21 (a b d e f g j k : AV) : A2 := N5 (Y8 u u u a u u u b) .nil .nil (.mk u u u u u u u u u u u u u u d e) (.mk f u u u u u u u u u u u u u g j) (Y1 k)
def T22 (a b d : AV) : A2 := N0 (Y6 a b u u u d)
def T23 (a b d e : AV) : A2 := N0 (Y7 a b u u u d e)
def T24 (a b d e f : AV) : A2 := N0 (Y8 a b u u u d e f)
def T25 (a b d e f g : AV) : A2 := N0 (Y9 a b u u u d e f g)
def T26 (a b d e f g j : AV) : A2 := N0 (Y10 a b u u u d e f g j)
def T27 (a : AV) : A2 := N0 (Y5 u u u u a)
def T28 (a b d e : AV) : A2 := N2 (Y2 u a) .nil (Y9 u u u u u u b d e)
def T29 (a b d e f : AV) : A2 := N2 (Y5 u a u u b) .nil (Y9 u u u u u u d e f)
def T30 (a b d : AV) : A2 := N3 .nil .nil .nil (Y13 u u u u u u u u u u a b d)
def T31 (a b d e : AV) : A2 := N3 (Y7 u u u u u u a) .nil .nil (Y13 u u u u u u u u u u b d e)
def T32 (a b d : AV) : A2 := N0 (Y7 a b u u u u d)
def T33 (a b d : AV) : A2 := N0 (Y8 u u u u u a b d)
def T34 (a b d : AV) : A2 := N0 (Y11 u u u u u u u u a b d)
def T35 (a b d e : AV) : A2 := N0 (Y11 u u u u a u u u b d e)
def T36 (a b : AV) : A2 := N0 (Y6 u a u u u b)
def T37 (a b d : AV) : A2 := N0 (Y10 u u u u u a u b u d)
def T38 (a b : AV) : A2 := N0 (Y5 u u u a b)
def T39 (a b d : AV) : A2 := N0 (Y6 u u u a b d)
def T40 (a b : AV) : A2 := N0 (Y2 a b)
def T41 (a b d e f : AV) : A2 := N0 (Y14 a b u u u u u u u u u d e f)
def T42 (a b : AV) : A2 := N0 (Y10 a u u u u u u u u b)
def T43 (a b d e : AV) : A2 := N0 (Y6 a u b u d e)
def T44 (a b d e f : AV) : A2 := N0 (Y7 a u b u d e f)
def T45 (a b d e f : AV) : A2 := N0 (Y9 a u b u d e u u f)
def T46 (a b d e : AV) : A2 := N0 (Y10 a u b u u d u u u e)
def T47 (a b : AV) : A2 := N0 (Y6 u u a u u b)
def T48 (a b d e : AV) : A2 := N0 (Y8 u u u u a b d e)
def T49 (a b d : AV) : A2 := N0 (Y4 a u b d)
def T50 (a b d e : AV) : A2 := N0 (Y5 a u b d e)
def T51 (a b : AV) : A2 := N0 (Y4 a u u b)
def T52 (a b d e : AV) : A2 := N0 (Y9 u u u a u u b d e)
def T53 (a b : AV) : A2 := N0 (Y6 u u u u a b)
def T54 (a b d e : AV) : A2 := N1 (Y1 a) (Y15 u u u u u u u u u u u u b d e)
def T55 (a b d e f g : AV) : A2 := N1 (Y7 a u u u u b d) (Y15 u u u u u u u u u u u u e f g)
def T56 (a b d e f g j k l : AV) : A2 := N2 (Y7 a u u u u b d) (Y15 u u u u u u u u u u u u e f g) (Y6 u u u j k l)
def T57 (a : AV) : A2 := N1 .nil (Y4 u u u a)
def T58 (a b d : AV) : A2 := N0 (Y12 a b u u u u u u u u u d)
def T59 (a b d e : AV) : A2 := N0 (Y8 a u u u u b d e)
def T60 (a b d e : AV) : A2 := N0 (Y8 u a u u b d u e)
def T61 (a b d e f : AV) : A2 := N0 (Y9 u a u u b d u e f)
def T62 (a b d : AV) : A2 := N0 (Y8 u u u u a b u d)
def T63 (a b d : AV) : A2 := N1 (Y7 u u u u u u a) (Y7 u u u u u b d)
def T64 (a b d : AV) : A2 := N0 (Y11 u u u a u u u u u b d)
def T65 (a b : AV) : A2 := N0 (Y6 a u u u u b)
def T66 (a b d : AV) : A2 := N0 (Y14 u u u u u a u u u u u u b d)
def T67 (a : AV) : A2 := N0 (Y6 u u u u u a)
def T68 (a b d e : AV) : A2 := N0 (Y14 u u u u u a b u u u u u d e)
def T69 (a b d e : AV) : A2 := N2 (Y6 u u u u u a) .nil (Y5 u u b d e)
def T70 (a b : AV) : A2 := N0 (Y5 a u u u b)
def T71 (a b d e : AV) : A2 := N5 (Y1 a) .nil .nil .nil .nil (Y4 u b d e)
def T72 (a b d : AV) : A2 := N0 (Y6 a u u u b d)
def T73 (a b d e : AV) : A2 := N0 (Y7 a u u u b d e)
def T74 (a b d e f : AV) : A2 := N1 (Y3 u a b) (.mk u u u u u u u u u u u u u d e f)
def T75 (a b d e f : AV) : A2 := N3 (Y3 u a b) .nil .nil (Y5 u u d e f)
def T76 (a b d e f g j : AV) : A2 := N3 (Y8 u a b u u u d e) .nil .nil (Y5 u u f g j)
def T77 (a b d e f : AV) : A2 := N1 (.mk a u b u u u u u u u u u u u d e) (Y1 f)
def T78 (a b d : AV) : A2 := N0 (Y7 a u u u u b d)
def T79 (a b d : AV) : A2 := N0 (Y5 a u u b d)
def T80 (a b d e : AV) : A2 := N0 (Y10 u u u a u u u b d e)
def T81 (a b d e f : AV) : A2 := N1 (Y10 u u u a u u u b d e) (Y2 u f)
def f94 : AF := .ext .FZ
def k4_0 : KF := K1 y0 fun c i x h a=>
 B 28 a h fun b h=>
 O 28 12 (.k1 (Y12 i0 i0 i0 i0 iS i0 i0 i0 iS iS .ai .ai)) h fun d h=>
 A 5 b h fun e h=>
 M 7 e h fun f h=>
 C c 10 [f] h fun g h=>
 A 5 b h fun j h=>
 S 7 j g h fun k h=>
 M 12 b h fun l h=>
 S 12 d l h fun m h=>
 .ret (T0 d) h
def x4 : AC := (.ah k4_0 .skip)
def f4 : AF := .mk x4 [.agg 12 .h0 .h2]
def Jv : KF := K4 y0 y15 y16 y17 fun c i x h a b d e=>
 Y e d h fun f h=>
 I f (X 12 b e h fun g h=>
 M 12 g h fun j h=>
 O 28 12 (.k1 (Y12 i0 i0 i0 i0 iS i0 i0 i0 iS iS .ai .ai)) h fun k h=>
 S 12 k j h fun l h=>
 M 12 k h fun m h=>
 C c 11 [m] h fun n h=>
 tR (lW n h) fun o h=>
 I o (.ret (T1 .ai i1) h) (D e i1 h fun p h=>
 .nm (T3 a b d p) h)) (.ex 0 (T3 a b d e) h)
def k5_1 : KF := K1 y0 fun c i x h a=>
 G a h fun b h=>
 x (T3 a a b i0) h
def Jx : KF := K8 y6 y8 y26 y27 y28 y36 y37 y38 fun c i x h a b d e f g j k=>
 Y k j h fun l h=>
 I l (X 1 g k h fun m h=>
 L m h fun n h=>
 J n h fun o h=>
 L o h fun p h=>
 C c 15 [a,p] h fun q h=>
 D k i1 h fun s h=>
 .nm (T8 a b d e f g j s) h) (.ex 4 (T8 a b d e f g j k) h)
def k5_7 : KF := K5 y6 y8 y26 y27 y28 fun c i x h a b d e f=>
 C c 14 [b] h fun g h=>
 G g h fun j h=>
 x (T8 a b d e f g j i0) h
def k5_9 : KF := K5 y6 y8 y26 y27 y28 fun c i x h a b d e f=>
 A 4 b h fun g h=>
 L g h fun j h=>
 C c 16 [a,j] h fun k h=>
 A 5 b h fun l h=>
 M 7 l h fun m h=>
 C c 17 [m] h fun n h=>
 G n h fun o h=>
 tR (dj o (pi 65535) h) fun p h=>
 I p (.ret (T1 .ai (pi 3)) h) (tR (cK .Le n h) fun q h=>
 C c 16 [a,q] h fun s h=>
 .nm (T5 a d e f) h)
def k5_6 : KF := K4 y6 y26 y27 y28 fun c i x h a b d e=>
 X 12 b e h fun f h=>
 M 12 f h fun g h=>
 O 28 12 (.k1 (Y12 i0 i0 i0 i0 iS i0 i0 i0 iS iS .ai .ai)) h fun j h=>
 S 12 j g h fun k h=>
 A 0 j h fun l h=>
 L l h fun m h=>
 C c 13 [a,m] h fun n h=>
 x (T7 a j b d e) h
def k5_10 : KF := K4 y6 y26 y27 y28 fun c i x h a b d e=>
 D e i1 h fun f h=>
 .nm (T5 a b d f) h
def k5_5 : KF := K4 y6 y26 y27 y28 fun c i x h a b d e=>
 Y e d h fun f h=>
 I f (x (T5 a b d e) h) (.ex 2 (T6 a) h)
def k5_4 : KF := K2 y0 y6 fun c i x h a b=>
 G a h fun d h=>
 x (T5 b a d i0) h
def k5_11 : KF := K1 y6 fun c i x h a=>
 C c 18 [a] h fun b h=>
 .ret (T1 b i0) h
def k5_3 : KF := K1 y0 fun c i x h a=>
 C c 12 [] h fun b h=>
 x (T4 a b) h
def k5_0 : KF := K1 y0 fun c i x h a=>
 G a h fun b h=>
 tR (dj b (pi 2048) h) fun d h=>
 I d (.ret (T1 .ai (pi 4)) h) (x (T2 a) h)
def x5 : AC := (.ah k5_0 (.seq (.ah k5_1 (.block 0 (.loop (.ah Jv .skip)))) (.ah k5_3 (.seq (.ah k5_4 (.block 2 (.loop (.ah k5_5 (.seq (.block 3 (.ah k5_6 (.seq (.ah k5_7 (.block 4 (.loop (.ah Jx .skip)))) (.ah k5_9 .skip)))) (.ah k5_10 .skip)))))) (.ah k5_11 .skip)))))
def f5 : AF := .mk x5 [.t .h0 .h2,.t .h0 .h3]
def k10_4 : KF := K5 y1 y2 y3 y4 y44 fun c i x h a b d e f=>
 I f (.nm (T11 a b d e) h) (.ex 0 (T11 a b d e) h)
def k10_5 : KF := K4 y1 y2 y3 y4 fun c i x h a b d e=>
 A 5 a h fun f h=>
 L f h fun g h=>
 X 2 g e h fun j h=>
 M 2 j h fun k h=>
 O 70 2 (.k1 (Y2 iS i0)) h fun l h=>
 S 2 l k h fun m h=>
 A 1 l h fun n h=>
 L n h fun o h=>
 C c 26 [o] h fun p h=>
 A 1 l h fun q h=>
 W q p h fun s h=>
 M 2 l h fun t h=>
 tR (bs 70 2 1 [iS,i0] [.mk 0 2 (.c t)] h) fun v h=>
 tR (eF 70 2 d v h) fun w h=>
 D e i1 h fun y h=>
 .nm (T11 a b w y) h
def k10_3 : KF := K3 y1 y2 y3 fun c i x h a b d=>
 x (T11 a b d i0) h
def k10_6 : KF := K3 y1 y2 y3 fun c i x h a b d=>
 A 5 a h fun e h=>
 W e d h fun f h=>
 A 6 a h fun g h=>
 L g h fun j h=>
 C c 27 [j,(pi 9)] h fun k h=>
 A 6 a h fun l h=>
 W l k h fun m h=>
 M 7 a h fun n h=>
 S 7 b n h fun o h=>
 .ret (T0 b) h
def Ar : KF := K2 y1 y2 fun c i x h a b=>
 A 5 a h fun d h=>
 L d h fun e h=>
 G e h fun f h=>
 tR (dj f (pi 8) h) fun g h=>
 I g (A 5 a h fun j h=>
 L j h fun k h=>
 tR (fu 2 (.c k) .none (.some (.c (pi 8))) .none .nil h) fun l h=>
 A 5 a h fun m h=>
 W m l h fun n h=>
 x (T10 a b .ai) h) (x (T10 a b .ai) h)
def Au : KF := K2 y1 y2 fun c i x h a b=>
 A 4 a h fun d h=>
 L d h fun e h=>
 tR (kr e h) fun f h=>
 tR (dj f (pi 700) h) fun g h=>
 I g (A 4 a h fun j h=>
 L j h fun k h=>
 tR (fw (.c k) .none (.some (.c (pi 700))) .nil h) fun l h=>
 A 4 a h fun m h=>
 W m l h fun n h=>
 x (T9 a b) h) (x (T9 a b) h)
def Av : KF := K1 y0 fun c i x h a=>
 B 26 a h fun b h=>
 O 26 7 (.k1 (Y7 i0 i0 i0 iS iS .ai .ai)) h fun d h=>
 A 3 b h fun e h=>
 L e h fun f h=>
 tR (kr f h) fun g h=>
 tR (dj g (pi 20) h) fun j h=>
 I j (A 3 b h fun k h=>
 L k h fun l h=>
 tR (fw (.c l) .none (.some (.c (pi 20))) .nil h) fun m h=>
 A 3 b h fun n h=>
 W n m h fun o h=>
 x (T9 b d) h) (x (T9 b d) h)
def x10 : AC := (.ah Av (.ah Au (.ah Ar (.seq (.ah k10_3 (.block 0 (.loop (.seq (.seq (.ops [m d30 r4,
 of d31 5 r1,
 ol d32 r31,
 o d33 (.len r32),
 o d34 (.bin .lt r30 r33),
 m d35 r34,
 .g .h2 .h3 true d36 (.op (.gS 5 r1)),
 .g .h2 .h3 true d37 (.op (.gT r36)),
 .g .h2 .h3 true d38 (.op (.mv r4)),
 .g .h2 .h3 true d39 (.op (.FO 2 r37 r38)),
 .g .h2 .h3 true d40 (.op (.gS 0 r39)),
 .g .h2 .h3 true d41 (.op (.gT r40)),
 .g .h2 .h3 true d42 (.op (.kr r41)),
 .g .h2 .h3 true d43 (.op (.bin .le r42 (.c (pi 20)))),
 o d44 (.pick r35 r43 (.c (.bool false)))]) (.ah k10_4 .skip)) (.ah k10_5 .skip))))) (.ah k10_6 .skip)))))
def f10 : AF := .mk x10 [.agg 7 .h0 .h2]
def k11_4 : KF := K5 y1 y5 y6 y7 y20 fun c i x h a b d e f=>
 I f (.ret (T0 (.bool false)) h) (.nm (T13 a b d e) h)
def k11_3 : KF := K4 y1 y5 y6 y7 fun c i x h a b d e=>
 X 1 b e h fun f h=>
 L f h fun g h=>
 x (T14 a g b d e) h
def k11_5 : KF := K4 y1 y5 y6 y7 fun c i x h a b d e=>
 D e i1 h fun f h=>
 .nm (T13 a b d f) h
def k11_2 : KF := K4 y1 y5 y6 y7 fun c i x h a b d e=>
 Y e d h fun f h=>
 I f (x (T13 a b d e) h) (.ex 0 (T12 a) h)
def k11_1 : KF := K1 y1 fun c i x h a=>
 C c 14 [a] h fun b h=>
 G b h fun d h=>
 x (T13 a b d i0) h
def k11_0 : KF := K1 y0 fun c i x h a=>
 B 28 a h fun b h=>
 x (T12 b) h
def x11 : AC := (.ah k11_0 (.seq (.ah k11_1 (.block 0 (.loop (.ah k11_2 (.seq (.block 1 (.ah k11_3 (.seq (.ops [m d11 r4,
 oj d12 r11,
 ol d13 r12,
 o d14 (.bin .lt r13 (.c (ni 2147483647))),
 m d15 r14,
 .g .h0 .hf false d16 (.op (.mv r4)),
 .g .h0 .hf false d17 (.op (.qa r16)),
 .g .h0 .hf false d18 (.op (.gT r17)),
 .g .h0 .hf false d19 (.op (.bin .gt r18 (.c (pi 2147483647)))),
 o d20 (.pick r15 (.c (.bool true)) r19)]) (.ah k11_4 .skip)))) (.ah k11_5 .skip)))))) (.seq (.ops [of d22 0 r1,
 ol d23 r22,
 o d24 (.bin .ge r23 a1),
 m d25 r24,
 .g .h1 .h9 true d26 (.op (.gS 0 r1)),
 .g .h1 .h9 true d27 (.op (.gT r26)),
 .g .h1 .h9 true d28 (.op (.bin .le r27 (.c (pi 9)))),
 o d29 (.pick r25 r28 (.c (.bool false))),
 m d30 r29,
 .g .h1 .he true d31 (.op (.gS 4 r1)),
 .g .h1 .he true d32 (.op (.gT r31)),
 .g .h1 .he true d33 (.op (.kr r32)),
 .g .h1 .he true d34 (.op (.bin .le r33 (.c (pi 255)))),
 o d35 (.pick r30 r34 (.c (.bool false))),
 m d36 r35,
 .g .h2 .h4 true d37 (.op (.gS 5 r1)),
 .g .h2 .h4 true d38 (.op (.pY 7 r37)),
 .g .h2 .h4 true d39 (.call 28 [r38]),
 o d40 (.pick r36 r39 (.c (.bool false))),
 m d2 r40]) .ret)))
def f11 : AF := .mk x11 [.t .h0 .h2]
def k12_0 : KF := fun c i x r h=>
 U [.ai] [] h fun a h=>
 B 75 a h fun b h=>
 .ret (T2 b) h
def x12 : AC := (.ah k12_0 .skip)
def f12 : AF := .mk x12 [.t .h0 .h0]
def k13_0 : KF := K2 y0 y1 fun c i x h a b=>
 tR (cK (.toInt .u64) b h) fun d h=>
 C c 29 [a,d,i1] h fun e h=>
 .nm T15 h
def x13 : AC := (.ah k13_0 .skip)
def f13 : AF := .mk x13 []
def k14_0 : KF := K1 y0 fun c i x h a=>
 tQ (nC a h) fun b=>
 tQ (fA 1 b h) fun d=>
 tQ (nC a h) fun e=>
 tQ (fA 2 e h) fun f=>
 tQ (nC a h) fun g=>
 tQ (fA 3 g h) fun j=>
 tX (RV.lH (bs 47 1 3 [.cL,.cL,.cL] [.mk 0 1 (.c d),.mk 1 1 (.c f),.mk 2 1 (.c j)] h)) fun k h=>
 .ret (T0 k) h
def x14 : AC := (.ah k14_0 .skip)
def f14 : AF := .mk x14 [.t .h0 .h2]
def k15_0 : KF := K2 y0 y1 fun c i x h a b=>
 tR (cK (.toInt .u64) b h) fun d h=>
 C c 29 [a,d,(pi 8)] h fun e h=>
 .nm T15 h
def x15 : AC := (.ah k15_0 .skip)
def f15 : AF := .mk x15 []
def k16_0 : KF := K2 y0 y1 fun c i x h a b=>
 tR (kr b h) fun d h=>
 C c 30 [a,d] h fun e h=>
 J a h fun f h=>
 A 0 f h fun g h=>
 L g h fun j h=>
 tR (ma 5 (.c j) (.c b) .nil h) fun k h=>
 J a h fun l h=>
 A 0 l h fun m h=>
 W m k h fun n h=>
 .nm T15 h
def x16 : AC := (.ah k16_0 .skip)
def f16 : AF := .mk x16 []
def k17_3 : KF := K5 y1 y3 y41 y42 y43 fun c i x h a b d e f=>
 Y f e h fun g h=>
 I g (X 2 d f h fun j h=>
 M 2 j h fun k h=>
 O 70 2 (.k1 (Y2 iS i0)) h fun l h=>
 S 2 l k h fun m h=>
 A 0 l h fun n h=>
 L n h fun o h=>
 C c 16 [b,o] h fun p h=>
 A 1 l h fun q h=>
 L q h fun s h=>
 C c 15 [b,s] h fun t h=>
 D f i1 h fun v h=>
 .nm (T17 a b d e v) h) (.ex 0 (T17 a b d e f) h)
def k17_2 : KF := K2 y1 y3 fun c i x h a b=>
 A 5 a h fun d h=>
 L d h fun e h=>
 G e h fun f h=>
 x (T17 a b e f i0) h
def zQ : KF := K8 y3 y7 y62 y63 y64 y78 y79 y80 fun c i x h a b d e f g j k=>
 Y k j h fun l h=>
 I l (X 3 g k h fun m h=>
 M 3 m h fun n h=>
 O 83 3 (.k1 (Y3 i0 i0 iS)) h fun o h=>
 S 3 o n h fun p h=>
 A 0 o h fun q h=>
 L q h fun s h=>
 C c 15 [a,s] h fun t h=>
 A 1 o h fun v h=>
 L v h fun w h=>
 C c 15 [a,w] h fun y h=>
 A 2 o h fun z h=>
 L z h fun a0 h=>
 C c 16 [a,a0] h fun a1 h=>
 D k i1 h fun a2 h=>
 .nm (T21 a b d e f g j a2) h) (.ex 4 (T21 a b d e f g j k) h)
def k17_8 : KF := K5 y3 y7 y62 y63 y64 fun c i x h a b d e f=>
 A 1 b h fun g h=>
 L g h fun j h=>
 G j h fun k h=>
 x (T21 a b d e f j k i0) h
def k17_10 : KF := K5 y3 y7 y62 y63 y64 fun c i x h a b d e f=>
 A 2 b h fun g h=>
 L g h fun j h=>
 I j (C c 13 [a,i1] h fun k h=>
 .nm (T18 a d e f) h) (C c 13 [a,i0] h fun k h=>
 .nm (T18 a d e f) h)
def k17_7 : KF := K4 y3 y62 y63 y64 fun c i x h a b d e=>
 X 3 b e h fun f h=>
 M 3 f h fun g h=>
 O 81 3 (.k1 (Y3 iS .ai (.bool false))) h fun j h=>
 S 3 j g h fun k h=>
 A 0 j h fun l h=>
 L l h fun m h=>
 C c 16 [a,m] h fun n h=>
 A 1 j h fun o h=>
 L o h fun p h=>
 G p h fun q h=>
 C c 13 [a,q] h fun s h=>
 x (T20 a j b d e) h
def k17_11 : KF := K4 y3 y62 y63 y64 fun c i x h a b d e=>
 D e i1 h fun f h=>
 .nm (T18 a b d f) h
def k17_6 : KF := K4 y3 y62 y63 y64 fun c i x h a b d e=>
 Y e d h fun f h=>
 I f (x (T18 a b d e) h) (.ex 2 (T19 a) h)
def k17_5 : KF := K2 y1 y3 fun c i x h a b=>
 A 6 a h fun d h=>
 L d h fun e h=>
 G e h fun f h=>
 x (T18 b e f i0) h
def k17_12 : KF := K1 y3 fun c i x h a=>
 C c 18 [a] h fun b h=>
 .ret (T0 b) h
def k17_4 : KF := K2 y1 y3 fun c i x h a b=>
 A 6 a h fun d h=>
 L d h fun e h=>
 G e h fun f h=>
 C c 13 [b,f] h fun g h=>
 x (T16 a b) h
def k17_1 : KF := K2 y1 y3 fun c i x h a b=>
 A 3 a h fun d h=>
 L d h fun e h=>
 C c 16 [b,e] h fun f h=>
 A 4 a h fun g h=>
 L g h fun j h=>
 C c 16 [b,j] h fun k h=>
 A 5 a h fun l h=>
 L l h fun m h=>
 G m h fun n h=>
 C c 13 [b,n] h fun o h=>
 x (T16 a b) h
def k17_0 : KF := K1 y0 fun c i x h a=>
 B 26 a h fun b h=>
 M 7 b h fun d h=>
 C c 28 [d] h fun e h=>
 tR (lW e h) fun f h=>
 I f (.ret (T0 .ai) h) (C c 12 [] h fun g h=>
 A 0 b h fun j h=>
 L j h fun k h=>
 C c 15 [g,k] h fun l h=>
 A 1 b h fun m h=>
 L m h fun n h=>
 C c 15 [g,n] h fun o h=>
 A 2 b h fun p h=>
 L p h fun q h=>
 C c 15 [g,q] h fun s h=>
 x (T16 b g) h)
def x17 : AC := (.ah k17_0 (.ah k17_1 (.seq (.ah k17_2 (.block 0 (.loop (.ah k17_3 .skip)))) (.ah k17_4 (.seq (.ah k17_5 (.block 2 (.loop (.ah k17_6 (.seq (.block 3 (.ah k17_7 (.seq (.ah k17_8 (.block 4 (.loop (.ah zQ .skip)))) (.ah k17_10 .skip)))) (.ah k17_11 .skip)))))) (.ah k17_12 .skip))))))
def f17 : AF := .mk x17 [.t .h0 .h2]
def k18_0 : KF := K1 y0 fun c i x h a=>
 J a h fun b h=>
 A 0 b h fun d h=>
 L d h fun e h=>
 C c 31 [e] h fun f h=>
 .ret (T0 f) h
def x18 : AC := (.ah k18_0 .skip)
def f18 : AF := .mk x18 [.t .h0 .h2]
def k26_1 : KF := K1 y0 fun c i x h a=>
 .ret (T0 a) h
def k26_0 : KF := K1 y0 fun c i x h a=>
 Y a (ni 999) h fun b h=>
 gD b false (fun d=>d a h) h fun d h=>
 gD b false (fun e=>tR (dj d (pi 1000) h) fun f h=>
 e f h) h fun e h=>
 tR (ei (.c b) (.c (.bool true)) (.c e) .nil h) fun f h=>
 I f (.ret (T0 i0) h) (x (T2 a) h)
def x26 : AC := (.ah k26_0 (.ah k26_1 .skip))
def f26 : AF := .mk x26 [.t .h0 .h2]
def k27_2 : KF := K5 y0 y1 y5 y6 y18 fun c i x h a b d e f=>
 I f (.nm (T23 a b d e) h) (.ex 0 (T23 a b d e) h)
def k27_8 : KF := K7 y0 y1 y5 y6 y7 y8 y9 fun c i x h a b d e f g j=>
 D j i1 h fun k h=>
 .nm (T26 a b d e f g k) h
def wq : KF := K7 y0 y1 y5 y6 y7 y8 y9 fun c i x h a b d e f g j=>
 X 3 g j h fun k h=>
 A 2 k h fun l h=>
 L l h fun m h=>
 tR (kr m h) fun n h=>
 tR (dj n (pi 41) h) fun o h=>
 I o (X 3 g j h fun p h=>
 A 2 p h fun q h=>
 L q h fun s h=>
 tR (fw (.c s) .none (.some (.c (pi 41))) .nil h) fun t h=>
 X 3 g j h fun v h=>
 A 2 v h fun w h=>
 W w t h fun y h=>
 X 3 g j h fun z h=>
 A 0 z h fun a0 h=>
 L a0 h fun a1 h=>
 C c 26 [a1] h fun a2 h=>
 X 3 g j h fun a3 h=>
 A 0 a3 h fun a4 h=>
 W a4 a2 h fun a5 h=>
 x (T26 a b d e f g j) h) (X 3 g j h fun p h=>
 A 0 p h fun q h=>
 L q h fun s h=>
 C c 26 [s] h fun t h=>
 X 3 g j h fun v h=>
 A 0 v h fun w h=>
 W w t h fun y h=>
 x (T26 a b d e f g j) h)
def wt : KF := K7 y0 y1 y5 y6 y7 y8 y9 fun c i x h a b d e f g j=>
 G g h fun k h=>
 Y j k h fun l h=>
 I l (x (T26 a b d e f g j) h) (.ex 2 (T25 a b d e f g) h)
def k27_5 : KF := K6 y0 y1 y5 y6 y7 y8 fun c i x h a b d e f g=>
 x (T26 a b d e f g i0) h
def k27_9 : KF := K6 y0 y1 y5 y6 y7 y8 fun c i x h a b d e f g=>
 A 1 f h fun j h=>
 W j g h fun k h=>
 M 3 f h fun l h=>
 tR (bs 81 3 1 [iS,.ai,(.bool false)] [.mk 0 3 (.c l)] h) fun m h=>
 tR (eF 81 3 d m h) fun n h=>
 .nm (T23 a b n e) h
def k27_4 : KF := K5 y0 y1 y5 y6 y7 fun c i x h a b d e f=>
 tR (bs 83 3 0 [] [] h) fun g h=>
 A 1 f h fun j h=>
 L j h fun k h=>
 tR (eF 83 3 g k h) fun l h=>
 G l h fun m h=>
 tR (dj m (pi 7) h) fun n h=>
 I n (tR (fu 3 (.c l) .none (.some (.c (pi 7))) .none .nil h) fun o h=>
 x (T25 a b d e f o) h) (x (T25 a b d e f l) h)
def k27_3 : KF := K4 y0 y1 y5 y6 fun c i x h a b d e=>
 X 3 a e h fun f h=>
 M 3 f h fun g h=>
 O 81 3 (.k1 (Y3 iS .ai (.bool false))) h fun j h=>
 S 3 j g h fun k h=>
 A 0 j h fun l h=>
 L l h fun m h=>
 tR (kr m h) fun n h=>
 tR (dj n (pi 20) h) fun o h=>
 I o (A 0 j h fun p h=>
 L p h fun q h=>
 tR (fw (.c q) .none (.some (.c (pi 20))) .nil h) fun s h=>
 A 0 j h fun t h=>
 W t s h fun v h=>
 x (T24 a b d e j) h) (x (T24 a b d e j) h)
def k27_10 : KF := K4 y0 y1 y5 y6 fun c i x h a b d e=>
 D e i1 h fun f h=>
 .nm (T23 a b d f) h
def k27_1 : KF := K3 y0 y1 y5 fun c i x h a b d=>
 x (T23 a b d i0) h
def k27_11 : KF := K1 y5 fun c i x h a=>
 .ret (T27 a) h
def k27_0 : KF := K2 y0 y1 fun c i x h a b=>
 x (T22 a b .ai) h
def x27 : AC := (.ah k27_0 (.seq (.ah k27_1 (.block 0 (.loop (.seq (.seq (.ops [m d10 r6,
 m d11 r0,
 o d12 (.len r11),
 o d13 (.bin .lt r10 r12),
 m d14 r13,
 .g .h0 .he true d15 (.op (.mv r6)),
 .g .h0 .he true d16 (.op (.mv r1)),
 .g .h0 .he true d17 (.op (.bin .lt r15 r16)),
 o d18 (.pick r14 r17 (.c (.bool false)))]) (.ah k27_2 .skip)) (.seq (.block 1 (.ah k27_3 (.ah k27_4 (.seq (.ah k27_5 (.block 2 (.loop (.ah wt (.ah wq (.ah k27_8 .skip)))))) (.ah k27_9 .skip))))) (.ah k27_10 .skip)))))) (.ah k27_11 .skip)))
def f27 : AF := .mk x27 [.t .h0 .h4]
def k28_1 : KF := K2 y1 y36 fun c i x h a b=>
 I b (.ret (T0 (.bool false)) h) (.nm (T12 a) h)
def k28_5 : KF := K5 y1 y38 y39 y40 y55 fun c i x h a b d e f=>
 I f (.ret (T0 (.bool false)) h) (.nm (T28 a b d e) h)
def k28_4 : KF := K4 y1 y38 y39 y40 fun c i x h a b d e=>
 X 2 b e h fun f h=>
 M 2 f h fun g h=>
 O 70 2 (.k1 (Y2 iS i0)) h fun j h=>
 S 2 j g h fun k h=>
 x (T29 a j b d e) h
def k28_6 : KF := K4 y1 y38 y39 y40 fun c i x h a b d e=>
 D e i1 h fun f h=>
 .nm (T28 a b d f) h
def k28_3 : KF := K4 y1 y38 y39 y40 fun c i x h a b d e=>
 Y e d h fun f h=>
 I f (x (T28 a b d e) h) (.ex 0 (T12 a) h)
def k28_2 : KF := K1 y1 fun c i x h a=>
 A 5 a h fun b h=>
 L b h fun d h=>
 G d h fun e h=>
 x (T28 a d e i0) h
def k28_10 : KF := K4 y58 y59 y60 y74 fun c i x h a b d e=>
 I e (.ret (T0 (.bool false)) h) (.nm (T30 a b d) h)
def k28_9 : KF := K3 y58 y59 y60 fun c i x h a b d=>
 X 3 a d h fun e h=>
 M 3 e h fun f h=>
 O 81 3 (.k1 (Y3 iS .ai (.bool false))) h fun g h=>
 S 3 g f h fun j h=>
 x (T31 g a b d) h
def k28_11 : KF := K3 y58 y59 y60 fun c i x h a b d=>
 D d i1 h fun e h=>
 .nm (T30 a b e) h
def k28_8 : KF := K3 y58 y59 y60 fun c i x h a b d=>
 Y d b h fun e h=>
 I e (x (T30 a b d) h) (.ex 2 T15 h)
def k28_7 : KF := K1 y1 fun c i x h a=>
 A 6 a h fun b h=>
 L b h fun d h=>
 G d h fun e h=>
 x (T30 d e i0) h
def k28_12 : KF := fun c i x r h=>
 .ret (T0 (.bool true)) h
def k28_0 : KF := K1 y0 fun c i x h a=>
 B 26 a h fun b h=>
 x (T12 b) h
def x28 : AC := (.ah k28_0 (.seq (.seq (.ops [of d7 0 r1,
 ol d8 r7,
 of d9 1 r1,
 ol d10 r9,
 of d11 2 r1,
 ol d12 r11,
 o d13 (.cI 3 1 3 [i0,i0,i0] [.mk 0 1 r8,.mk 1 1 r10,.mk 2 1 r12]),
 oc d14 45 [r13],
 o d15 (.un .not r14),
 m d16 r15,
 .g .h1 .h0 false d17 (.op (.gS 3 r1)),
 .g .h1 .h0 false d18 (.op (.gT r17)),
 .g .h1 .h0 false d19 (.op (.gS 4 r1)),
 .g .h1 .h0 false d20 (.op (.gT r19)),
 .g .h1 .h0 false d21 (.op (.cI 9 1 2 [iS,iS] [.mk 0 1 r18,.mk 1 1 r20])),
 .g .h1 .h0 false d22 (.call 46 [r21]),
 .g .h1 .h0 false d23 (.op (.un .not r22)),
 o d24 (.pick r16 (.c (.bool true)) r23),
 m d25 r24,
 .g .h1 .h9 false d26 (.op (.gS 5 r1)),
 .g .h1 .h9 false d27 (.op (.gT r26)),
 .g .h1 .h9 false d28 (.op (.len r27)),
 .g .h1 .h9 false d29 (.op (.bin .gt r28 (.c (pi 255)))),
 o d30 (.pick r25 (.c (.bool true)) r29),
 m d31 r30,
 .g .h1 .hf false d32 (.op (.gS 6 r1)),
 .g .h1 .hf false d33 (.op (.gT r32)),
 .g .h1 .hf false d34 (.op (.len r33)),
 .g .h1 .hf false d35 (.op (.bin .gt r34 (.c (pi 255)))),
 o d36 (.pick r31 (.c (.bool true)) r35)]) (.ah k28_1 .skip)) (.seq (.ah k28_2 (.block 0 (.loop (.ah k28_3 (.seq (.block 1 (.ah k28_4 (.seq (.ops [of d44 1 r4,
 ol d45 r44,
 o d46 (.cI 3 1 1 [i0] [.mk 0 1 r45]),
 oc d47 45 [r46],
 o d48 (.un .not r47),
 m d49 r48,
 .g .h3 .h1 false d50 (.op (.gS 0 r4)),
 .g .h3 .h1 false d51 (.op (.gT r50)),
 .g .h3 .h1 false d52 (.op (.cI 9 1 1 [iS] [.mk 0 1 r51])),
 .g .h3 .h1 false d53 (.call 46 [r52]),
 .g .h3 .h1 false d54 (.op (.un .not r53)),
 o d55 (.pick r49 (.c (.bool true)) r54)]) (.ah k28_5 .skip)))) (.ah k28_6 .skip)))))) (.seq (.ah k28_7 (.block 2 (.loop (.ah k28_8 (.seq (.block 3 (.ah k28_9 (.seq (.ops [of d64 0 r6,
 ol d65 r64,
 o d66 (.cI 9 1 1 [iS] [.mk 0 1 r65]),
 oc d67 46 [r66],
 o d68 (.un .not r67),
 m d69 r68,
 .g .h4 .h5 false d70 (.op (.gS 1 r6)),
 .g .h4 .h5 false d71 (.op (.gT r70)),
 .g .h4 .h5 false d72 (.call 47 [r71]),
 .g .h4 .h5 false d73 (.op (.un .not r72)),
 o d74 (.pick r69 (.c (.bool true)) r73)]) (.ah k28_10 .skip)))) (.ah k28_11 .skip)))))) (.ah k28_12 .skip)))))
def f28 : AF := .mk x28 [.t .h0 .h2]
def rz : KF := K3 y0 y1 y6 fun c i x h a b d=>
 Q d i0 h fun e h=>
 I e (.ret T15 h) (J a h fun f h=>
 A 0 f h fun g h=>
 L g h fun j h=>
 tR (cK (.toInt .u8) b h) fun k h=>
 tR (bs 5 1 1 [(.int .u8 (.ofNat 0))] [.mk 0 1 (.c k)] h) fun l h=>
 tR (eF 5 1 j l h) fun m h=>
 J a h fun n h=>
 A 0 n h fun o h=>
 W o m h fun p h=>
 tR (bK .shr b (.int .u64 (.ofNat 8)) h) fun q h=>
 Z d i1 h fun s h=>
 .go 0 (T32 a q s) h)
def k29_0 : KF := K3 y0 y1 y2 fun c i x h a b d=>
 x (T32 a b d) h
def x29 : AC := (.scope (.ah k29_0 (.seq (.label 0) (.ah rz .skip))))
def f29 : AF := .mk x29 []
def k30_0 : KF := K2 y0 y1 fun c i x h a b=>
 tR (cK (.toInt .u64) b h) fun d h=>
 C c 29 [a,d,(pi 2)] h fun e h=>
 .nm T15 h
def x30 : AC := (.ah k30_0 .skip)
def f30 : AF := .mk x30 []
def zN : KF := K1 y0 fun c i x h a=>
 tR (bK (.jD .s) a .ai h) fun b h=>
 I b (.ret (T0 .ai) h) (tR (bs 5 1 0 [] [] h) fun d h=>
 tR (eF 5 1 d a h) fun e h=>
 .ret (T0 e) h)
def x31 : AC := (.ah zN .skip)
def f31 : AF := .mk x31 [.t .h0 .h2]
def zO : KF := K3 y5 y6 y7 fun c i x h a b d=>
 D d i1 h fun e h=>
 .nm (T33 a b e) h
def wg : KF := K3 y5 y6 y7 fun c i x h a b d=>
 Y d b h fun e h=>
 I e (X 1 a d h fun f h=>
 L f h fun g h=>
 Y g (ni 2147483647) h fun j h=>
 gD j false (fun k=>k g h) h fun k h=>
 gD j false (fun l=>tR (dj k (pi 2147483647) h) fun m h=>
 l m h) h fun l h=>
 tR (ei (.c j) (.c (.bool true)) (.c l) .nil h) fun m h=>
 I m (.ret (T0 (.bool false)) h) (x (T33 a b d) h)) (.ex 0 T15 h)
def k45_1 : KF := K1 y0 fun c i x h a=>
 G a h fun b h=>
 x (T33 a b i0) h
def k45_4 : KF := fun c i x r h=>
 .ret (T0 (.bool true)) h
def k45_0 : KF := K1 y0 fun c i x h a=>
 x (T2 a) h
def x45 : AC := (.ah k45_0 (.seq (.ah k45_1 (.block 0 (.loop (.ah wg (.ah zO .skip))))) (.ah k45_4 .skip)))
def f45 : AF := .mk x45 [.t .h0 .h2]
def wi : KF := K3 y5 y6 y7 fun c i x h a b d=>
 Y d b h fun e h=>
 I e (X 1 a d h fun f h=>
 L f h fun g h=>
 tR (kr g h) fun j h=>
 tR (dj j (pi 65535) h) fun k h=>
 I k (.ret (T0 (.bool false)) h) (D d i1 h fun l h=>
 .nm (T33 a b l) h)) (.ex 0 (T33 a b d) h)
def k46_1 : KF := K1 y0 fun c i x h a=>
 G a h fun b h=>
 x (T33 a b i0) h
def k46_3 : KF := fun c i x r h=>
 .ret (T0 (.bool true)) h
def k46_0 : KF := K1 y0 fun c i x h a=>
 x (T2 a) h
def x46 : AC := (.ah k46_0 (.seq (.ah k46_1 (.block 0 (.loop (.ah wi .skip)))) (.ah k46_3 .skip)))
def f46 : AF := .mk x46 [.t .h0 .h2]
def k47_4 : KF := K4 y8 y9 y10 y25 fun c i x h a b d e=>
 I e (.ret (T0 (.bool false)) h) (.nm (T34 a b d) h)
def k47_3 : KF := K3 y8 y9 y10 fun c i x h a b d=>
 X 3 a d h fun e h=>
 M 3 e h fun f h=>
 O 83 3 (.k1 (Y3 i0 i0 iS)) h fun g h=>
 S 3 g f h fun j h=>
 x (T35 g a b d) h
def k47_5 : KF := K3 y8 y9 y10 fun c i x h a b d=>
 D d i1 h fun e h=>
 .nm (T34 a b e) h
def k47_2 : KF := K3 y8 y9 y10 fun c i x h a b d=>
 Y d b h fun e h=>
 I e (x (T34 a b d) h) (.ex 0 T15 h)
def k47_1 : KF := K1 y0 fun c i x h a=>
 G a h fun b h=>
 x (T34 a b i0) h
def k47_6 : KF := fun c i x r h=>
 .ret (T0 (.bool true)) h
def k47_0 : KF := K1 y0 fun c i x h a=>
 G a h fun b h=>
 tR (dj b (pi 255) h) fun d h=>
 I d (.ret (T0 (.bool false)) h) (x (T2 a) h)
def x47 : AC := (.ah k47_0 (.seq (.ah k47_1 (.block 0 (.loop (.ah k47_2 (.seq (.block 1 (.ah k47_3 (.seq (.ops [of d14 0 r4,
 ol d15 r14,
 o d16 (.cI 3 1 1 [i0] [.mk 0 1 r15]),
 oc d17 45 [r16],
 o d18 (.un .not r17),
 m d19 r18,
 .g .h1 .h3 false d20 (.op (.gS 2 r4)),
 .g .h1 .h3 false d21 (.op (.gT r20)),
 .g .h1 .h3 false d22 (.op (.cI 9 1 1 [iS] [.mk 0 1 r21])),
 .g .h1 .h3 false d23 (.call 46 [r22]),
 .g .h1 .h3 false d24 (.op (.un .not r23)),
 o d25 (.pick r19 (.c (.bool true)) r24)]) (.ah k47_4 .skip)))) (.ah k47_5 .skip)))))) (.ah k47_6 .skip)))
def f47 : AF := .mk x47 [.t .h0 .h2]
def Kh : KF := K4 y0 y1 y5 y6 fun c i x h a b d e=>
 X 12 a e h fun f h=>
 M 12 f h fun g h=>
 C c 4 [g] h fun j h=>
 tR (bs 28 12 1 [i0,i0,i0,i0,iS,i0,i0,i0,iS,iS,.ai,.ai] [.mk 0 12 (.c j)] h) fun k h=>
 tR (eF 28 12 d k h) fun l h=>
 D e i1 h fun m h=>
 .nm (T23 a b l m) h
def FE : KF := K4 y0 y1 y5 y6 fun c i x h a b d e=>
 G a h fun f h=>
 Y e f h fun g h=>
 gD g true (fun j=>j e h) h fun j h=>
 gD g true (fun k=>Y j (pi 30) h fun l h=>
 k l h) h fun k h=>
 tR (ei (.c g) (.c k) (.c (.bool false)) .nil h) fun l h=>
 I l (x (T23 a b d e) h) (.ex 0 (T36 b d) h)
def k3_1 : KF := K3 y0 y1 y5 fun c i x h a b d=>
 x (T23 a b d i0) h
def k3_4 : KF := K2 y1 y5 fun c i x h a b=>
 C c 5 [b] h fun d h=>
 E 0 d h fun e h=>
 E 1 d h fun f h=>
 tR (kF f i0 h) fun g h=>
 I g (C c 6 [] h fun j h=>
 .ret (T27 j) h) (G e h fun j h=>
 C c 8 [a,i0,j] h fun k h=>
 tR (fu 1 (.c e) .none (.some (.c k)) .none .nil h) fun l h=>
 C c 7 [l] h fun m h=>
 x (T37 b e m) h)
def k3_0 : KF := K2 y0 y1 fun c i x h a b=>
 x (T22 a b .ai) h
def x3 : AC := (.ah k3_0 (.seq (.ah k3_1 (.block 0 (.loop (.ah FE (.ah Kh .skip))))) (.ah k3_4 (.seq (.ops [m d43 r7,
 oc d44 7 [r43],
 m d45 r5,
 oc d46 9 [r44,r45],
 m d47 r46,
 .g .h2 .hf true d48 (.op (.mv r9)),
 .g .h2 .hf true d49 (.op (.len r48)),
 .g .h2 .hf true d50 (.op (.mv r5)),
 .g .h2 .hf true d51 (.op (.len r50)),
 .g .h2 .hf true d52 (.op (.bin .le r49 r51)),
 o d53 (.pick r47 r52 (.c (.bool false))),
 m d54 r53,
 .g .h3 .h6 true d55 (.op (.mv r9)),
 .g .h3 .h6 true d56 (.op (.mv r5)),
 .g .h3 .h6 true d57 (.op (.mv r9)),
 .g .h3 .h6 true d58 (.op (.len r57)),
 .g .h3 .h6 true d59 (.op (.Rk 12 r56 .none (.some r58) .none)),
 .g .h3 .h6 true d60 (.call 9 [r55,r59]),
 o d61 (.pick r54 r60 (.c (.bool false))),
 m d62 r61,
 .g .h3 .he true d63 (.call 6 []),
 o d64 (.pick r62 r63 (.c (.bool false))),
 m d4 r64]) .ret))))
def f3 : AF := .mk x3 [.t .h0 .h4]
def k7_3 : KF := K4 y3 y4 y5 y26 fun c i x h a b d e=>
 I e (.go 0 (T39 a b d) h) (.nm (T39 a b d) h)
def k7_4 : KF := K3 y3 y4 y5 fun c i x h a b d=>
 C c 24 [a,d] h fun e h=>
 tR (lW e h) fun f h=>
 I f (.ret (T0 b) h) (M 12 d h fun g h=>
 tR (bs 28 12 1 [i0,i0,i0,i0,iS,i0,i0,i0,iS,iS,.ai,.ai] [.mk 0 12 (.c g)] h) fun j h=>
 tR (eF 28 12 b j h) fun k h=>
 .go 0 (T38 a k) h)
def k7_2 : KF := K2 y3 y4 fun c i x h a b=>
 C c 23 [a] h fun d h=>
 U [i0,i0,i0,i0,iS,i0,i0,i0,iS,iS,.ai,.ai] [.mk 0 1 (.c d)] h fun e h=>
 O 28 12 (.k1 (Y12 i0 i0 i0 i0 iS i0 i0 i0 iS iS .ai .ai)) h fun f h=>
 S 12 f e h fun g h=>
 x (T39 a b f) h
def k7_5 : KF := K1 y4 fun c i x h a=>
 .ret (T0 a) h
def k7_1 : KF := K1 y0 fun c i x h a=>
 C c 21 [a] h fun b h=>
 x (T38 b .ai) h
def k7_0 : KF := K1 y0 fun c i x h a=>
 x (T2 a) h
def x7 : AC := (.ah k7_0 (.scope (.ah k7_1 (.seq (.label 0) (.seq (.seq (.ops [m d8 r3,
 oc d9 22 [r8],
 o d10 (.bin .gt r9 a0),
 m d11 r10,
 .g .h0 .hb true d12 (.op (.mv r4)),
 .g .h0 .hb true d13 (.op (.len r12)),
 .g .h0 .hb true d14 (.op (.bin .lt r13 (.c (pi 2048)))),
 o d15 (.pick r11 r14 (.c (.bool false)))]) (.cond r15 (.ah k7_2 (.seq (.seq (.ops [of d19 0 r5,
 ol d20 r19,
 o d21 (.bin .lt r20 a1),
 m d22 r21,
 .g .h1 .h6 false d23 (.op (.gS 0 r5)),
 .g .h1 .h6 false d24 (.op (.gT r23)),
 .g .h1 .h6 false d25 (.op (.bin .gt r24 (.c (pi 9)))),
 o d26 (.pick r22 (.c (.bool true)) r25)]) (.ah k7_3 .skip)) (.ah k7_4 .skip))) .skip)) (.ah k7_5 .skip))))))
def f7 : AF := .mk x7 [.t .h0 .h2]
def k8_1 : KF := K2 y0 y1 fun c i x h a b=>
 D b a h fun d h=>
 .ret (T6 d) h
def k8_0 : KF := K3 y0 y1 y2 fun c i x h a b d=>
 Z d b h fun e h=>
 D e i1 h fun f h=>
 tR (CL a f h) fun g h=>
 Y g i0 h fun j h=>
 I j (D g d h fun k h=>
 Z k b h fun l h=>
 D l i1 h fun m h=>
 x (T40 m b) h) (x (T40 g b) h)
def x8 : AC := (.ah k8_0 (.ah k8_1 .skip))
def f8 : AF := .mk x8 [.t .h0 .h6]
def k9_3 : KF := K3 y0 y1 y5 fun c i x h a b d=>
 D d i1 h fun e h=>
 .nm (T22 a b e) h
def k9_2 : KF := K3 y0 y1 y5 fun c i x h a b d=>
 G a h fun e h=>
 Y d e h fun f h=>
 I f (tQ (iX 12 a d h) fun g=>
 tQ (pY 12 g h) fun j=>
 tQ (iX 12 b d h) fun k=>
 tQ (pY 12 k h) fun l=>
 tX (c 25 [j,l] h) fun m h=>
 tQ (lW m h) fun n=>
 I n (.ret (T27 (.bool false)) h) (x (T22 a b d) h)) (.ex 0 T15 h)
def k9_1 : KF := K2 y0 y1 fun c i x h a b=>
 x (T22 a b i0) h
def k9_4 : KF := fun c i x r h=>
 .ret (T27 (.bool true)) h
def k9_0 : KF := K2 y0 y1 fun c i x h a b=>
 G a h fun d h=>
 G b h fun e h=>
 tR (kF d e h) fun f h=>
 I f (.ret (T27 (.bool false)) h) (x (T40 a b) h)
def x9 : AC := (.ah k9_0 (.seq (.ah k9_1 (.block 0 (.loop (.ah k9_2 (.ah k9_3 .skip))))) (.ah k9_4 .skip)))
def f9 : AF := .mk x9 [.t .h0 .h4]
def k21_0 : KF := K1 y0 fun c i x h a=>
 C c 31 [a] h fun b h=>
 U [.ai,i0,i0,i0] [.mk 0 1 (.c b)] h fun d h=>
 B 101 d h fun e h=>
 .ret (T0 e) h
def x21 : AC := (.ah k21_0 .skip)
def f21 : AF := .mk x21 [.t .h0 .h2]
def k22_0 : KF := K1 y0 fun c i x h a=>
 J a h fun b h=>
 A 2 b h fun d h=>
 L d h fun e h=>
 tR (kF e i0 h) fun f h=>
 I f (.ret (T0 i0) h) (tQ (nC a h) fun g=>
 tQ (fA 0 g h) fun j=>
 tQ (lD j h) fun k=>
 tQ (len k h) fun l=>
 tQ (nC a h) fun m=>
 tQ (fA 1 m h) fun n=>
 tQ (lD n h) fun o=>
 tQ (ny l o h) fun p=>
 .ret (T0 p) h)
def x22 : AC := (.ah k22_0 .skip)
def f22 : AF := .mk x22 [.t .h0 .h2]
def k23_0 : KF := K1 y0 fun c i x h a=>
 C c 39 [a,i1] h fun b h=>
 tR (cK (.toInt .i64) b h) fun d h=>
 .ret (T0 d) h
def x23 : AC := (.ah k23_0 .skip)
def f23 : AF := .mk x23 [.t .h0 .h2]
def wI : KF := K5 y0 y1 y11 y12 y13 fun c i x h a b d e f=>
 D f i1 h fun g h=>
 .nm (T41 a b d e g) h
def uK : KF := K5 y0 y1 y11 y12 y13 fun c i x h a b d e f=>
 X 1 d f h fun g h=>
 L g h fun j h=>
 C c 40 [a] h fun k h=>
 Y k (ni 2147483647) h fun l h=>
 gD l false (fun m=>m k h) h fun m h=>
 gD l false (fun n=>tR (dj m (pi 2147483647) h) fun o h=>
 n o h) h fun n h=>
 tR (ei (.c l) (.c (.bool true)) (.c n) .nil h) fun o h=>
 I o (.ret (T27 (.bool false)) h) (J j h fun p h=>
 W p k h fun q h=>
 x (T41 a b d e f) h)
def rE : KF := K5 y0 y1 y11 y12 y13 fun c i x h a b d e f=>
 Y f e h fun g h=>
 I g (x (T41 a b d e f) h) (.ex 0 (T40 a b) h)
def k24_1 : KF := K2 y0 y1 fun c i x h a b=>
 C c 14 [b] h fun d h=>
 G d h fun e h=>
 x (T41 a b d e i0) h
def k24_6 : KF := K2 y0 y9 fun c i x h a b=>
 C c 43 [a] h fun d h=>
 tR (lW d h) fun e h=>
 gD e true (fun f=>f b h) h fun f h=>
 gD e true (fun g=>Q f i0 h fun j h=>
 g j h) h fun g h=>
 tR (ei (.c e) (.c g) (.c (.bool false)) .nil h) fun j h=>
 .ret (T27 j) h
def k24_5 : KF := K2 y0 y1 fun c i x h a b=>
 C c 41 [a,(pi 255)] h fun d h=>
 J b h fun e h=>
 A 4 e h fun f h=>
 W f d h fun g h=>
 C c 41 [a,(pi 65535)] h fun j h=>
 tR (cK (.Rp 5) j h) fun k h=>
 C c 42 [k] h fun l h=>
 E 0 l h fun m h=>
 E 1 l h fun n h=>
 O 26 7 (.k1 (Y7 i0 i0 i0 iS iS .ai .ai)) h fun o h=>
 S 7 o m h fun p h=>
 M 7 o h fun q h=>
 J b h fun s h=>
 A 5 s h fun t h=>
 S 7 t q h fun v h=>
 x (T42 a n) h
def k24_0 : KF := K2 y0 y1 fun c i x h a b=>
 x (T40 a b) h
def x24 : AC := (.ah k24_0 (.seq (.ah k24_1 (.block 0 (.loop (.ah rE (.ah uK (.ah wI .skip)))))) (.ah k24_5 (.ah k24_6 .skip))))
def f24 : AF := .mk x24 [.t .h0 .h4]
def k25_0 : KF := K2 y0 y1 fun c i x h a b=>
 B 28 a h fun d h=>
 B 28 b h fun e h=>
 x (T1 d e) h
def x25 : AC := (.ah k25_0 (.seq (.ops [of d5 0 r2,
 ol d6 r5,
 of d7 0 r3,
 ol d8 r7,
 o d9 (.bin .eq r6 r8),
 m d10 r9,
 .g .h0 .ha true d11 (.op (.gS 1 r2)),
 .g .h0 .ha true d12 (.op (.gT r11)),
 .g .h0 .ha true d13 (.op (.gS 1 r3)),
 .g .h0 .ha true d14 (.op (.gT r13)),
 .g .h0 .ha true d15 (.op (.bin .eq r12 r14)),
 o d16 (.pick r10 r15 (.c (.bool false))),
 m d17 r16,
 .g .h1 .h1 true d18 (.op (.gS 2 r2)),
 .g .h1 .h1 true d19 (.op (.gT r18)),
 .g .h1 .h1 true d20 (.op (.gS 2 r3)),
 .g .h1 .h1 true d21 (.op (.gT r20)),
 .g .h1 .h1 true d22 (.op (.bin .eq r19 r21)),
 o d23 (.pick r17 r22 (.c (.bool false))),
 m d24 r23,
 .g .h1 .h8 true d25 (.op (.gS 3 r2)),
 .g .h1 .h8 true d26 (.op (.gT r25)),
 .g .h1 .h8 true d27 (.op (.gS 3 r3)),
 .g .h1 .h8 true d28 (.op (.gT r27)),
 .g .h1 .h8 true d29 (.op (.bin .eq r26 r28)),
 o d30 (.pick r24 r29 (.c (.bool false))),
 m d31 r30,
 .g .h1 .hf true d32 (.op (.gS 4 r2)),
 .g .h1 .hf true d33 (.op (.gT r32)),
 .g .h1 .hf true d34 (.op (.gS 4 r3)),
 .g .h1 .hf true d35 (.op (.gT r34)),
 .g .h1 .hf true d36 (.op (.bin .seq r33 r35)),
 o d37 (.pick r31 r36 (.c (.bool false))),
 m d38 r37,
 .g .h2 .h6 true d39 (.op (.gS 5 r2)),
 .g .h2 .h6 true d40 (.op (.pY 7 r39)),
 .g .h2 .h6 true d41 (.op (.gS 5 r3)),
 .g .h2 .h6 true d42 (.op (.pY 7 r41)),
 .g .h2 .h6 true d43 (.call 44 [r40,r42]),
 o d44 (.pick r38 r43 (.c (.bool false))),
 m d4 r44]) .ret))
def f25 : AF := .mk x25 [.t .h0 .h4]
def k42_3 : KF := K5 y0 y2 y4 y5 y6 fun c i x h a b d e f=>
 Z f i1 h fun g h=>
 .nm (T44 a b d e g) h
def zV : KF := K5 y0 y2 y4 y5 y6 fun c i x h a b d e f=>
 tR (dj f i0 h) fun g h=>
 I g (C c 41 [d,(pi 65535)] h fun j h=>
 U [iS,i0] [.mk 0 1 (.c j)] h fun k h=>
 O 70 2 (.k1 (Y2 iS i0)) h fun l h=>
 S 2 l k h fun m h=>
 C c 40 [d] h fun n h=>
 A 1 l h fun o h=>
 W o n h fun p h=>
 A 5 e h fun q h=>
 L q h fun s h=>
 M 2 l h fun t h=>
 tR (bs 70 2 1 [iS,i0] [.mk 0 2 (.c t)] h) fun v h=>
 tR (eF 70 2 s v h) fun w h=>
 A 5 e h fun y h=>
 W y w h fun z h=>
 x (T44 a b d e f) h) (.ex 0 (T43 a b d e) h)
def k42_1 : KF := K4 y0 y2 y4 y5 fun c i x h a b d e=>
 C c 23 [d] h fun f h=>
 x (T44 a b d e f) h
def k42_6 : KF := K5 y0 y2 y4 y5 y8 fun c i x h a b d e f=>
 Z f i1 h fun g h=>
 .nm (T45 a b d e g) h
def k42_5 : KF := K5 y0 y2 y4 y5 y8 fun c i x h a b d e f=>
 tR (dj f i0 h) fun g h=>
 I g (x (T45 a b d e f) h) (.ex 2 (T43 a b d e) h)
def k42_4 : KF := K4 y0 y2 y4 y5 fun c i x h a b d e=>
 C c 23 [d] h fun f h=>
 x (T45 a b d e f) h
def k42_8 : KF := K3 y2 y5 y75 fun c i x h a b d=>
 I d (U [i0,i0,i0,iS,iS,.ai,.ai] [] h fun e h=>
 S 7 a e h fun f h=>
 .ret (T1 a (pi 12)) h) (.nm (T47 a b) h)
def k42_7 : KF := K4 y0 y2 y4 y5 fun c i x h a b d e=>
 C c 71 [d] h fun f h=>
 E 0 f h fun g h=>
 E 1 f h fun j h=>
 x (T46 a b e g) h
def k42_9 : KF := K2 y2 y5 fun c i x h a b=>
 M 7 b h fun d h=>
 S 7 a d h fun e h=>
 .ret (T1 a i0) h
def k42_0 : KF := K1 y0 fun c i x h a=>
 O 26 7 (.k1 (Y7 i0 i0 i0 iS iS .ai .ai)) h fun b h=>
 C c 21 [a] h fun d h=>
 C c 40 [d] h fun e h=>
 C c 40 [d] h fun f h=>
 C c 40 [d] h fun g h=>
 U [i0,i0,i0,iS,iS,.ai,.ai] [.mk 0 1 (.c e),.mk 1 1 (.c f),.mk 2 1 (.c g)] h fun j h=>
 O 26 7 (.k1 (Y7 i0 i0 i0 iS iS .ai .ai)) h fun k h=>
 S 7 k j h fun l h=>
 C c 41 [d,(pi 65535)] h fun m h=>
 A 3 k h fun n h=>
 W n m h fun o h=>
 C c 41 [d,(pi 65535)] h fun p h=>
 A 4 k h fun q h=>
 W q p h fun s h=>
 x (T43 a b d k) h
def x42 : AC := (.ah k42_0 (.seq (.ah k42_1 (.block 0 (.loop (.ah zV (.ah k42_3 .skip))))) (.seq (.ah k42_4 (.block 2 (.loop (.ah k42_5 (.seq (.block 3 (.rS [q 0 (m d52 r4),
 w (oc d53 70 [r52]),
 w (o d54 (.cI 81 3 1 [iS,.ai,(.bool false)] [.mk 0 3 r53])),
 qf 2 d50 6 r5,
 ql 2 d51 r50,
 w (o d55 (.app 81 3 r51 r54)),
 qf 0 d56 6 r5,
 w (os r56 r55)])) (.ah k42_6 .skip)))))) (.seq (.ah k42_7 (.seq (.ops [m d62 r9,
 o d63 (.bin .ne r62 a0),
 m d64 r63,
 .g .h4 .h0 false d65 (.op (.pY 7 r5)),
 .g .h4 .h0 false d66 (.call 28 [r65]),
 .g .h4 .h0 false d67 (.op (.un .not r66)),
 o d68 (.pick r64 (.c (.bool true)) r67),
 m d69 r68,
 .g .h4 .h5 false d70 (.op (.pY 7 r5)),
 .g .h4 .h5 false d71 (.call 17 [r70]),
 .g .h4 .h5 false d72 (.op (.mv r0)),
 .g .h4 .h5 false d73 (.call 72 [r71,r72]),
 .g .h4 .h5 false d74 (.op (.un .not r73)),
 o d75 (.pick r69 (.c (.bool true)) r74)]) (.ah k42_8 .skip))) (.ah k42_9 .skip)))))
def f42 : AF := .mk x42 [.agg 7 .h0 .h2,.t .h0 .h3]
def wk : KF := K3 y5 y6 y7 fun c i x h a b d=>
 tR (dj d i0 h) fun e h=>
 I e (Z d i1 h fun f h=>
 tR (bK .shl a (.int .u64 (.ofNat 8)) h) fun g h=>
 X 1 b f h fun j h=>
 L j h fun k h=>
 tR (cK (.toInt .u64) k h) fun l h=>
 tR (Ln g l h) fun m h=>
 .go 0 (T48 u m b f) h) (.ret (T27 a) h)
def k39_1 : KF := K2 y0 y1 fun c i x h a b=>
 C c 67 [a,b] h fun d h=>
 G d h fun e h=>
 x (T33 (.int .u64 (.ofNat 0)) d e) h
def k39_0 : KF := K2 y0 y1 fun c i x h a b=>
 x (T40 a b) h
def x39 : AC := (.ah k39_0 (.scope (.ah k39_1 (.seq (.label 0) (.ah wk .skip)))))
def f39 : AF := .mk x39 [.t .h0 .h4]
def k40_0 : KF := K1 y0 fun c i x h a=>
 C c 39 [a,(pi 8)] h fun b h=>
 tR (cK (.toInt .i64) b h) fun d h=>
 .ret (T0 d) h
def x40 : AC := (.ah k40_0 .skip)
def f40 : AF := .mk x40 [.t .h0 .h2]
def k41_1 : KF := K4 y0 y5 y6 y23 fun c i x h a b d e=>
 I e (C c 69 [a,(pi 3),b] h fun f h=>
 .nm (T4 a d) h) (.nm (T4 a d) h)
def k41_2 : KF := K2 y0 y6 fun c i x h a b=>
 C c 67 [a,b] h fun d h=>
 tR (cK .Le d h) fun e h=>
 .ret (T27 e) h
def k41_0 : KF := K2 y0 y1 fun c i x h a b=>
 J a h fun d h=>
 A 1 d h fun e h=>
 L e h fun f h=>
 C c 68 [a] h fun g h=>
 x (T23 a b f g) h
def x41 : AC := (.ah k41_0 (.seq (.seq (.ops [m d13 r0,
 oj d14 r13,
 of d15 2 r14,
 ol d16 r15,
 o d17 (.bin .eq r16 a0),
 m d18 r17,
 .g .h1 .h2 true d19 (.op (.mv r6)),
 .g .h1 .h2 true d20 (.op (.mv r1)),
 .g .h1 .h2 true d21 (.op (.max false [r20,a0])),
 .g .h1 .h2 true d22 (.op (.bin .gt r19 r21)),
 o d23 (.pick r18 r22 (.c (.bool false)))]) (.ah k41_1 .skip)) (.ah k41_2 .skip)))
def f41 : AF := .mk x41 [.t .h0 .h4]
def k43_0 : KF := K1 y0 fun c i x h a=>
 J a h fun b h=>
 A 2 b h fun d h=>
 L d h fun e h=>
 tR (kF e i0 h) fun f h=>
 .ret (T0 f) h
def x43 : AC := (.ah k43_0 .skip)
def f43 : AF := .mk x43 [.t .h0 .h2]
def k44_0 : KF := K2 y0 y1 fun c i x h a b=>
 B 26 a h fun d h=>
 B 26 b h fun e h=>
 x (T1 d e) h
def x44 : AC := (.ah k44_0 (.seq (.ops [of d5 0 r2,
 ol d6 r5,
 of d7 0 r3,
 ol d8 r7,
 o d9 (.bin .eq r6 r8),
 m d10 r9,
 .g .h0 .ha true d11 (.op (.gS 1 r2)),
 .g .h0 .ha true d12 (.op (.gT r11)),
 .g .h0 .ha true d13 (.op (.gS 1 r3)),
 .g .h0 .ha true d14 (.op (.gT r13)),
 .g .h0 .ha true d15 (.op (.bin .eq r12 r14)),
 o d16 (.pick r10 r15 (.c (.bool false))),
 m d17 r16,
 .g .h1 .h1 true d18 (.op (.gS 2 r2)),
 .g .h1 .h1 true d19 (.op (.gT r18)),
 .g .h1 .h1 true d20 (.op (.gS 2 r3)),
 .g .h1 .h1 true d21 (.op (.gT r20)),
 .g .h1 .h1 true d22 (.op (.bin .eq r19 r21)),
 o d23 (.pick r17 r22 (.c (.bool false))),
 m d24 r23,
 .g .h1 .h8 true d25 (.op (.gS 3 r2)),
 .g .h1 .h8 true d26 (.op (.gT r25)),
 .g .h1 .h8 true d27 (.op (.gS 3 r3)),
 .g .h1 .h8 true d28 (.op (.gT r27)),
 .g .h1 .h8 true d29 (.op (.bin .seq r26 r28)),
 o d30 (.pick r24 r29 (.c (.bool false))),
 m d31 r30,
 .g .h1 .hf true d32 (.op (.gS 4 r2)),
 .g .h1 .hf true d33 (.op (.gT r32)),
 .g .h1 .hf true d34 (.op (.gS 4 r3)),
 .g .h1 .hf true d35 (.op (.gT r34)),
 .g .h1 .hf true d36 (.op (.bin .seq r33 r35)),
 o d37 (.pick r31 r36 (.c (.bool false))),
 m d38 r37,
 .g .h2 .h6 true d39 (.op (.gS 5 r2)),
 .g .h2 .h6 true d40 (.op (.gT r39)),
 .g .h2 .h6 true d41 (.op (.gS 5 r3)),
 .g .h2 .h6 true d42 (.op (.gT r41)),
 .g .h2 .h6 true d43 (.call 73 [r40,r42]),
 o d44 (.pick r38 r43 (.c (.bool false))),
 m d45 r44,
 .g .h2 .hd true d46 (.op (.gS 6 r2)),
 .g .h2 .hd true d47 (.op (.gT r46)),
 .g .h2 .hd true d48 (.op (.gS 6 r3)),
 .g .h2 .hd true d49 (.op (.gT r48)),
 .g .h2 .hd true d50 (.call 74 [r47,r49]),
 o d51 (.pick r45 r50 (.c (.bool false))),
 m d4 r51]) .ret))
def f44 : AF := .mk x44 [.t .h0 .h4]
def k70_3 : KF := K4 y0 y2 y3 y4 fun c i x h a b d e=>
 Z e i1 h fun f h=>
 .nm (T50 a b d f) h
def zU : KF := K4 y0 y2 y3 y4 fun c i x h a b d e=>
 tR (dj e i0 h) fun f h=>
 I f (C c 40 [a] h fun g h=>
 C c 40 [a] h fun j h=>
 U [i0,i0,iS] [.mk 0 1 (.c g),.mk 1 1 (.c j)] h fun k h=>
 O 83 3 (.k1 (Y3 i0 i0 iS)) h fun l h=>
 S 3 l k h fun m h=>
 C c 41 [a,(pi 65535)] h fun n h=>
 A 2 l h fun o h=>
 W o n h fun p h=>
 A 1 d h fun q h=>
 L q h fun s h=>
 M 3 l h fun t h=>
 tR (bs 83 3 1 [i0,i0,iS] [.mk 0 3 (.c t)] h) fun v h=>
 tR (eF 83 3 s v h) fun w h=>
 A 1 d h fun y h=>
 W y w h fun z h=>
 x (T50 a b d e) h) (.ex 0 (T49 a b d) h)
def k70_1 : KF := K3 y0 y2 y3 fun c i x h a b d=>
 C c 23 [a] h fun e h=>
 x (T50 a b d e) h
def k70_4 : KF := K3 y0 y2 y3 fun c i x h a b d=>
 C c 23 [a] h fun e h=>
 tR (dj e i0 h) fun f h=>
 A 2 d h fun g h=>
 W g f h fun j h=>
 M 3 d h fun k h=>
 S 3 b k h fun l h=>
 .ret (T0 b) h
def k70_0 : KF := K1 y0 fun c i x h a=>
 O 81 3 (.k1 (Y3 iS .ai (.bool false))) h fun b h=>
 C c 41 [a,(pi 65535)] h fun d h=>
 U [iS,.ai,(.bool false)] [.mk 0 1 (.c d)] h fun e h=>
 O 81 3 (.k1 (Y3 iS .ai (.bool false))) h fun f h=>
 S 3 f e h fun g h=>
 x (T49 a b f) h
def x70 : AC := (.ah k70_0 (.seq (.ah k70_1 (.block 0 (.loop (.ah zU (.ah k70_3 .skip))))) (.ah k70_4 .skip)))
def f70 : AF := .mk x70 [.agg 3 .h0 .h2]
def k71_2 : KF := fun c i x r h=>
 .ret (T1 i0 i0) h
def k71_1 : KF := K1 y0 fun c i x h a=>
 J a h fun b h=>
 A 2 b h fun d h=>
 L d h fun e h=>
 tR (kF e i0 h) fun f h=>
 I f (tQ (nC a h) fun g=>
 tQ (fA 2 g h) fun j=>
 tQ (lD j h) fun k=>
 tQ (nC a h) fun l=>
 tQ (fA 3 l h) fun m=>
 tQ (lD m h) fun n=>
 .ret (T1 k n) h) (tQ (nC a h) fun g=>
 tQ (fA 1 g h) fun j=>
 tQ (lD j h) fun k=>
 tQ (nC a h) fun l=>
 tQ (fA 0 l h) fun m=>
 tQ (lD m h) fun n=>
 tQ (len n h) fun o=>
 tQ (wR k o h) fun p=>
 I p (tQ (nC a h) fun q=>
 tQ (fA 1 q h) fun s=>
 tQ (lD s h) fun t=>
 .ret (T1 (pi 11) t) h) (x T15 h))
def k71_0 : KF := K1 y0 fun c i x h a=>
 x (T2 a) h
def x71 : AC := (.ah k71_0 (.ah k71_1 (.ah k71_2 .skip)))
def f71 : AF := .mk x71 [.t .h0 .h2,.t .h0 .h3]
def k72_0 : KF := K2 y0 y1 fun c i x h a b=>
 tR (cK .Le a h) fun d h=>
 tR (cK .Le b h) fun e h=>
 tR (yr d e h) fun f h=>
 .ret (T27 f) h
def x72 : AC := (.ah k72_0 .skip)
def f72 : AF := .mk x72 [.t .h0 .h4]
def k67_3 : KF := K2 y0 y1 fun c i x h a b=>
 tQ (nC a h) fun d=>
 tQ (fA 0 d h) fun e=>
 tQ (lD e h) fun f=>
 tQ (nC a h) fun g=>
 tQ (fA 1 g h) fun j=>
 tQ (lD j h) fun k=>
 tQ (ny k b h) fun l=>
 tQ (nC a h) fun m=>
 tQ (fA 1 m h) fun n=>
 tQ (lD n h) fun o=>
 tQ (fu 1 (.c f) (.some (.c l)) (.some (.c o)) .none .nil h) fun p=>
 .ret (T27 p) h
def k67_2 : KF := K2 y0 y1 fun c i x h a b=>
 J a h fun d h=>
 A 1 d h fun e h=>
 L e h fun f h=>
 D f b h fun g h=>
 J a h fun j h=>
 A 1 j h fun k h=>
 W k g h fun l h=>
 x (T40 a b) h
def k67_1 : KF := K2 y0 y1 fun c i x h a b=>
 tQ (nC a h) fun d=>
 tQ (fA 0 d h) fun e=>
 tQ (lD e h) fun f=>
 tQ (len f h) fun g=>
 tQ (nC a h) fun j=>
 tQ (fA 1 j h) fun k=>
 tQ (lD k h) fun l=>
 tQ (ny g l h) fun m=>
 tQ (dj b m h) fun n=>
 I n (J a h fun o h=>
 A 0 o h fun p h=>
 L p h fun q h=>
 G q h fun s h=>
 C c 69 [a,(pi 10),s] h fun t h=>
 .ret (T27 .ai) h) (x (T40 a b) h)
def k67_0 : KF := K2 y0 y1 fun c i x h a b=>
 J a h fun d h=>
 A 2 d h fun e h=>
 L e h fun f h=>
 tR (kF f i0 h) fun g h=>
 I g (.ret (T27 .ai) h) (x (T40 a b) h)
def x67 : AC := (.ah k67_0 (.ah k67_1 (.ah k67_2 (.ah k67_3 .skip))))
def f67 : AF := .mk x67 [.t .h0 .h4]
def k68_0 : KF := K1 y0 fun c i x h a=>
 C c 39 [a,(pi 2)] h fun b h=>
 tR (cK (.toInt .i64) b h) fun d h=>
 .ret (T0 d) h
def x68 : AC := (.ah k68_0 .skip)
def f68 : AF := .mk x68 [.t .h0 .h2]
def k69_0 : KF := K3 y0 y1 y2 fun c i x h a b d=>
 J a h fun e h=>
 A 2 e h fun f h=>
 L f h fun g h=>
 Q g i0 h fun j h=>
 I j (J a h fun k h=>
 A 2 k h fun l h=>
 W l b h fun m h=>
 J a h fun n h=>
 A 3 n h fun o h=>
 W o d h fun p h=>
 .nm T15 h) (.nm T15 h)
def x69 : AC := (.ah k69_0 .skip)
def f69 : AF := .mk x69 []
def k73_2 : KF := K3 y0 y1 y5 fun c i x h a b d=>
 G a h fun e h=>
 Y d e h fun f h=>
 I f (tQ (iX 2 a d h) fun g=>
 tQ (pY 2 g h) fun j=>
 tQ (iX 2 b d h) fun k=>
 tQ (pY 2 k h) fun l=>
 tQ (bK (.OJ [.s,.i]) j l h) fun m=>
 I m (.ret (T27 (.bool false)) h) (D d i1 h fun n h=>
 .nm (T22 a b n) h)) (.ex 0 (T22 a b d) h)
def k73_1 : KF := K2 y0 y1 fun c i x h a b=>
 x (T22 a b i0) h
def k73_3 : KF := fun c i x r h=>
 .ret (T27 (.bool true)) h
def k73_0 : KF := K2 y0 y1 fun c i x h a b=>
 G a h fun d h=>
 G b h fun e h=>
 tR (kF d e h) fun f h=>
 I f (.ret (T27 (.bool false)) h) (x (T40 a b) h)
def x73 : AC := (.ah k73_0 (.seq (.ah k73_1 (.block 0 (.loop (.ah k73_2 .skip)))) (.ah k73_3 .skip)))
def f73 : AF := .mk x73 [.t .h0 .h4]
def k74_3 : KF := K4 y0 y1 y5 y54 fun c i x h a b d e=>
 I e (.ret (T27 (.bool false)) h) (.nm (T22 a b d) h)
def k74_4 : KF := K3 y0 y1 y5 fun c i x h a b d=>
 D d i1 h fun e h=>
 .nm (T22 a b e) h
def k74_2 : KF := K3 y0 y1 y5 fun c i x h a b d=>
 G a h fun e h=>
 Y d e h fun f h=>
 I f (x (T22 a b d) h) (.ex 0 T15 h)
def k74_1 : KF := K2 y0 y1 fun c i x h a b=>
 x (T22 a b i0) h
def k74_5 : KF := fun c i x r h=>
 .ret (T27 (.bool true)) h
def k74_0 : KF := K2 y0 y1 fun c i x h a b=>
 G a h fun d h=>
 G b h fun e h=>
 tR (kF d e h) fun f h=>
 I f (.ret (T27 (.bool false)) h) (x (T40 a b) h)
def x74 : AC := (.ah k74_0 (.seq (.ah k74_1 (.block 0 (.loop (.ah k74_2 (.seq (.block 1 (.seq (.rS [q 0 (m d17 r0),
 q 0 (m d18 r5),
 q 0 (o d19 (.FO 3 r17 r18)),
 qf 0 d20 0 r19,
 ql 0 d21 r20,
 q 0 (m d22 r1),
 q 0 (m d23 r5),
 q 0 (o d24 (.FO 3 r22 r23)),
 qf 0 d25 0 r24,
 ql 0 d26 r25,
 q 0 (o d27 (.bin .SO r21 r26)),
 q 0 (m d28 r27),
 q 0 (.g .h1 .hc false d29 (.op (.mv r0))),
 q 0 (.g .h1 .hc false d30 (.op (.mv r5))),
 q 0 (.g .h1 .hc false d31 (.op (.FO 3 r29 r30))),
 q 0 (.g .h1 .hc false d32 (.op (.gS 2 r31))),
 q 0 (.g .h1 .hc false d33 (.op (.gT r32))),
 q 0 (.g .h1 .hc false d34 (.op (.mv r1))),
 q 0 (.g .h1 .hc false d35 (.op (.mv r5))),
 q 0 (.g .h1 .hc false d36 (.op (.FO 3 r34 r35))),
 q 0 (.g .h1 .hc false d37 (.op (.gS 2 r36))),
 q 0 (.g .h1 .hc false d38 (.op (.gT r37))),
 q 0 (.g .h1 .hc false d39 (.op (.bin .bne r33 r38))),
 q 0 (o d40 (.pick r28 (.c (.bool true)) r39)),
 q 0 (m d41 r40),
 q 0 (.g .h2 .h9 false d42 (.op (.mv r0))),
 q 0 (.g .h2 .h9 false d43 (.op (.mv r5))),
 q 0 (.g .h2 .h9 false d44 (.op (.FO 3 r42 r43))),
 q 0 (.g .h2 .h9 false d45 (.op (.gS 1 r44))),
 q 0 (.g .h2 .h9 false d46 (.op (.gT r45))),
 q 0 (.g .h2 .h9 false d47 (.op (.mv r1))),
 q 0 (.g .h2 .h9 false d48 (.op (.mv r5))),
 q 0 (.g .h2 .h9 false d49 (.op (.FO 3 r47 r48))),
 q 0 (.g .h2 .h9 false d50 (.op (.gS 1 r49))),
 q 0 (.g .h2 .h9 false d51 (.op (.gT r50))),
 w (.g .h2 .h9 false d52 (.call 99 [r46,r51])),
 q 0 (.g .h2 .h9 false d53 (.op (.un .not r52))),
 q 0 (o d54 (.pick r41 (.c (.bool true)) r53))]) (.ah k74_3 .skip))) (.ah k74_4 .skip)))))) (.ah k74_5 .skip)))
def f74 : AF := .mk x74 [.t .h0 .h4]
def k99_2 : KF := K3 y0 y1 y5 fun c i x h a b d=>
 G a h fun e h=>
 Y d e h fun f h=>
 I f (tQ (iX 3 a d h) fun g=>
 tQ (pY 3 g h) fun j=>
 tQ (iX 3 b d h) fun k=>
 tQ (pY 3 k h) fun l=>
 tQ (bK (.OJ [.i,.i,.s]) j l h) fun m=>
 I m (.ret (T27 (.bool false)) h) (D d i1 h fun n h=>
 .nm (T22 a b n) h)) (.ex 0 (T22 a b d) h)
def k99_1 : KF := K2 y0 y1 fun c i x h a b=>
 x (T22 a b i0) h
def k99_3 : KF := fun c i x r h=>
 .ret (T27 (.bool true)) h
def k99_0 : KF := K2 y0 y1 fun c i x h a b=>
 G a h fun d h=>
 G b h fun e h=>
 tR (kF d e h) fun f h=>
 I f (.ret (T27 (.bool false)) h) (x (T40 a b) h)
def x99 : AC := (.ah k99_0 (.seq (.ah k99_1 (.block 0 (.loop (.ah k99_2 .skip)))) (.ah k99_3 .skip)))
def f99 : AF := .mk x99 [.t .h0 .h4]
def k20_4 : KF := K4 y3 y6 y7 y8 fun c i x h a b d e=>
 D e i1 h fun f h=>
 .nm (T52 a b d f) h
def k20_3 : KF := K4 y3 y6 y7 y8 fun c i x h a b d e=>
 X 18 b e h fun f h=>
 M 18 f h fun g h=>
 O 63 18 (.k2 (.mk (.mk i0 i0 i0 i0 i0 i0 iS i0 i0 i0 iS iS .ai .ai i0 i0) (Y2 iS .ai) .nil .nil .nil .nil .nil .nil .nil .nil .nil .nil .nil .nil .nil .nil)) h fun j h=>
 S 18 j g h fun k h=>
 A 0 j h fun l h=>
 L l h fun m h=>
 Q m i1 h fun n h=>
 I n (C c 35 [a,(.str [99,97,108,108,32])] h fun o h=>
 A 1 j h fun p h=>
 L p h fun q h=>
 C c 36 [q] h fun s h=>
 C c 35 [a,s] h fun t h=>
 A 0 j h fun v h=>
 L v h fun w h=>
 Q w (pi 2) h fun y h=>
 I y (M 18 j h fun z h=>
 C c 37 [a,z] h fun a0 h=>
 C c 35 [a,(.str [10])] h fun a1 h=>
 x (T52 a b d e) h) (C c 35 [a,(.str [10])] h fun z h=>
 x (T52 a b d e) h)) (Q m (pi 2) h fun o h=>
 I o (C c 35 [a,(.str [100,111,110,101,32])] h fun p h=>
 A 1 j h fun q h=>
 L q h fun s h=>
 C c 36 [s] h fun t h=>
 C c 35 [a,t] h fun v h=>
 A 0 j h fun w h=>
 L w h fun y h=>
 Q y (pi 2) h fun z h=>
 I z (M 18 j h fun a0 h=>
 C c 37 [a,a0] h fun a1 h=>
 C c 35 [a,(.str [10])] h fun a2 h=>
 x (T52 a b d e) h) (C c 35 [a,(.str [10])] h fun a0 h=>
 x (T52 a b d e) h)) (Q m (pi 3) h fun p h=>
 I p (C c 35 [a,(.str [98,117,115,121,32])] h fun q h=>
 A 1 j h fun s h=>
 L s h fun t h=>
 C c 36 [t] h fun v h=>
 C c 35 [a,v] h fun w h=>
 A 0 j h fun y h=>
 L y h fun z h=>
 Q z (pi 2) h fun a0 h=>
 I a0 (M 18 j h fun a1 h=>
 C c 37 [a,a1] h fun a2 h=>
 C c 35 [a,(.str [10])] h fun a3 h=>
 x (T52 a b d e) h) (C c 35 [a,(.str [10])] h fun a1 h=>
 x (T52 a b d e) h)) (x (T52 a b d e) h)))
def k20_2 : KF := K4 y3 y6 y7 y8 fun c i x h a b d e=>
 Y e d h fun f h=>
 I f (x (T52 a b d e) h) (.ex 0 (T19 a) h)
def k20_1 : KF := K2 y0 y3 fun c i x h a b=>
 G a h fun d h=>
 x (T52 b a d i0) h
def k20_5 : KF := K1 y3 fun c i x h a=>
 C c 38 [a] h fun b h=>
 .ret (T0 b) h
def k20_0 : KF := K1 y0 fun c i x h a=>
 O 92 2 (.k1 (Y2 .cL .ai)) h fun b h=>
 x (T51 a b) h
def x20 : AC := (.ah k20_0 (.seq (.ah k20_1 (.block 0 (.loop (.ah k20_2 (.ah k20_3 (.ah k20_4 .skip)))))) (.ah k20_5 .skip)))
def f20 : AF := .mk x20 [.t .h0 .h2]
def k35_0 : KF := K2 y0 y1 fun c i x h a b=>
 C c 61 [a] h fun d h=>
 J a h fun e h=>
 A 1 e h fun f h=>
 L f h fun g h=>
 tR (ma 5 (.c g) (.c b) .nil h) fun j h=>
 J a h fun k h=>
 A 1 k h fun l h=>
 W l j h fun m h=>
 tR (kr b h) fun n h=>
 .ret (T53 n .ym) h
def x35 : AC := (.ah k35_0 .skip)
def f35 : AF := .mk x35 [.t .h0 .h4,.t .h0 .h5]
def k36_0 : KF := K1 y0 fun c i x h a=>
 C c 62 [a] h fun b h=>
 .ret (T0 b) h
def x36 : AC := (.ah k36_0 .skip)
def f36 : AF := .mk x36 [.t .h0 .h2]
def k37_5 : KF := K9 y0 y5 y6 y28 y29 y30 y35 y36 y37 fun c i x h a b d e f g j k l=>
 Y l k h fun m h=>
 I m (X 3 j l h fun n h=>
 M 3 n h fun o h=>
 O 83 3 (.k1 (Y3 i0 i0 iS)) h fun p h=>
 S 3 p o h fun q h=>
 M 3 p h fun s h=>
 C c 63 [s] h fun t h=>
 tR (bs 9 1 1 [iS] [.mk 0 1 (.c t)] h) fun v h=>
 tR (eF 9 1 d v h) fun w h=>
 D l i1 h fun y h=>
 .nm (T56 a b w e f g j k y) h) (.ex 2 (T56 a b d e f g j k l) h)
def k37_4 : KF := K6 y0 y5 y6 y28 y29 y30 fun c i x h a b d e f g=>
 A 0 b h fun j h=>
 L j h fun k h=>
 G k h fun l h=>
 x (T56 a b d e f g k l i0) h
def k37_3 : KF := K4 y0 y28 y29 y30 fun c i x h a b d e=>
 X 2 b e h fun f h=>
 M 2 f h fun g h=>
 O 133 2 (.k1 (Y2 .ai (.gU .f64 0 0))) h fun j h=>
 S 2 j g h fun k h=>
 x (T55 a j .ai b d e) h
def k37_6 : KF := K4 y0 y28 y29 y30 fun c i x h a b d e=>
 D e i1 h fun f h=>
 .nm (T54 a b d f) h
def k37_2 : KF := K4 y0 y28 y29 y30 fun c i x h a b d e=>
 Y e d h fun f h=>
 I f (x (T54 a b d e) h) (.ex 0 T15 h)
def k37_1 : KF := K2 y0 y3 fun c i x h a b=>
 A 17 b h fun d h=>
 L d h fun e h=>
 G e h fun f h=>
 x (T54 a e f i0) h
def k37_0 : KF := K2 y0 y1 fun c i x h a b=>
 B 63 b h fun d h=>
 x (T51 a d) h
def x37 : AC := (.ah k37_0 (.seq (.rS [qf 0 d10 14 r3,
 qf 0 d11 0 r10,
 ql 0 d12 r11,
 w (oc d13 36 [r12]),
 qf 1 d16 14 r3,
 qf 1 d17 1 r16,
 ql 1 d18 r17,
 w (oc d19 36 [r18]),
 q 2 (m d9 r0),
 q 1 (o d14 (.bin .cat (.c (.str [32])) r13)),
 q 1 (o d15 (.bin .cat r14 (.c (.str [32])))),
 q 0 (o d20 (.bin .cat r15 r19)),
 q 0 (o d21 (.bin .cat r20 (.c (.str [32])))),
 qf 2 d22 14 r3,
 qf 2 d23 2 r22,
 ql 2 d24 r23,
 q 0 (o d25 (.bin .cat r21 r24)),
 w (oc d26 35 [r9,r25])]) (.ah k37_1 (.block 0 (.loop (.ah k37_2 (.seq (.block 1 (.ah k37_3 (.seq (.ah k37_4 (.block 2 (.loop (.ah k37_5 .skip)))) (.rS [q 0 (m d48 r6),
 w (oc d49 64 [r48,(.c (.str [32]))]),
 qf 1 d52 1 r5,
 ql 1 d53 r52,
 w (oc d54 66 [r53]),
 w (oc d55 65 [r54,(.c (pi 10))]),
 q 3 (m d47 r0),
 q 2 (o d50 (.bin .cat (.c (.str [32,91])) r49)),
 q 2 (o d51 (.bin .cat r50 (.c (.str [93,42])))),
 q 0 (o d56 (.bin .cat r51 r55)),
 w (oc d57 35 [r47,r56])])))) (.ah k37_6 .skip))))))))
def f37 : AF := .mk x37 []
def k38_0 : KF := K1 y0 fun c i x h a=>
 tQ (nC a h) fun b=>
 tQ (fA 1 b h) fun d=>
 tQ (lD d h) fun e=>
 tQ (mf (.c e) .nil h) fun f=>
 tQ (nC a h) fun g=>
 tQ (fA 1 g h) fun j=>
 tQ (lD j h) fun k=>
 tQ (len k h) fun l=>
 tX (RV.lH (ou 5 (.c f) (.c l) .nil h)) fun m h=>
 .ret (T0 m) h
def x38 : AC := (.ah k38_0 .skip)
def f38 : AF := .mk x38 [.t .h0 .h2]
def k61_1 : KF := K1 y0 fun c i x h a=>
 tR (cK .Te a h) fun b h=>
 C c 94 [b] h fun d h=>
 tR (cK (.Gn 92 2) d h) fun e h=>
 J a h fun f h=>
 A 0 f h fun g h=>
 W g e h fun j h=>
 .nm T15 h
def k61_2 : KF := K1 y0 fun c i x h a=>
 J a h fun b h=>
 A 0 b h fun d h=>
 L d h fun e h=>
 tR (bK .Td e a h) fun f h=>
 x (T57 f) h
def k61_0 : KF := K1 y0 fun c i x h a=>
 J a h fun b h=>
 A 0 b h fun d h=>
 L d h fun e h=>
 tR (bK .qc e .cL h) fun f h=>
 x (T4 a f) h
def x61 : AC := (.ah k61_0 (.cond r6 (.ah k61_1 .skip) (.ah k61_2 (.cond r19 (.bad 403) .skip))))
def f61 : AF := .mk x61 []
def k62_0 : KF := K1 y0 fun c i x h a=>
 C c 95 [a,(pi 10)] h fun b h=>
 .ret (T0 b) h
def x62 : AC := (.ah k62_0 .skip)
def f62 : AF := .mk x62 [.t .h0 .h2]
def k95_4 : KF := K4 y0 y5 y6 y7 fun c i x h a b d e=>
 D i1 e h fun f h=>
 tR (kK 24 1 (.c b) (.some (.c i1)) (.some (.c f)) .none .nil h) fun g h=>
 C c 129 [g,d] h fun j h=>
 Y a i0 h fun k h=>
 I k (tR (OH 24 1 b i0 h) fun l h=>
 W l (.int .u8 (.ofNat 45)) h fun m h=>
 D i1 e h fun n h=>
 tR (kK 24 1 (.c b) .none (.some (.c n)) .none .nil h) fun o h=>
 tR (cK .Le o h) fun p h=>
 .ret (T27 p) h) (D i1 e h fun l h=>
 tR (kK 24 1 (.c b) (.some (.c i1)) (.some (.c l)) .none .nil h) fun m h=>
 tR (cK .Le m h) fun n h=>
 .ret (T27 n) h)
def k95_3 : KF := K1 y0 fun c i x h a=>
 O 232 24 (.k2 (.mk (.mk (.int .u8 (.ofNat 0)) (.int .u8 (.ofNat 0)) (.int .u8 (.ofNat 0)) (.int .u8 (.ofNat 0)) (.int .u8 (.ofNat 0)) (.int .u8 (.ofNat 0)) (.int .u8 (.ofNat 0)) (.int .u8 (.ofNat 0)) (.int .u8 (.ofNat 0)) (.int .u8 (.ofNat 0)) (.int .u8 (.ofNat 0)) (.int .u8 (.ofNat 0)) (.int .u8 (.ofNat 0)) (.int .u8 (.ofNat 0)) (.int .u8 (.ofNat 0)) (.int .u8 (.ofNat 0))) (Y8 (.int .u8 (.ofNat 0)) (.int .u8 (.ofNat 0)) (.int .u8 (.ofNat 0)) (.int .u8 (.ofNat 0)) (.int .u8 (.ofNat 0)) (.int .u8 (.ofNat 0)) (.int .u8 (.ofNat 0)) (.int .u8 (.ofNat 0))) .nil .nil .nil .nil .nil .nil .nil .nil .nil .nil .nil .nil .nil .nil)) h fun b h=>
 tR (cK (.toInt .u64) a h) fun d h=>
 Y a i0 h fun e h=>
 I e (tR (CQ d h) fun f h=>
 C c 128 [f] h fun g h=>
 x (T59 a b f g) h) (C c 128 [d] h fun f h=>
 x (T59 a b d f) h)
def k95_2 : KF := K1 y0 fun c i x h a=>
 tR (Bh i0 a h) fun b h=>
 gD b true (fun d=>d a h) h fun d h=>
 gD b true (fun e=>Y d (pi 100) h fun f h=>
 e f h) h fun e h=>
 tR (ei (.c b) (.c e) (.c (.bool false)) .nil h) fun f h=>
 I f (C c 127 [a] h fun g h=>
 .ret (T27 g) h) (x (T2 a) h)
def k95_1 : KF := K2 y0 y1 fun c i x h a b=>
 Q b (pi 10) h fun d h=>
 x (T58 a b d) h
def k95_5 : KF := K2 y0 y1 fun c i x h a b=>
 tR (cK (.toInt .u64) a h) fun d h=>
 Y a i0 h fun e h=>
 C c 130 [.ai,d,b,e,(.bool false)] h fun f h=>
 E 0 f h fun g h=>
 E 1 f h fun j h=>
 .ret (T27 j) h
def k95_0 : KF := K2 y0 y1 fun c i x h a b=>
 x (T40 a b) h
def x95 : AC := (.ah k95_0 (.seq (.ah k95_1 (.cond r11 (.ah k95_2 (.ah k95_3 (.ah k95_4 .skip))) .skip)) (.ah k95_5 .skip)))
def f95 : AF := .mk x95 [.t .h0 .h4]
def k127_0 : KF := K1 y0 fun c i x h a=>
 Y a (pi 10) h fun b h=>
 I b (D a i1 h fun d h=>
 tR (fw (.c (.str [48,49,50,51,52,53,54,55,56,57,97,98,99,100,101,102,103,104,105,106,107,108,109,110,111,112,113,114,115,116,117,118,119,120,121,122])) (.some (.c a)) (.some (.c d)) .nil h) fun e h=>
 .ret (T0 e) h) (tR (CJ a (pi 2) h) fun d h=>
 tR (CJ a (pi 2) h) fun e h=>
 D e (pi 2) h fun f h=>
 tR (fw (.c (.str [48,48,48,49,48,50,48,51,48,52,48,53,48,54,48,55,48,56,48,57,49,48,49,49,49,50,49,51,49,52,49,53,49,54,49,55,49,56,49,57,50,48,50,49,50,50,50,51,50,52,50,53,50,54,50,55,50,56,50,57,51,48,51,49,51,50,51,51,51,52,51,53,51,54,51,55,51,56,51,57,52,48,52,49,52,50,52,51,52,52,52,53,52,54,52,55,52,56,52,57,53,48,53,49,53,50,53,51,53,52,53,53,53,54,53,55,53,56,53,57,54,48,54,49,54,50,54,51,54,52,54,53,54,54,54,55,54,56,54,57,55,48,55,49,55,50,55,51,55,52,55,53,55,54,55,55,55,56,55,57,56,48,56,49,56,50,56,51,56,52,56,53,56,54,56,55,56,56,56,57,57,48,57,49,57,50,57,51,57,52,57,53,57,54,57,55,57,56,57,57])) (.some (.c d)) (.some (.c f)) .nil h) fun g h=>
 .ret (T0 g) h)
def x127 : AC := (.ah k127_0 .skip)
def f127 : AF := .mk x127 [.t .h0 .h2]
def k6_0 : KF := fun c i x r h=>
 C c 19 [(pi 3),.ai] h fun a h=>
 O 55 3 (.k1 (Y3 i0 .ai .ai)) h fun b h=>
 S 3 b a h fun d h=>
 x (T12 b) h
def x6 : AC := (.ah k6_0 (.seq (.ops [of d3 0 r1,
 ol d4 r3,
 o d5 (.bin .eq r4 a0),
 m d6 r5,
 .g .h0 .h6 true d7 (.op (.gS 1 r1)),
 .g .h0 .h6 true d8 (.op (.gT r7)),
 .g .h0 .h6 true d9 (.op (.len r8)),
 .g .h0 .h6 true d10 (.op (.bin .eq r9 a0)),
 o d11 (.pick r6 r10 (.c (.bool false))),
 m d12 r11,
 .g .h0 .hc true d13 (.op (.gS 2 r1)),
 .g .h0 .hc true d14 (.op (.gT r13)),
 .g .h0 .hc true d15 (.op (.len r14)),
 .g .h0 .hc true d16 (.op (.bin .eq r15 a0)),
 o d17 (.pick r12 r16 (.c (.bool false))),
 m d18 r17,
 .g .h1 .h2 true d19 (.op (.build [i0,i0,i0,i0,i0,i0,iS,i0,i0,i0,iS,iS,.ai,.ai,i0,i0,iS,.ai] [.mk 0 1 a2,.mk 1 1 (.c (pi 3))])),
 .g .h1 .h2 true d20 (.op (.cI 63 18 1 [i0,i0,i0,i0,i0,i0,iS,i0,i0,i0,iS,iS,.ai,.ai,i0,i0,iS,.ai] [.mk 0 18 r19])),
 .g .h1 .h2 true d21 (.call 20 [r20]),
 .g .h1 .h2 true d22 (.op (.bin .seq r21 (.c (.str [100,111,110,101,32,51,32,48,32,48,32,10])))),
 o d23 (.pick r18 r22 (.c (.bool false))),
 m d0 r23]) .ret))
def f6 : AF := .mk x6 [.t .h0 .h0]
def k19_3 : KF := K5 y1 y4 y5 y7 y8 fun c i x h a b d e f=>
 D f i1 h fun g h=>
 .nm (T61 a b d e g) h
def k19_2 : KF := K5 y1 y4 y5 y7 y8 fun c i x h a b d e f=>
 G a h fun g h=>
 Y f g h fun j h=>
 gD j true (fun k=>k f h) h fun k h=>
 gD j true (fun l=>Y k (pi 2048) h fun m h=>
 l m h) h fun l h=>
 tR (ei (.c j) (.c l) (.c (.bool false)) .nil h) fun m h=>
 I m (x (T61 a b d e f) h) (.ex 0 (T62 b d e) h)
def k19_1 : KF := K4 y1 y4 y5 y7 fun c i x h a b d e=>
 x (T61 a b d e i0) h
def k19_4 : KF := K3 y4 y5 y7 fun c i x h a b d=>
 C c 34 [b] h fun e h=>
 A 2 d h fun f h=>
 W f e h fun g h=>
 M 3 d h fun j h=>
 S 3 a j h fun k h=>
 .ret (T27 a) h
def k19_0 : KF := K2 y0 y1 fun c i x h a b=>
 O 55 3 (.k1 (Y3 i0 .ai .ai)) h fun d h=>
 C c 32 [a] h fun e h=>
 E 0 e h fun f h=>
 E 1 e h fun g h=>
 tR (kF g i0 h) fun j h=>
 I j (U [i0,.ai,.ai] [.mk 0 1 (.c g)] h fun k h=>
 S 3 d k h fun l h=>
 .ret (T27 d) h) (O 55 3 (.k1 (Y3 i0 .ai .ai)) h fun k h=>
 x (T60 b d f k) h)
def x19 : AC := (.ah k19_0 (.seq (.ah k19_1 (.block 0 (.loop (.ah k19_2 (.seq (.block 1 (.rS [q 0 (m d30 r5),
 q 0 (m d31 r1),
 q 0 (m d32 r8),
 q 0 (o d33 (.FO 12 r31 r32)),
 q 0 (o d34 (.pY 12 r33)),
 w (oc d35 33 [r30,r34]),
 qf 1 d28 1 r7,
 ql 1 d29 r28,
 w (o d36 (.app 63 18 r29 r35)),
 qf 0 d37 1 r7,
 w (os r37 r36)])) (.ah k19_3 .skip)))))) (.ah k19_4 .skip)))
def f19 : AF := .mk x19 [.agg 3 .h0 .h4]
def k32_3 : KF := K3 y6 y21 y22 fun c i x h a b d=>
 D d i1 h fun e h=>
 .nm (T63 a b e) h
def k32_2 : KF := K3 y6 y21 y22 fun c i x h a b d=>
 Y d b h fun e h=>
 I e (x (T63 a b d) h) (.ex 0 (T6 a) h)
def k32_1 : KF := K2 y0 y6 fun c i x h a b=>
 x (T63 b a i0) h
def k32_4 : KF := K1 y6 fun c i x h a=>
 .ret (T1 a i0) h
def k32_0 : KF := K1 y0 fun c i x h a=>
 C c 48 [a] h fun b h=>
 E 0 b h fun d h=>
 E 1 b h fun e h=>
 tR (kF e i0 h) fun f h=>
 I f (.ret (T1 .cL e) h) (tR (hY 3 [i0] (.c a) (.c a) .nil h) fun g h=>
 U [.cL,i0,.ai,.ai,(.bool false),(.bool false),i0,i0,i0,i0,i0,iS,i0,i0,i0,iS,iS,.ai,.ai,iS,i0,i0,(.bool false),(.bool false),i0,i0,i0,i0,i0,iS,i0,i0,i0,iS,iS,.ai,.ai,iS,i0,i0,(.bool false),(.bool false),i0,i0,i0,i0,i0,iS,i0,i0,i0,iS,iS,.ai,.ai,iS,i0,i0,(.bool false),(.bool false),i0,i0,i0,i0,i0,iS,i0,i0,i0,iS,iS,.ai,.ai,iS,i0,i0,(.bool false),(.bool false),i0,i0,i0,i0,i0,iS,i0,i0,i0,iS,iS,.ai,.ai,iS,i0,i0,(.bool false),(.bool false),i0,i0,i0,i0,i0,iS,i0,i0,i0,iS,iS,.ai,.ai,iS,i0,i0,(.bool false),(.bool false),i0,i0,i0,i0,i0,iS,i0,i0,i0,iS,iS,.ai,.ai,iS,i0,i0,(.bool false),(.bool false),i0,i0,i0,i0,i0,iS,i0,i0,i0,iS,iS,.ai,.ai,iS,i0,i0,(.bool false),(.bool false),i0,i0,i0,i0,i0,iS,i0,i0,i0,iS,iS,.ai,.ai,iS,i0,i0,(.bool false),(.bool false),i0,i0,i0,i0,i0,iS,i0,i0,i0,iS,iS,.ai,.ai,iS,i0,i0,(.bool false),(.bool false),i0,i0,i0,i0,i0,iS,i0,i0,i0,iS,iS,.ai,.ai,iS,i0,i0,(.bool false),(.bool false),i0,i0,i0,i0,i0,iS,i0,i0,i0,iS,iS,.ai,.ai,iS,i0,i0,(.bool false),(.bool false),i0,i0,i0,i0,i0,iS,i0,i0,i0,iS,iS,.ai,.ai,iS,i0,i0,(.bool false),(.bool false),i0,i0,i0,i0,i0,iS,i0,i0,i0,iS,iS,.ai,.ai,iS,i0,i0,(.bool false),(.bool false),i0,i0,i0,i0,i0,iS,i0,i0,i0,iS,iS,.ai,.ai,iS,i0,i0,(.bool false),(.bool false),i0,i0,i0,i0,i0,iS,i0,i0,i0,iS,iS,.ai,.ai,iS,i0,i0,i0,.ai] [.mk 0 1 (.c d),.mk 1 1 (.c a),.mk 3 1 (.c g)] h fun j h=>
 B 119 j h fun k h=>
 x (T4 a k) h)
def x32 : AC := (.ah k32_0 (.seq (.ah k32_1 (.block 0 (.loop (.ah k32_2 (.seq (.block 1 (.rS [w (oc d29 49 []),
 w (o d30 (.cI 120 1 1 [.cL] [.mk 0 1 r29])),
 q 2 (m d25 r6),
 qj 2 d26 r25,
 qf 2 d27 2 r26,
 ql 2 d28 r27,
 w (o d31 (.app 120 1 r28 r30)),
 q 3 (m d24 r6),
 qj 0 d32 r24,
 qf 0 d33 2 r32,
 w (os r33 r31)])) (.ah k32_3 .skip)))))) (.ah k32_4 .skip)))
def f32 : AF := .mk x32 [.t .h0 .h2,.t .h0 .h3]
def k34_2 : KF := K3 y3 y9 y10 fun c i x h a b d=>
 Y d (pi 16) h fun e h=>
 I e (tR (oo 16 18 true (.c b) (.c d) .nil h) fun f h=>
 O 116 18 (.k2 (.mk (.mk (.bool false) (.bool false) i0 i0 i0 i0 i0 iS i0 i0 i0 iS iS .ai .ai iS) (Y2 i0 i0) .nil .nil .nil .nil .nil .nil .nil .nil .nil .nil .nil .nil .nil .nil)) h fun g h=>
 S 18 g f h fun j h=>
 A 0 g h fun k h=>
 L k h fun l h=>
 I l (tR (bs 3 1 1 [i0] [.mk 0 1 (.c d)] h) fun m h=>
 tR (eF 3 1 a m h) fun n h=>
 D d i1 h fun o h=>
 .nm (T64 n b o) h) (D d i1 h fun m h=>
 .nm (T64 a b m) h)) (.ex 0 (T64 a b d) h)
def k34_1 : KF := K2 y0 y3 fun c i x h a b=>
 J a h fun d h=>
 A 4 d h fun e h=>
 M 288 e h fun f h=>
 x (T64 b f i0) h
def k34_3 : KF := K1 y3 fun c i x h a=>
 .ret (T0 a) h
def k34_0 : KF := K1 y0 fun c i x h a=>
 x (T51 a .ai) h
def x34 : AC := (.ah k34_0 (.seq (.ah k34_1 (.block 0 (.loop (.ah k34_2 .skip)))) (.ah k34_3 .skip)))
def f34 : AF := .mk x34 [.t .h0 .h2]
def k48_1 : KF := K1 y0 fun c i x h a=>
 U [i0,iS,.ai,i0,iS,.ai,i0,iS,.ai,i0,iS,.ai,i0,iS,.ai,.ai] [] h fun b h=>
 B 153 b h fun d h=>
 U [.cL,.cL] [.mk 1 1 (.c d)] h fun e h=>
 B 156 e h fun f h=>
 J f h fun g h=>
 A 1 g h fun j h=>
 L j h fun k h=>
 C c 75 [a,(.iface 148 k)] h fun l h=>
 J f h fun m h=>
 A 0 m h fun n h=>
 W n l h fun o h=>
 .ret (T1 f i0) h
def k48_0 : KF := K1 y0 fun c i x h a=>
 Y a i1 h fun b h=>
 gD b false (fun d=>d a h) h fun d h=>
 gD b false (fun e=>tR (dj d (pi 5) h) fun f h=>
 e f h) h fun e h=>
 tR (ei (.c b) (.c (.bool true)) (.c e) .nil h) fun f h=>
 I f (.ret (T1 .cL i1) h) (x (T2 a) h)
def x48 : AC := (.ah k48_0 (.ah k48_1 .skip))
def f48 : AF := .mk x48 [.t .h0 .h2,.t .h0 .h3]
def k49_0 : KF := fun c i x r h=>
 C c 76 [] h fun a h=>
 U [.cL,i0] [.mk 0 1 (.c a)] h fun b h=>
 B 161 b h fun d h=>
 .ret (T2 d) h
def x49 : AC := (.ah k49_0 .skip)
def f49 : AF := .mk x49 [.t .h0 .h0]
def k75_3 : KF := K3 y5 y12 y13 fun c i x h a b d=>
 x (T68 a d b d) h
def k75_4 : KF := K3 y5 y12 y13 fun c i x h a b d=>
 D d i1 h fun e h=>
 .nm (T66 a b e) h
def k75_2 : KF := K3 y5 y12 y13 fun c i x h a b d=>
 Y d b h fun e h=>
 I e (x (T66 a b d) h) (.ex 0 (T67 a) h)
def k75_1 : KF := K2 y0 y5 fun c i x h a b=>
 x (T66 b a i0) h
def k75_6 : KF := K4 y5 y34 y35 y36 fun c i x h a b d e=>
 Y e d h fun f h=>
 I f (X 1 b e h fun g h=>
 L g h fun j h=>
 C c 101 [j,(.bool false)] h fun k h=>
 D e i1 h fun l h=>
 .nm (T69 a b d l) h) (.ex 2 (T69 a b d e) h)
def k75_5 : KF := K1 y5 fun c i x h a=>
 J a h fun b h=>
 A 1 b h fun d h=>
 L d h fun e h=>
 G e h fun f h=>
 x (T69 a e f i0) h
def k75_7 : KF := K1 y5 fun c i x h a=>
 .ret (T27 a) h
def k75_0 : KF := K2 y0 y1 fun c i x h a b=>
 U [.ai,.ai,.ym] [.mk 2 1 (.c b)] h fun d h=>
 B 182 d h fun e h=>
 x (T65 a e) h
def x75 : AC := (.ah k75_0 (.seq (.ah k75_1 (.block 0 (.loop (.ah k75_2 (.seq (.block 1 (.ah k75_3 (.rS [w (oc d23 100 []),
 q 1 (m d21 r5),
 q 1 (m d22 r6),
 q 0 (o d24 (.build [.cL,i0,.cL,i0,(.bool false),i0,i0,.cL,.cL,.cL,i0,.lA,i0,i0,i0,.lA,iS,.ai,i0,i0,.lA,i0,i0,i0,(.bool false)] [.mk 0 1 r21,.mk 1 1 r22,.mk 2 1 r23])),
 w (o d25 (.box 196 r24)),
 w (o d26 (.cI 183 1 1 [.cL] [.mk 0 1 r25])),
 q 3 (m d17 r5),
 qj 3 d18 r17,
 qf 3 d19 1 r18,
 ql 3 d20 r19,
 w (o d27 (.app 183 1 r20 r26)),
 q 4 (m d16 r5),
 qj 0 d28 r16,
 qf 0 d29 1 r28,
 w (os r29 r27)]))) (.ah k75_4 .skip)))))) (.seq (.ah k75_5 (.block 2 (.loop (.ah k75_6 .skip)))) (.ah k75_7 .skip))))
def f75 : AF := .mk x75 [.t .h0 .h4]
def k76_0 : KF := fun c i x r h=>
 C c 102 [] h fun a h=>
 tR (SM h) fun b h=>
 C c 103 [] h fun d h=>
 U [.cL,.ai,.lA,.cL] [.mk 0 1 (.c a),.mk 2 1 (.c b),.mk 3 1 (.c d)] h fun e h=>
 B 205 e h fun f h=>
 .ret (T2 f) h
def x76 : AC := (.ah k76_0 .skip)
def f76 : AF := .mk x76 [.t .h0 .h0]
def k100_0 : KF := fun c i x r h=>
 U [.ai,i0] [] h fun a h=>
 B 240 a h fun b h=>
 .ret (T2 b) h
def x100 : AC := (.ah k100_0 .skip)
def f100 : AF := .mk x100 [.t .h0 .h0]
def k101_6 : KF := K4 y0 y81 y82 y83 fun c i x h a b d e=>
 Y e d h fun f h=>
 I f (X 1 b e h fun g h=>
 L g h fun j h=>
 C c 21 [j] h fun k h=>
 C c 139 [a,k] h fun l h=>
 D e i1 h fun m h=>
 .nm (T71 a b d m) h) (.ex 0 (T71 a b d e) h)
def k101_5 : KF := K2 y0 y4 fun c i x h a b=>
 G b h fun d h=>
 x (T71 a b d i0) h
def k101_9 : KF := K1 y0 fun c i x h a=>
 C c 141 [a] h fun b h=>
 .nm T15 h
def k101_8 : KF := K1 y0 fun c i x h a=>
 tQ (nC a h) fun b=>
 tQ (fA 0 b h) fun d=>
 tQ (lD d h) fun e=>
 tQ (nC e h) fun f=>
 tQ (fA 2 f h) fun g=>
 tQ (lD g h) fun j=>
 tQ (nC a h) fun k=>
 tQ (fA 1 k h) fun l=>
 tQ (lD l h) fun m=>
 tQ (nC a h) fun n=>
 tQ (fA 13 n h) fun o=>
 tQ (fA 1 o h) fun p=>
 tQ (lD p h) fun q=>
 tQ (nC a h) fun s=>
 tQ (fA 13 s h) fun t=>
 tQ (fA 3 t h) fun v=>
 tQ (lD v h) fun w=>
 tQ (nC j h) fun y=>
 tX (i 0 j [m,q,w] h) fun z h=>
 x (T2 a) h
def k101_7 : KF := K1 y0 fun c i x h a=>
 J a h fun b h=>
 A 6 b h fun d h=>
 L d h fun e h=>
 D e i1 h fun f h=>
 J a h fun g h=>
 A 6 g h fun j h=>
 W j f h fun k h=>
 C c 140 [a] h fun l h=>
 x (T2 a) h
def k101_4 : KF := K1 y0 fun c i x h a=>
 J a h fun b h=>
 A 2 b h fun d h=>
 L d h fun e h=>
 C c 138 [e] h fun f h=>
 C c 137 [f] h fun g h=>
 E 0 g h fun j h=>
 E 1 g h fun k h=>
 x (T70 a j) h
def k101_3 : KF := K2 y0 y1 fun c i x h a b=>
 J a h fun d h=>
 A 3 d h fun e h=>
 L e h fun f h=>
 J a h fun g h=>
 A 19 g h fun j h=>
 W j i0 h fun k h=>
 J a h fun l h=>
 A 22 l h fun m h=>
 W m i0 h fun n h=>
 J a h fun o h=>
 A 23 o h fun p h=>
 W p f h fun q h=>
 J a h fun s h=>
 A 24 s h fun t h=>
 W t b h fun v h=>
 x (T2 a) h
def k101_2 : KF := K2 y0 y1 fun c i x h a b=>
 U [i0,i0,.lA,iS] [] h fun d h=>
 J a h fun e h=>
 A 13 e h fun f h=>
 S 4 f d h fun g h=>
 x (T40 a b) h
def k101_1 : KF := K2 y0 y1 fun c i x h a b=>
 tR (SM h) fun d h=>
 J a h fun e h=>
 A 11 e h fun f h=>
 W f d h fun g h=>
 J a h fun j h=>
 A 17 j h fun k h=>
 W k .ai h fun l h=>
 J a h fun m h=>
 A 18 m h fun n h=>
 W n i0 h fun o h=>
 J a h fun p h=>
 A 6 p h fun q h=>
 W q i0 h fun s h=>
 J a h fun t h=>
 A 10 t h fun v h=>
 W v i0 h fun w h=>
 J a h fun y h=>
 A 12 y h fun z h=>
 W z i0 h fun a0 h=>
 x (T40 a b) h
def k101_0 : KF := K2 y0 y1 fun c i x h a b=>
 J a h fun d h=>
 A 4 d h fun e h=>
 W e (.bool true) h fun f h=>
 x (T40 a b) h
def x101 : AC := (.ah k101_0 (.seq (.rS [w (oc d14 133 []),
 w (oc d15 134 []),
 q 2 (m d20 r0),
 qj 2 d21 r20,
 qf 2 d22 0 r21,
 ql 2 d23 r22,
 w (oc d24 136 [r23]),
 q 3 (m d16 r0),
 qj 3 d17 r16,
 qf 3 d18 1 r17,
 ql 3 d19 r18,
 w (oc d25 135 [r19,r24]),
 q 4 (m d11 r0),
 qj 0 d26 r11,
 qf 0 d27 7 r26,
 w (os r27 r14),
 q 5 (m d12 r0),
 qj 0 d28 r12,
 qf 0 d29 9 r28,
 w (os r29 r15),
 q 6 (m d13 r0),
 qj 0 d30 r13,
 qf 0 d31 8 r30,
 w (os r31 r25)]) (.ah k101_1 (.ah k101_2 (.ah k101_3 (.ah k101_4 (.seq (.ah k101_5 (.block 0 (.loop (.ah k101_6 .skip)))) (.ah k101_7 (.ah k101_8 (.ah k101_9 .skip))))))))))
def f101 : AF := .mk x101 []
def k102_0 : KF := fun c i x r h=>
 U [.ai,.ai] [] h fun a h=>
 B 251 a h fun b h=>
 .ret (T2 b) h
def x102 : AC := (.ah k102_0 .skip)
def f102 : AF := .mk x102 [.t .h0 .h0]
def k103_0 : KF := fun c i x r h=>
 U [i0,i0,i0,iS,i0,i0,i0,iS,i0,i0,i0,iS,i0,i0,i0,iS,i0,i0,i0,iS,i0,i0,i0,iS,i0,i0,i0,iS,i0,i0,i0,iS,i0,i0,i0,iS,i0,i0,i0,iS,i0,i0,i0,iS,i0,i0,i0,iS,i0,i0,i0,iS,i0,i0,i0,iS,i0,i0,i0,iS,i0,i0,i0,iS] [] h fun a h=>
 B 256 a h fun b h=>
 .ret (T2 b) h
def x103 : AC := (.ah k103_0 .skip)
def f103 : AF := .mk x103 [.t .h0 .h0]
def k133_0 : KF := fun c i x r h=>
 tR (SM h) fun a h=>
 U [i0,i0,.lA,i0] [.mk 2 1 (.c a)] h fun b h=>
 B 301 b h fun d h=>
 .ret (T2 d) h
def x133 : AC := (.ah k133_0 .skip)
def f133 : AF := .mk x133 [.t .h0 .h0]
def k134_0 : KF := fun c i x r h=>
 tR (SM h) fun a h=>
 U [.lA,i0] [.mk 0 1 (.c a)] h fun b h=>
 B 304 b h fun d h=>
 .ret (T2 d) h
def x134 : AC := (.ah k134_0 .skip)
def f134 : AF := .mk x134 [.t .h0 .h0]
def k135_0 : KF := K2 y0 y1 fun c i x h a b=>
 U [i0,i0,i0,i0,i0,i0,.lA,.lA,.lA] [.mk 0 1 (.c a),.mk 1 1 (.c b)] h fun d h=>
 B 307 d h fun e h=>
 .ret (T27 e) h
def x135 : AC := (.ah k135_0 .skip)
def f135 : AF := .mk x135 [.t .h0 .h4]
def k136_0 : KF := K1 y0 fun c i x h a=>
 J a h fun b h=>
 A 1 b h fun d h=>
 L d h fun e h=>
 G e h fun f h=>
 .ret (T0 f) h
def x136 : AC := (.ah k136_0 .skip)
def f136 : AF := .mk x136 [.t .h0 .h2]
def k137_3 : KF := K5 y0 y4 y5 y6 y35 fun c i x h a b d e f=>
 I f (.ex 0 (T73 a b d e) h) (.nm (T73 a b d e) h)
def k137_5 : KF := K4 y0 y4 y5 y6 fun c i x h a b d e=>
 D (pi 8) e h fun f h=>
 D d f h fun g h=>
 .nm (T72 a b g) h
def k137_4 : KF := K4 y0 y4 y5 y6 fun c i x h a b d e=>
 D d (pi 8) h fun f h=>
 D d (pi 8) h fun g h=>
 D g e h fun j h=>
 tR (fu 1 (.c a) (.some (.c f)) (.some (.c j)) .none .nil h) fun k h=>
 C c 179 [k] h fun l h=>
 E 0 l h fun m h=>
 E 1 l h fun n h=>
 tR (lW n h) fun o h=>
 I o (.ex 0 (T53 b d) h) (tR (bs 30 1 1 [.ai] [.mk 0 1 (.c m)] h) fun p h=>
 tR (eF 30 1 b p h) fun q h=>
 x (T73 a q d e) h)
def k137_2 : KF := K3 y0 y4 y5 fun c i x h a b d=>
 D d (pi 8) h fun e h=>
 tR (fu 1 (.c a) (.some (.c d)) (.some (.c e)) .none .nil h) fun f h=>
 C c 21 [f] h fun g h=>
 C c 40 [g] h fun j h=>
 x (T73 a b d j) h
def k137_1 : KF := K3 y0 y4 y5 fun c i x h a b d=>
 G a h fun e h=>
 Z e d h fun f h=>
 tR (Lw f (pi 8) h) fun g h=>
 I g (x (T72 a b d) h) (.ex 0 (T53 b d) h)
def k137_6 : KF := K2 y4 y5 fun c i x h a b=>
 .ret (T1 a b) h
def k137_0 : KF := K1 y0 fun c i x h a=>
 x (T72 a .ai i0) h
def x137 : AC := (.ah k137_0 (.seq (.block 0 (.loop (.ah k137_1 (.block 1 (.ah k137_2 (.seq (.seq (.ops [m d21 r6,
 o d22 (.bin .lt r21 a0),
 m d23 r22,
 .g .h1 .h7 false d24 (.op (.mv r6)),
 .g .h1 .h7 false d25 (.op (.bin .gt r24 (.c (pi 1048576)))),
 o d26 (.pick r23 (.c (.bool true)) r25),
 m d27 r26,
 .g .h1 .hb false d28 (.op (.mv r6)),
 .g .h1 .hb false d29 (.op (.mv r0)),
 .g .h1 .hb false d30 (.op (.len r29)),
 .g .h1 .hb false d31 (.op (.mv r5)),
 .g .h1 .hb false d32 (.op (.bin .sub r30 r31)),
 .g .h1 .hb false d33 (.op (.bin .sub r32 (.c (pi 8)))),
 .g .h1 .hb false d34 (.op (.bin .gt r28 r33)),
 o d35 (.pick r27 (.c (.bool true)) r34)]) (.ah k137_3 .skip)) (.ah k137_4 (.ah k137_5 .skip)))))))) (.ah k137_6 .skip)))
def f137 : AF := .mk x137 [.t .h0 .h2,.t .h0 .h3]
def k138_0 : KF := K1 y0 fun c i x h a=>
 J a h fun b h=>
 A 0 b h fun d h=>
 L d h fun e h=>
 C c 31 [e] h fun f h=>
 .ret (T0 f) h
def x138 : AC := (.ah k138_0 .skip)
def f138 : AF := .mk x138 [.t .h0 .h2]
def k140_1 : KF := K5 y1 y2 y29 y30 y31 fun c i x h a b d e f=>
 Y f e h fun g h=>
 I g (X 4 d f h fun j h=>
 M 4 j h fun k h=>
 O 275 4 (.k1 (Y4 i0 i0 i0 iS)) h fun l h=>
 S 4 l k h fun m h=>
 C c 186 [(pi 2),(.fn 191 [l])] h fun n h=>
 tR (eF 5 1 b n h) fun o h=>
 D f i1 h fun p h=>
 .nm (T74 a o d e p) h) (.ex 0 (T74 a b d e f) h)
def k140_5 : KF := K8 y1 y2 y6 y7 y50 y51 y52 y68 fun c i x h a b d e f g j k=>
 I k (.nm (T76 a b d (pi 5) f g j) h) (.nm (T76 a b d e f g j) h)
def k140_6 : KF := K7 y1 y2 y6 y7 y50 y51 y52 fun c i x h a b d e f g j=>
 L a h fun k h=>
 M 4 d h fun l h=>
 C c 198 [k,e,l] h fun m h=>
 tR (eF 5 1 b m h) fun n h=>
 .nm (T75 a n f g j) h
def k140_4 : KF := K5 y1 y2 y50 y51 y52 fun c i x h a b d e f=>
 X 4 d f h fun g h=>
 M 4 g h fun j h=>
 O 275 4 (.k1 (Y4 i0 i0 i0 iS)) h fun k h=>
 S 4 k j h fun l h=>
 x (T76 a b k (pi 4) d e f) h
def k140_7 : KF := K5 y1 y2 y50 y51 y52 fun c i x h a b d e f=>
 D f i1 h fun g h=>
 .nm (T75 a b d e g) h
def k140_3 : KF := K5 y1 y2 y50 y51 y52 fun c i x h a b d e f=>
 Y f e h fun g h=>
 I g (x (T75 a b d e f) h) (.ex 2 (T9 a b) h)
def k140_8 : KF := K2 y1 y2 fun c i x h a b=>
 L a h fun d h=>
 J d h fun e h=>
 A 2 e h fun f h=>
 L f h fun g h=>
 C c 199 [g,b] h fun j h=>
 Q j i0 h fun k h=>
 I k (L a h fun l h=>
 G b h fun m h=>
 J l h fun n h=>
 A 5 n h fun o h=>
 W o m h fun p h=>
 .nm T15 h) (.nm T15 h)
def k140_2 : KF := K2 y1 y2 fun c i x h a b=>
 C c 186 [i1,(.fn 194 [a])] h fun d h=>
 tR (eF 5 1 b d h) fun e h=>
 x (T9 a e) h
def k140_0 : KF := K1 y0 fun c i x h a=>
 B 183 a h fun b h=>
 C c 186 [i0,(.fn 187 [b])] h fun d h=>
 L b h fun e h=>
 J e h fun f h=>
 A 13 f h fun g h=>
 A 0 g h fun j h=>
 L j h fun k h=>
 tR (dj k i0 h) fun l h=>
 I l (C c 186 [(pi 6),(.fn 188 [b])] h fun m h=>
 tR (eF 5 1 d m h) fun n h=>
 x (T9 b n) h) (x (T9 b d) h)
def x140 : AC := (.ah k140_0 (.seq (.seq (.rS [ql 0 d20 r1,
 qj 0 d21 r20,
 qf 0 d22 7 r21,
 ql 0 d23 r22,
 ql 0 d24 r1,
 qj 0 d25 r24,
 qf 0 d26 13 r25,
 qf 0 d27 0 r26,
 ql 0 d28 r27,
 w (oc d29 190 [r23,r28]),
 q 0 (o d30 (.len r29)),
 q 1 (m d31 a0)]) (.block 0 (.loop (.ah k140_1 .skip)))) (.ah k140_2 (.seq (.seq (.rS [ql 0 d44 r1,
 ql 0 d45 r1,
 qj 0 d46 r45,
 qf 0 d47 13 r46,
 qf 0 d48 0 r47,
 ql 0 d49 r48,
 w (oc d50 196 [r44,r49]),
 q 0 (o d51 (.len r50)),
 q 1 (m d52 a0)]) (.block 2 (.loop (.ah k140_3 (.seq (.block 3 (.ah k140_4 (.seq (.seq (.rS [ql 0 d56 r1,
 qf 0 d57 0 r6,
 ql 0 d58 r57,
 w (oc d59 197 [r56,r58]),
 q 0 (m d60 r59),
 q 0 (.g .h3 .hc true d61 (.op (.gT r1))),
 q 0 (.g .h3 .hc true d62 (.op (.gS 0 r6))),
 q 0 (.g .h3 .hc true d63 (.op (.gT r62))),
 w (.g .h3 .hc true d64 (.call 181 [r61,r63])),
 q 1 (.g .h3 .hc true d65 (.op (.gS 3 r6))),
 q 1 (.g .h3 .hc true d66 (.op (.gT r65))),
 q 0 (.g .h3 .hc true d67 (.op (.bin .seq r64 r66))),
 q 0 (o d68 (.pick r60 r67 (.c (.bool false))))]) (.ah k140_5 .skip)) (.ah k140_6 .skip)))) (.ah k140_7 .skip)))))) (.ah k140_8 .skip)))))
def f140 : AF := .mk x140 []
def k141_2 : KF := K5 y0 y2 y14 y15 y16 fun c i x h a b d e f=>
 D f i1 h fun g h=>
 .nm (T77 a b d e g) h
def k141_1 : KF := K5 y0 y2 y14 y15 y16 fun c i x h a b d e f=>
 Y f e h fun g h=>
 I g (X 1 d f h fun j h=>
 L j h fun k h=>
 tR (yt k iS h) fun l h=>
 I l (C c 201 [a,b,k] h fun m h=>
 D b i1 h fun n h=>
 x (T77 a n d e f) h) (D b i1 h fun m h=>
 x (T77 a m d e f) h)) (.ex 0 T15 h)
def k141_0 : KF := K1 y0 fun c i x h a=>
 J a h fun b h=>
 A 9 b h fun d h=>
 L d h fun e h=>
 C c 168 [e] h fun f h=>
 J a h fun g h=>
 A 9 g h fun j h=>
 L j h fun k h=>
 C c 200 [k] h fun l h=>
 G l h fun m h=>
 x (T77 a f l m i0) h
def x141 : AC := (.ah k141_0 (.block 0 (.loop (.ah k141_1 (.ah k141_2 .skip)))))
def f141 : AF := .mk x141 []
def k164_1 : KF := K2 y0 y3 fun c i x h a b=>
 J a h fun d h=>
 A 0 d h fun e h=>
 L e h fun f h=>
 tR (FP (.one .i) iS true f b h) fun g h=>
 E 0 g h fun j h=>
 E 1 g h fun k h=>
 tR (lW k h) fun l h=>
 I l (.ret (T0 b) h) (D b i1 h fun m h=>
 .nm (T51 a m) h)
def k164_0 : KF := K1 y0 fun c i x h a=>
 J a h fun b h=>
 A 1 b h fun d h=>
 L d h fun e h=>
 x (T51 a e) h
def x164 : AC := (.ah k164_0 (.block 0 (.loop (.ah k164_1 .skip))))
def f164 : AF := .mk x164 [.t .h0 .h2]
def k168_0 : KF := K1 y0 fun c i x h a=>
 J a h fun b h=>
 A 1 b h fun d h=>
 L d h fun e h=>
 .ret (T0 e) h
def x168 : AC := (.ah k168_0 .skip)
def f168 : AF := .mk x168 [.t .h0 .h2]
def k186_0 : KF := K2 y0 y1 fun c i x h a b=>
 C c 12 [] h fun d h=>
 C c 13 [d,a] h fun e h=>
 tT (cd c b [d] h) fun f h=>
 C c 18 [d] h fun g h=>
 C c 251 [g] h fun j h=>
 .ret (T27 j) h
def x186 : AC := (.ah k186_0 .skip)
def f186 : AF := .mk x186 [.t .h0 .h4]
def k187_0 : KF := K2 y0 y1 fun c i x h a b=>
 L b h fun d h=>
 J d h fun e h=>
 A 6 e h fun f h=>
 L f h fun g h=>
 C c 15 [a,g] h fun j h=>
 .nm T15 h
def x187 : AC := (.ah k187_0 .skip)
def f187 : AF := .mk x187 []
def k190_4 : KF := K3 y0 y5 y6 fun c i x h a b d=>
 D d i1 h fun e h=>
 .nm (T78 a b e) h
def k190_3 : KF := K3 y0 y5 y6 fun c i x h a b d=>
 J a h fun e h=>
 A 2 e h fun f h=>
 L f h fun g h=>
 tR (FP (.one .i) (.agg [i0,i0,i0,iS]) true g d h) fun j h=>
 E 0 j h fun k h=>
 E 1 j h fun l h=>
 O 275 4 (.k1 (Y4 i0 i0 i0 iS)) h fun m h=>
 S 4 m k h fun n h=>
 I l (M 4 m h fun o h=>
 tR (bs 275 4 1 [i0,i0,i0,iS] [.mk 0 4 (.c o)] h) fun p h=>
 tR (eF 275 4 b p h) fun q h=>
 x (T78 a q d) h) (x (T78 a b d) h)
def k190_2 : KF := K3 y0 y5 y6 fun c i x h a b d=>
 J a h fun e h=>
 A 3 e h fun f h=>
 L f h fun g h=>
 Y d g h fun j h=>
 I j (x (T78 a b d) h) (.ex 0 (T67 b) h)
def k190_1 : KF := K3 y0 y1 y5 fun c i x h a b d=>
 tR (HC false [b,i0] h) fun e h=>
 x (T78 a d e) h
def k190_5 : KF := K1 y5 fun c i x h a=>
 .ret (T27 a) h
def k190_0 : KF := K2 y0 y1 fun c i x h a b=>
 x (T22 a b .ai) h
def x190 : AC := (.ah k190_0 (.seq (.ah k190_1 (.block 0 (.loop (.ah k190_2 (.ah k190_3 (.ah k190_4 .skip)))))) (.ah k190_5 .skip)))
def f190 : AF := .mk x190 [.t .h0 .h4]
def k192_0 : KF := K2 y0 y1 fun c i x h a b=>
 B 267 b h fun d h=>
 A 0 d h fun e h=>
 L e h fun f h=>
 C c 15 [a,f] h fun g h=>
 A 1 d h fun j h=>
 L j h fun k h=>
 C c 15 [a,k] h fun l h=>
 .nm T15 h
def x192 : AC := (.ah k192_0 .skip)
def f192 : AF := .mk x192 []
def k194_0 : KF := K2 y0 y1 fun c i x h a b=>
 L b h fun d h=>
 J d h fun e h=>
 A 7 e h fun f h=>
 L f h fun g h=>
 C c 195 [g] h fun j h=>
 C c 192 [a,j] h fun k h=>
 .nm T15 h
def x194 : AC := (.ah k194_0 .skip)
def f194 : AF := .mk x194 []
def k195_0 : KF := K1 y0 fun c i x h a=>
 O 267 2 (.k1 (Y2 i0 i0)) h fun b h=>
 J a h fun d h=>
 A 0 d h fun e h=>
 M 2 e h fun f h=>
 S 2 b f h fun g h=>
 .ret (T0 b) h
def x195 : AC := (.ah k195_0 .skip)
def f195 : AF := .mk x195 [.agg 2 .h0 .h2]
def k196_4 : KF := K3 y0 y5 y6 fun c i x h a b d=>
 D d i1 h fun e h=>
 .nm (T78 a b e) h
def k196_3 : KF := K3 y0 y5 y6 fun c i x h a b d=>
 J a h fun e h=>
 A 9 e h fun f h=>
 L f h fun g h=>
 C c 236 [g,d] h fun j h=>
 E 0 j h fun k h=>
 E 1 j h fun l h=>
 I l (U [i0,i0,i0,iS] [.mk 0 1 (.c d),.mk 3 1 (.c k)] h fun m h=>
 tR (bs 275 4 1 [i0,i0,i0,iS] [.mk 0 4 (.c m)] h) fun n h=>
 tR (eF 275 4 b n h) fun o h=>
 x (T78 a o d) h) (x (T78 a b d) h)
def k196_2 : KF := K3 y0 y5 y6 fun c i x h a b d=>
 J a h fun e h=>
 A 10 e h fun f h=>
 L f h fun g h=>
 Y d g h fun j h=>
 I j (x (T78 a b d) h) (.ex 0 (T67 b) h)
def k196_1 : KF := K3 y0 y1 y5 fun c i x h a b d=>
 J a h fun e h=>
 A 13 e h fun f h=>
 A 0 f h fun g h=>
 L g h fun j h=>
 tR (HC false [b,j] h) fun k h=>
 x (T78 a d k) h
def k196_5 : KF := K1 y5 fun c i x h a=>
 .ret (T27 a) h
def k196_0 : KF := K2 y0 y1 fun c i x h a b=>
 x (T22 a b .ai) h
def x196 : AC := (.ah k196_0 (.seq (.ah k196_1 (.block 0 (.loop (.ah k196_2 (.ah k196_3 (.ah k196_4 .skip)))))) (.ah k196_5 .skip)))
def f196 : AF := .mk x196 [.t .h0 .h4]
def k199_0 : KF := K2 y0 y1 fun c i x h a b=>
 G b h fun d h=>
 tR (dj d (pi 4194304) h) fun e h=>
 I e (.ret (T27 (pi 13)) h) (C c 31 [b] h fun f h=>
 J a h fun g h=>
 A 0 g h fun j h=>
 W j f h fun k h=>
 J a h fun l h=>
 A 0 l h fun m h=>
 L m h fun n h=>
 G n h fun o h=>
 J a h fun p h=>
 A 1 p h fun q h=>
 W q o h fun s h=>
 .ret (T27 i0) h)
def x199 : AC := (.ah k199_0 .skip)
def f199 : AF := .mk x199 [.t .h0 .h4]
def k200_3 : KF := K3 y0 y3 y4 fun c i x h a b d=>
 J a h fun e h=>
 A 1 e h fun f h=>
 L f h fun g h=>
 D g i1 h fun j h=>
 J a h fun k h=>
 A 1 k h fun l h=>
 W l j h fun m h=>
 .nm (T79 a b d) h
def k200_2 : KF := K3 y0 y3 y4 fun c i x h a b d=>
 J a h fun e h=>
 A 1 e h fun f h=>
 L f h fun g h=>
 Y g d h fun j h=>
 I j (x (T79 a b d) h) (.ex 0 (T19 b) h)
def k200_1 : KF := K2 y0 y3 fun c i x h a b=>
 C c 164 [a] h fun d h=>
 x (T79 a b d) h
def k200_4 : KF := K1 y3 fun c i x h a=>
 .ret (T0 a) h
def k200_0 : KF := K1 y0 fun c i x h a=>
 x (T51 a .ai) h
def x200 : AC := (.ah k200_0 (.seq (.ah k200_1 (.block 0 (.loop (.ah k200_2 (.seq (.block 1 (.rS [q 0 (m d21 r0),
 qj 0 d22 r21,
 qf 0 d23 0 r22,
 ql 0 d24 r23,
 q 0 (m d25 r0),
 qj 0 d26 r25,
 qf 0 d27 1 r26,
 ql 0 d28 r27,
 q 0 (o d29 (.FP (.one .i) iS false r24 r28)),
 w (o d30 (.cI 9 1 1 [iS] [.mk 0 1 r29])),
 q 1 (m d20 r3),
 w (o d31 (.app 9 1 r20 r30)),
 q 0 (m d3 r31)])) (.ah k200_3 .skip)))))) (.ah k200_4 .skip)))
def f200 : AF := .mk x200 [.t .h0 .h2]
def k247_0 : KF := K1 y0 fun c i x h a=>
 C c 305 [a] h fun b h=>
 tR (cK (.toInt .u8) b h) fun d h=>
 tR (bK .shr b (.int .u64 (.ofNat 8)) h) fun e h=>
 tR (cK (.toInt .u8) e h) fun f h=>
 tR (bK .shr b (.int .u64 (.ofNat 16)) h) fun g h=>
 tR (cK (.toInt .u8) g h) fun j h=>
 tR (bK .shr b (.int .u64 (.ofNat 24)) h) fun k h=>
 tR (cK (.toInt .u8) k h) fun l h=>
 tR (bs 5 1 4 [(.int .u8 (.ofNat 0)),(.int .u8 (.ofNat 0)),(.int .u8 (.ofNat 0)),(.int .u8 (.ofNat 0))] [.mk 0 1 (.c d),.mk 1 1 (.c f),.mk 2 1 (.c j),.mk 3 1 (.c l)] h) fun m h=>
 tR (eF 5 1 m a h) fun n h=>
 .ret (T0 n) h
def x247 : AC := (.ah k247_0 .skip)
def f247 : AF := .mk x247 [.t .h0 .h2]
def k251_0 : KF := K1 y0 fun c i x h a=>
 C c 12 [] h fun b h=>
 C c 247 [a] h fun d h=>
 G d h fun e h=>
 C c 15 [b,e] h fun f h=>
 C c 18 [b] h fun g h=>
 tR (eF 5 1 g d h) fun j h=>
 .ret (T0 j) h
def x251 : AC := (.ah k251_0 .skip)
def f251 : AF := .mk x251 [.t .h0 .h2]
def k305_4 : KF := K5 y3 y7 y8 y9 y17 fun c i x h a b d e f=>
 Y f (pi 8) h fun g h=>
 I g (tR (GJ a (.int .u32 (.ofNat 1)) h) fun j h=>
 tR (bK .shr a (.int .u64 (.ofNat 1)) h) fun k h=>
 Q j (.int .u32 (.ofNat 1)) h fun l h=>
 I l (tR (CN k (.int .u32 (.ofNat 3988292384)) h) fun m h=>
 D f i1 h fun n h=>
 .nm (T81 m b d e n) h) (D f i1 h fun m h=>
 .nm (T81 k b d e m) h)) (.ex 2 (T81 a b d e f) h)
def k305_3 : KF := K4 y3 y7 y8 y9 fun c i x h a b d e=>
 X 1 b e h fun f h=>
 L f h fun g h=>
 tR (cK (.toInt .u32) g h) fun j h=>
 tR (CN a j h) fun k h=>
 x (T81 k b d e i0) h
def k305_5 : KF := K4 y3 y7 y8 y9 fun c i x h a b d e=>
 D e i1 h fun f h=>
 .nm (T80 a b d f) h
def k305_2 : KF := K4 y3 y7 y8 y9 fun c i x h a b d e=>
 Y e d h fun f h=>
 I f (x (T80 a b d e) h) (.ex 0 (T19 a) h)
def k305_1 : KF := K2 y0 y3 fun c i x h a b=>
 G a h fun d h=>
 x (T80 b a d i0) h
def k305_6 : KF := K1 y3 fun c i x h a=>
 tR (CR a h) fun b h=>
 .ret (T0 b) h
def k305_0 : KF := K1 y0 fun c i x h a=>
 x (T51 a (.int .u32 (.ofNat 4294967295))) h
def x305 : AC := (.ah k305_0 (.seq (.ah k305_1 (.block 0 (.loop (.ah k305_2 (.seq (.block 1 (.ah k305_3 (.block 2 (.loop (.ah k305_4 .skip))))) (.ah k305_5 .skip)))))) (.ah k305_6 .skip)))
def f305 : AF := .mk x305 [.t .h0 .h2]
def k648_0 : KF := K4 y0 y1 y2 y3 fun c i x h a b d e=>
 U [i0,iS,.ai] [.mk 0 1 (.c d),.mk 1 1 (.c e),.mk 2 1 (.c .ai)] h fun f h=>
 J a h fun g h=>
 A 0 g h fun j h=>
 tR (OH 5 3 j b h) fun k h=>
 S 3 k f h fun l h=>
 .nm T15 h
def x648 : AC := (.ah k648_0 .skip)
def f648 : AF := .mk x648 []
def Pj : F1 := (.mk .none .none .none f3 f4 f5 f6 f7 f8 f9 f10 f11 f12 f13 f14 f15)
def Ry : F1 := (.mk f16 f17 f18 f19 f20 f21 f22 f23 f24 f25 f26 f27 f28 f29 f30 f31)
def Rz : F1 := (.mk f32 .none f34 f35 f36 f37 f38 f39 f40 f41 f42 f43 f44 f45 f46 f47)
def RA : F1 := (.mk f48 f49 .none .none .none .none .none .none .none .none .none .none .none f61 f62 .none)
def RB : F1 := (.mk .none .none .none f67 f68 f69 f70 f71 f72 f73 f74 f75 f76 .none .none .none)
def RC : F1 := (.mk .none .none .none .none .none .none .none .none .none .none .none .none .none .none f94 f95)
def RE : F1 := (.mk .none .none .none f99 f100 f101 f102 f103 .none .none .none .none .none .none .none .none)
def RF : F1 := (.mk .none .none .none .none .none .none .none .none .none .none .none .none .none .none .none f127)
def RG : F1 := (.mk .none .none .none .none .none f133 f134 f135 f136 f137 f138 .none f140 f141 .none .none)
def NT : F1 := (.mk .none .none .none .none f164 .none .none .none f168 .none .none .none .none .none .none .none)
def NU : F1 := (.mk .none .none .none .none .none .none .none .none .none .none f186 f187 .none .none f190 .none)
def NV : F1 := (.mk f192 .none f194 f195 f196 .none .none f199 f200 .none .none .none .none .none .none .none)
def NW : F1 := (.mk .none .none .none .none .none .none .none f247 .none .none .none f251 .none .none .none .none)
def NX : F1 := (.mk .none f305 .none .none .none .none .none .none .none .none .none .none .none .none .none .none)
def NY : F1 := (.mk .none .none .none .none .none .none .none .none f648 .none .none .none .none .none .none .none)
def Ic : F2 := .mk Pj Ry Rz RA RB RC RE RF RG .nil NT NU NV .nil .nil NW
def NZ : F2 := .mk .nil .nil .nil NX .nil .nil .nil .nil .nil .nil .nil .nil .nil .nil .nil .nil
def Oa : F2 := .mk .nil .nil .nil .nil .nil .nil .nil .nil NY .nil .nil .nil .nil .nil .nil .nil
def pg : Pg := .mk (.mk Ic NZ Oa .nil .nil .nil .nil .nil .nil .nil .nil .nil .nil .nil .nil .nil) [.mk 154 2 89, .mk 148 2 647, .mk 148 1 646, .mk 148 4 645, .mk 120 4 111, .mk 148 3 649, .mk 148 0 648, .mk 120 0 109]
end
end Go.Am.Seat
