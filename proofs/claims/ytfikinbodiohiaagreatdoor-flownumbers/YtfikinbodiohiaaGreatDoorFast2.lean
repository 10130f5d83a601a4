/- The program's code in a form that runs fast, written by program. Nothing is asked. -/
import Derived.Test.YtfikinbodiohiaaGreatDoorFast1
set_option linter.all false
namespace Go.Am.Seat
set_option maxRecDepth 20000
noncomputable section
def x320:AC:=b320
def f320:AF:=.mk x320 []
def x321:AC:=b321
def f321:AF:=.mk x321 [.t .h0 .h2]
def x322:AC:=b322
def f322:AF:=.mk x322 [.t .h0 .h2]
def x323:AC:=b323
def f323:AF:=.mk x323 []
def x325:AC:=b325
def f325:AF:=.mk x325 [.t .h0 .h2]
def x326:AC:=b326
def f326:AF:=.mk x326 [.t .h0 .h2]
def x327:AC:=b327
def f327:AF:=.mk x327 [.t .h0 .h6]
def x328:AC:=b328
def f328:AF:=.mk x328 [.t .h0 .h4,.t .h0 .h5]
def x330:AC:=b330
def f330:AF:=.mk x330 [.t .h0 .h2]
def x331:AC:=b331
def f331:AF:=.mk x331 [.t .h0 .h4]
def x332:AC:=b332
def f332:AF:=.mk x332 [.t .h0 .h2]
def x333:AC:=b333
def f333:AF:=.mk x333 [.t .h0 .h2]
def x334:AC:=b334
def f334:AF:=.mk x334 [.t .h0 .h2]
def x335:AC:=b335
def f335:AF:=.mk x335 [.agg 4 .h0 .h2,.t .h0 .h3,.t .h0 .h4]
def x336:AC:=b336
def f336:AF:=.mk x336 [.t .h0 .h4]
def x337:AC:=b337
def f337:AF:=.mk x337 [.t .h0 .h4]
def k342_3:KF:=K7 y0 y1 y2 y3 y8 y9 y34 fun c i x h a b d e f g j=>
 I j (.nm (T250 a b d e f g) h) (.ex 2 (T250 a b d e f g) h)
def k342_4:KF:=K6 y0 y1 y2 y3 y8 y9 fun c i x h a b d e f g=>
 Z g i1 h fun j h=>
 .nm (T250 a b d e f j) h
def k342_2:KF:=K5 y0 y1 y2 y3 y8 fun c i x h a b d e f=>
 x (T250 a b d e f f) h
def k342_5:KF:=K5 y0 y1 y2 y3 y8 fun c i x h a b d e f=>
 D f i1 h fun g h=>
 .nm (T478 a b d e g) h
def k342_1:KF:=K5 y0 y1 y2 y3 y8 fun c i x h a b d e f=>
 Y f d h fun g h=>
 I g (x (T478 a b d e f) h) (.ex 0 T28 h)
def k342_0:KF:=K4 y0 y1 y2 y3 fun c i x h a b d e=>
 D b i1 h fun f h=>
 x (T478 a b d e f) h
def x342:AC:=(.ah k342_0 (.block 0 (.loop (.ah k342_1 (.seq (.block 1 (.ah k342_2 (.block 2 (.loop (.seq (.seq (.ops [m d18 r9,
 m d19 r1,
 o d20 (.bin .gt r18 r19),
 m d21 r20,
 .g .h1 .h5 true d22 (.op (.mv r3)),
 .g .h1 .h5 true d23 (.op (.mv r0)),
 .g .h1 .h5 true d24 (.op (.mv r9)),
 .g .h1 .h5 true d25 (.op (.cn 2 r23 r24)),
 .g .h1 .h5 true d26 (.op (.jO 2 r25)),
 .g .h1 .h5 true d27 (.op (.mv r0)),
 .g .h1 .h5 true d28 (.op (.mv r9)),
 .g .h1 .h5 true d29 (.op (.bin .sub r28 a1)),
 .g .h1 .h5 true d30 (.op (.cn 2 r27 r29)),
 .g .h1 .h5 true d31 (.op (.jO 2 r30)),
 .g .h1 .h5 true d32 (.jK r22 [r26,r31]),
 .g .h1 .h5 true d33 (.op (.bin .lt r32 a0)),
 o d34 (.pick r21 r33 (.c (.bool false)))]) (.ah k342_3 .skip)) (.seq (.block 3 (.iB [q 0 (m d37 r0),
 q 0 (m d38 r9),
 q 0 (m d42 r0),
 q 0 (m d43 r9),
 q 0 (o d44 (.bin .sub r43 a1)),
 q 0 (o d45 (.cn 2 r42 r44)),
 q 0 (o d46 (.jO 2 r45)),
 q 0 (m d47 r0),
 q 0 (m d48 r9),
 q 0 (o d49 (.cn 2 r47 r48)),
 q 0 (o d50 (.jO 2 r49)),
 q 0 (o d51 (.cn 2 r37 r38)),
 w (o .no (.uK 2 r51 r46)),
 q 1 (m d39 r0),
 q 1 (m d40 r9),
 q 1 (o d41 (.bin .sub r40 a1)),
 q 0 (o d52 (.cn 2 r39 r41)),
 w (o .no (.uK 2 r52 r50))])) (.ah k342_4 .skip))))))) (.ah k342_5 .skip))))))
def f342:AF:=.mk x342 []
def x344:AC:=b344
def f344:AF:=.mk x344 [.agg 3 .h0 .h2,.t .h0 .h3]
def x345:AC:=b345
def f345:AF:=.mk x345 [.t .h0 .h6,.t .h0 .h7]
def k346_1:KF:=K1 y1 fun c i x h a=>
 x T28 h
def k346_2:KF:=K1 y2 fun c i x h a=>
 L a h fun b h=>
 .ret (T3 b) h
def k346_0:KF:=K2 y0 y1 fun c i x h a b=>
 B 39 a h fun d h=>
 x (T35 b) h
def p346_0:List GI:=[o d2 (.box 39 r0),m d4 (.c .ai)]
def p346_1:List GI:=[m d6 r1]
def p346_2:List GI:=[ol d4 r1,o d5 (.CT r4)]
def p346_3:List GI:=[.o d6 (.uM false r5),oe d7 0 r6]
def p346_4:List GI:=[o d8 (.ML r5),oe d9 0 r8,m d3 r9]
def p346_5:List GI:=[m d11 r3]
def p346_6:List GI:=[m d5 r7]
def p346_7:List GI:=[ol d8 r2,m d9 r5,o d10 (.bN 9 1 1 [iS] [.mk 0 1 r9]),o d11 (.app 9 1 r8 r10),os r2 r11]
def p346_8:List GI:=[ol d12 r2,m d4 r12]
def p346:PK:=(.NU 312 p346_0 p346_1 p346_2 p346_3 p346_4 p346_5 p346_6 p346_7 p346_8)
def x346:AC:=(.ah k346_0 (.seq (.ah k346_1 (.block 0 (.bad 402))) (.ah k346_2 .skip)))
def f346:AF:=.oU p346 x346 [.t .h0 .h4]
def x347:AC:=b347
def f347:AF:=.mk x347 [.agg 2 .h0 .h6]
def x348:AC:=b348
def f348:AF:=.mk x348 [.t .h0 .h2,.t .h0 .h3]
def k349_0:KF:=K1 y0 fun c i x h a=>
 O 34 3 (.k1 (Y3 i0 i0 iS)) h fun b h=>
 U [i0,i0,iS] [.mk 0 1 (.c i1),.mk 1 1 (.c a)] h fun d h=>
 S 3 b d h fun e h=>
 .ret (T2 b) h
def x349:AC:=(.ah k349_0 .skip)
def f349:AF:=.mk x349 [.agg 3 .h0 .h2]
def x350:AC:=b350
def f350:AF:=.mk x350 [.agg 3 .h0 .h2]
def x351:AC:=b351
def f351:AF:=.mk x351 [.t .h0 .h6,.t .h0 .h7]
def x354:AC:=b354
def f354:AF:=.mk x354 [.t .h0 .h2]
def x355:AC:=b355
def f355:AF:=.mk x355 [.t .h0 .h2]
def x358:AC:=b358
def f358:AF:=.mk x358 [.t .h0 .h6,.t .h0 .h7]
def x360:AC:=b360
def f360:AF:=.mk x360 [.t .h0 .h4]
def x361:AC:=b361
def f361:AF:=.mk x361 [.t .h0 .h3]
def x362:AC:=b362
def f362:AF:=.mk x362 [.t .h0 .h2]
def x363:AC:=b363
def f363:AF:=.mk x363 [.agg 4 .h0 .h2,.t .h0 .h3,.t .h0 .h4]
def x364:AC:=b364
def f364:AF:=.mk x364 [.t .h0 .h3]
def x370:AC:=b370
def f370:AF:=.mk x370 [.t .h0 .h2]
def x371:AC:=b371
def f371:AF:=.mk x371 [.t .h0 .h2]
def x376:AC:=b376
def f376:AF:=.mk x376 [.t .h0 .h6,.t .h0 .h7]
def x379:AC:=b379
def f379:AF:=.mk x379 [.t .h0 .h4]
def x381:AC:=b381
def f381:AF:=.mk x381 [.t .h0 .h6,.t .h0 .h7]
def k3_0:KF:=fun c i x r h=>
 .nm T28 h
def k3_1:KF:=fun c i x r h=>
 tR (bs 2 1 2 [i0,i0] [.mk 0 1 (.c i1),.mk 1 1 (.c i1)] h) fun a h=>
 C c 4 [a] h fun b h=>
 U [.ai,(.aj .f64 0 0)] [.mk 0 1 (.c b),.mk 1 1 (.c (.aj .f64 4611686018427387904 0))] h fun d h=>
 tR (bs 2 1 2 [i0,i0] [.mk 0 1 (.c (pi 2)),.mk 1 1 (.c i1)] h) fun e h=>
 C c 4 [e] h fun f h=>
 U [.ai,(.aj .f64 0 0)] [.mk 0 1 (.c f),.mk 1 1 (.c (.aj .f64 4607182418800017408 0))] h fun g h=>
 tR (bs 27 2 2 [.ai,(.aj .f64 0 0),.ai,(.aj .f64 0 0)] [.mk 0 2 (.c d),.mk 2 2 (.c g)] h) fun j h=>
 U [iS,.ai] [.mk 0 1 (.c (.str [117])),.mk 1 1 (.c j)] h fun k h=>
 tR (bs 31 2 1 [iS,.ai] [.mk 0 2 (.c k)] h) fun l h=>
 C c 5 [i1] h fun m h=>
 C c 5 [(pi 2)] h fun n h=>
 C c 6 [(.str [120])] h fun o h=>
 tR (bs 34 3 3 [i0,i0,iS,i0,i0,iS,i0,i0,iS] [.mk 0 3 (.c m),.mk 3 3 (.c n),.mk 6 3 (.c o)] h) fun p h=>
 U [.ai,(.aj .f64 0 0)] [.mk 0 1 (.c p),.mk 1 1 (.c (.aj .f64 4607182418800017408 0))] h fun q h=>
 tR (bs 27 2 1 [.ai,(.aj .f64 0 0)] [.mk 0 2 (.c q)] h) fun s h=>
 U [iS,.ai] [.mk 0 1 (.c (.str [116])),.mk 1 1 (.c s)] h fun t h=>
 tR (bs 2 1 2 [i0,i0] [.mk 0 1 (.c i1),.mk 1 1 (.c i1)] h) fun v h=>
 C c 4 [v] h fun w h=>
 C c 7 [(ni 0),w] h fun y h=>
 U [iS,.ai] [.mk 0 1 (.c (.str [117])),.mk 1 1 (.c y)] h fun z h=>
 tR (bs 31 2 2 [iS,.ai,iS,.ai] [.mk 0 2 (.c t),.mk 2 2 (.c z)] h) fun a0 h=>
 tR (bs 2 1 2 [i0,i0] [.mk 0 1 (.c i1),.mk 1 1 (.c i1)] h) fun a1 h=>
 C c 4 [a1] h fun a2 h=>
 C c 7 [(ni 1),a2] h fun a3 h=>
 U [iS,.ai] [.mk 0 1 (.c (.str [117])),.mk 1 1 (.c a3)] h fun a4 h=>
 tR (bs 31 2 1 [iS,.ai] [.mk 0 2 (.c a4)] h) fun a5 h=>
 tR (bs 2 1 2 [i0,i0] [.mk 0 1 (.c i1),.mk 1 1 (.c (pi 2))] h) fun a6 h=>
 C c 4 [a6] h fun a7 h=>
 C c 7 [i1,a7] h fun a8 h=>
 U [iS,.ai] [.mk 0 1 (.c (.str [117])),.mk 1 1 (.c a8)] h fun a9 h=>
 tR (bs 31 2 1 [iS,.ai] [.mk 0 2 (.c a9)] h) fun b0 h=>
 tR (bs 2 1 2 [i0,i0] [.mk 0 1 (.c i1),.mk 1 1 (.c (pi 3))] h) fun b1 h=>
 C c 4 [b1] h fun b2 h=>
 C c 7 [i1,b2] h fun b3 h=>
 U [iS,.ai] [.mk 0 1 (.c (.str [117])),.mk 1 1 (.c b3)] h fun b4 h=>
 tR (bs 2 1 2 [i0,i0] [.mk 0 1 (.c i1),.mk 1 1 (.c (pi 3))] h) fun b5 h=>
 C c 4 [b5] h fun b6 h=>
 C c 7 [(ni 0),b6] h fun b7 h=>
 U [iS,.ai] [.mk 0 1 (.c (.str [117])),.mk 1 1 (.c b7)] h fun b8 h=>
 tR (bs 31 2 2 [iS,.ai,iS,.ai] [.mk 0 2 (.c b4),.mk 2 2 (.c b8)] h) fun b9 h=>
 U [.ai,(.aj .f64 0 0)] [] h fun d0 h=>
 tR (bs 27 2 1 [.ai,(.aj .f64 0 0)] [.mk 0 2 (.c d0)] h) fun d1 h=>
 U [iS,.ai] [.mk 0 1 (.c (.str [120])),.mk 1 1 (.c d1)] h fun d2 h=>
 tR (bs 31 2 1 [iS,.ai] [.mk 0 2 (.c d2)] h) fun d3 h=>
 tR (bs 2 1 1 [i0] [.mk 0 1 (.c i1)] h) fun d4 h=>
 C c 4 [d4] h fun d5 h=>
 C c 7 [i1,d5] h fun d6 h=>
 U [iS,.ai] [.mk 0 1 (.c (.str [117])),.mk 1 1 (.c d6)] h fun d7 h=>
 tR (bs 31 2 1 [iS,.ai] [.mk 0 2 (.c d7)] h) fun d8 h=>
 U [.ai,(.aj .f64 0 0)] [.mk 1 1 (.c (.aj .f64 4607182418800017408 0))] h fun d9 h=>
 tR (bs 27 2 1 [.ai,(.aj .f64 0 0)] [.mk 0 2 (.c d9)] h) fun e0 h=>
 U [iS,.ai] [.mk 0 1 (.c (.str [117])),.mk 1 1 (.c e0)] h fun e1 h=>
 tR (bs 31 2 1 [iS,.ai] [.mk 0 2 (.c e1)] h) fun e2 h=>
 tR (bs 2 1 2 [i0,i0] [.mk 0 1 (.c i0),.mk 1 1 (.c i0)] h) fun e3 h=>
 C c 4 [e3] h fun e4 h=>
 C c 7 [(pi 600),e4] h fun e5 h=>
 U [iS,.ai] [.mk 0 1 (.c (.str [117])),.mk 1 1 (.c e5)] h fun e6 h=>
 tR (bs 31 2 1 [iS,.ai] [.mk 0 2 (.c e6)] h) fun e7 h=>
 tR (bs 2 1 2 [i0,i0] [.mk 0 1 (.c i1),.mk 1 1 (.c (pi 2))] h) fun e8 h=>
 C c 4 [e8] h fun e9 h=>
 C c 7 [i1,e9] h fun f0 h=>
 U [iS,.ai] [.mk 0 1 (.c (.str [117])),.mk 1 1 (.c f0)] h fun f1 h=>
 tR (bs 31 2 1 [iS,.ai] [.mk 0 2 (.c f1)] h) fun f2 h=>
 tR (bs 32 1 10 [.ai,.ai,.ai,.ai,.ai,.ai,.ai,.ai,.ai,.ai] [.mk 0 1 (.c l),.mk 1 1 (.c a0),.mk 2 1 (.c a5),.mk 3 1 (.c b0),.mk 4 1 (.c b9),.mk 5 1 (.c d3),.mk 6 1 (.c d8),.mk 7 1 (.c e2),.mk 8 1 (.c e7),.mk 9 1 (.c f2)] h) fun f3 h=>
 .nm (T35 f3) h
def k3_2:KF:=K1 y1 fun c i x h a=>
 C c 8 [] h fun b h=>
 .nm (T6 a b) h
def k3_3:KF:=K2 y1 y2 fun c i x h a b=>
 .nm (T216 a b i0) h
def k3_4:KF:=K3 y1 y2 y3 fun c i x h a b d=>
 G b h fun e h=>
 Y d e h fun f h=>
 I f (.nm (T216 a b d) h) (.ex 0 (T216 a b d) h)
def k3_5:KF:=K3 y1 y2 y3 fun c i x h a b d=>
 X 1 b d h fun e h=>
 L e h fun f h=>
 C c 10 [f] h fun g h=>
 C c 11 [] h fun j h=>
 C c 9 [g,j] h fun k h=>
 E 0 k h fun l h=>
 E 1 k h fun m h=>
 .nm (T496 a b d l m) h
def k3_6:KF:=K5 y1 y2 y3 y4 y5 fun c i x h a b d e f=>
 X 1 b d h fun g h=>
 L g h fun j h=>
 C c 10 [j] h fun k h=>
 C c 11 [] h fun l h=>
 C c 13 [l] h fun m h=>
 C c 12 [k,m] h fun n h=>
 E 0 n h fun o h=>
 E 1 n h fun p h=>
 .nm (T497 a b d e f o p) h
def k3_7:KF:=K6 y1 y2 y3 y4 y6 y126 fun c i x h a b d e f g=>
 I g (.ret (T4 (.bool false)) h) (.nm (T498 a b d e f) h)
def k3_8:KF:=K5 y1 y2 y3 y4 y6 fun c i x h a b d e f=>
 .nm (T499 a b d e f i0) h
def k3_11:KF:=K7 y1 y2 y3 y4 y6 y8 y168 fun c i x h a b d e f g j=>
 I j (.ret (T4 (.bool false)) h) (.nm (T499 a b d e f g) h)
def k3_10:KF:=K6 y1 y2 y3 y4 y6 y8 fun c i x h a b d e f g=>
 X 1 a g h fun j h=>
 L j h fun k h=>
 C c 14 [e,k] h fun l h=>
 E 0 l h fun m h=>
 E 1 l h fun n h=>
 X 1 a g h fun o h=>
 L o h fun p h=>
 C c 16 [p] h fun q h=>
 C c 15 [f,q] h fun s h=>
 E 0 s h fun t h=>
 E 1 s h fun v h=>
 x (T500 a b d e f g m n t v) h
def k3_12:KF:=K6 y1 y2 y3 y4 y6 y8 fun c i x h a b d e f g=>
 D g i1 h fun j h=>
 .nm (T499 a b d e f j) h
def k3_9:KF:=K6 y1 y2 y3 y4 y6 y8 fun c i x h a b d e f g=>
 G a h fun j h=>
 Y g j h fun k h=>
 I k (x (T499 a b d e f g) h) (.ex 2 (T216 a b d) h)
def k3_13:KF:=K3 y1 y2 y3 fun c i x h a b d=>
 D d i1 h fun e h=>
 .nm (T216 a b e) h
def k3_17:KF:=K6 y1 y2 y3 y4 y6 y126 fun c i x h a b d e f g=>
 I g (.ret (T4 (.bool false)) h) (.nm (T498 a b d e f) h)
def k3_21:KF:=K7 y1 y2 y3 y4 y6 y8 y168 fun c i x h a b d e f g j=>
 I j (.ret (T4 (.bool false)) h) (.nm (T499 a b d e f g) h)
def k3_20:KF:=K6 y1 y2 y3 y4 y6 y8 fun c i x h a b d e f g=>
 X 1 a g h fun j h=>
 L j h fun k h=>
 C c 14 [e,k] h fun l h=>
 E 0 l h fun m h=>
 E 1 l h fun n h=>
 X 1 a g h fun o h=>
 L o h fun p h=>
 C c 16 [p] h fun q h=>
 C c 15 [f,q] h fun s h=>
 E 0 s h fun t h=>
 E 1 s h fun v h=>
 x (T500 a b d e f g m n t v) h
def k3_22:KF:=K6 y1 y2 y3 y4 y6 y8 fun c i x h a b d e f g=>
 D g i1 h fun j h=>
 .nm (T499 a b d e f j) h
def k3_19:KF:=K6 y1 y2 y3 y4 y6 y8 fun c i x h a b d e f g=>
 G a h fun j h=>
 Y g j h fun k h=>
 I k (x (T499 a b d e f g) h) (.ex 2 (T216 a b d) h)
def k3_18:KF:=K5 y1 y2 y3 y4 y6 fun c i x h a b d e f=>
 x (T499 a b d e f i0) h
def k3_16:KF:=K5 y1 y2 y3 y4 y5 fun c i x h a b d e f=>
 X 1 b d h fun g h=>
 L g h fun j h=>
 C c 10 [j] h fun k h=>
 C c 11 [] h fun l h=>
 C c 13 [l] h fun m h=>
 C c 12 [k,m] h fun n h=>
 E 0 n h fun o h=>
 E 1 n h fun p h=>
 x (T497 a b d e f o p) h
def k3_15:KF:=K3 y1 y2 y3 fun c i x h a b d=>
 X 1 b d h fun e h=>
 L e h fun f h=>
 C c 10 [f] h fun g h=>
 C c 11 [] h fun j h=>
 C c 9 [g,j] h fun k h=>
 E 0 k h fun l h=>
 E 1 k h fun m h=>
 x (T496 a b d l m) h
def k3_23:KF:=K3 y1 y2 y3 fun c i x h a b d=>
 D d i1 h fun e h=>
 .nm (T216 a b e) h
def k3_14:KF:=K3 y1 y2 y3 fun c i x h a b d=>
 G b h fun e h=>
 Y d e h fun f h=>
 I f (x (T216 a b d) h) (.ex 0 T28 h)
def k3_25:KF:=K2 y14 y16 fun c i x h a b=>
 C c 10 [(.str [40,116,97,98,108,101,32,117,41])] h fun d h=>
 U [iS,.ai] [] h fun e h=>
 tR (bs 68 2 1 [iS,.ai] [.mk 0 2 (.c e)] h) fun f h=>
 C c 9 [d,f] h fun g h=>
 E 0 g h fun j h=>
 E 1 g h fun k h=>
 C c 10 [(.str [40,116,97,98,108,101,32,117,41])] h fun l h=>
 C c 11 [] h fun m h=>
 tR (bs 5 1 2 [(.int .u8 (.ofNat 0)),(.int .u8 (.ofNat 0))] [.mk 0 1 (.c (.int .u8 (.ofNat 110))),.mk 1 1 (.c (.int .u8 (.ofNat 111)))] h) fun n h=>
 tR (cK (.Yb 5) n h) fun o h=>
 C c 20 [l,m,o] h fun p h=>
 E 0 p h fun q h=>
 E 1 p h fun s h=>
 x (T502 a b k s) h
def k3_24:KF:=fun c i x r h=>
 C c 10 [(.str [40,116,97,98,108,101,32,120,41])] h fun a h=>
 C c 11 [] h fun b h=>
 C c 9 [a,b] h fun d h=>
 E 0 d h fun e h=>
 E 1 d h fun f h=>
 U [i0,iS,.ai,.ai,.ai,.ai,.ai,.ai] [] h fun g h=>
 C c 11 [] h fun j h=>
 C c 9 [g,j] h fun k h=>
 E 0 k h fun l h=>
 E 1 k h fun m h=>
 x (T501 f m) h
def YY:AC:=(.ah k3_0 .skip)
def YZ:AC:=(.ah k3_1 .skip)
def Za:AC:=(.ah k3_2 .skip)
def Zb:AC:=(.ah k3_3 .skip)
def zL:AC:=(.ah k3_4 .skip)
def zM:AC:=(.ah k3_5 .skip)
def zN:AC:=(.ah k3_6 .skip)
def zO:AC:=(.seq (.ops [m d113 r4,
 o d114 (.bin .lk r113 (.c .di)),
 m d115 r114,
 .g .h7 .h3 false d116 (.op (.mv r6)),
 .g .h7 .h3 false d117 (.op (.bin .lk r116 (.c .di))),
 o d118 (.pick r115 (.c (.bool true)) r117),
 m d119 r118,
 .g .h7 .h7 false d120 (.op (.mv r5)),
 .g .h7 .h7 false d121 (.op (.bin .ne r120 a0)),
 o d122 (.pick r119 (.c (.bool true)) r121),
 m d123 r122,
 .g .h7 .hb false d124 (.op (.mv r7)),
 .g .h7 .hb false d125 (.op (.bin .ne r124 a0)),
 o d126 (.pick r123 (.c (.bool true)) r125)]) (.ah k3_7 .skip))
def zP:AC:=(.ah k3_8 .skip)
def dY:AC:=(.ah k3_9 (.seq (.block 3 (.ah k3_10 (.seq (.ops [m d152 r9,
 m d153 r11,
 oc d154 17 [r152,r153],
 o d155 (.un .not r154),
 m d156 r155,
 .g .h9 .hc false d157 (.op (.mv r10)),
 .g .h9 .hc false d158 (.op (.mv r12)),
 .g .h9 .hc false d159 (.op (.bin .ne r157 r158)),
 o d160 (.pick r156 (.c (.bool true)) r159),
 m d161 r160,
 .g .ha .h1 false d162 (.op (.mv r4)),
 .g .ha .h1 false d163 (.call 18 [r162]),
 .g .ha .h1 false d164 (.op (.mv r6)),
 .g .ha .h1 false d165 (.call 19 [r164]),
 .g .ha .h1 false d166 (.call 17 [r163,r165]),
 .g .ha .h1 false d167 (.op (.un .not r166)),
 o d168 (.pick r161 (.c (.bool true)) r167)]) (.ah k3_11 .skip)))) (.ah k3_12 .skip)))
def lL:AC:=(.ah k3_13 .skip)
def MM:AC:=(.ah k3_14 (.seq (.block 1 (.ah k3_15 (.ah k3_16 (.seq (.seq (.ops [m d113 r4,
 o d114 (.bin .lk r113 (.c .di)),
 m d115 r114,
 .g .h7 .h3 false d116 (.op (.mv r6)),
 .g .h7 .h3 false d117 (.op (.bin .lk r116 (.c .di))),
 o d118 (.pick r115 (.c (.bool true)) r117),
 m d119 r118,
 .g .h7 .h7 false d120 (.op (.mv r5)),
 .g .h7 .h7 false d121 (.op (.bin .ne r120 a0)),
 o d122 (.pick r119 (.c (.bool true)) r121),
 m d123 r122,
 .g .h7 .hb false d124 (.op (.mv r7)),
 .g .h7 .hb false d125 (.op (.bin .ne r124 a0)),
 o d126 (.pick r123 (.c (.bool true)) r125)]) (.ah k3_17 .skip)) (.ah k3_18 (.block 2 (.loop (.ah k3_19 (.seq (.block 3 (.ah k3_20 (.seq (.ops [m d152 r9,
 m d153 r11,
 oc d154 17 [r152,r153],
 o d155 (.un .not r154),
 m d156 r155,
 .g .h9 .hc false d157 (.op (.mv r10)),
 .g .h9 .hc false d158 (.op (.mv r12)),
 .g .h9 .hc false d159 (.op (.bin .ne r157 r158)),
 o d160 (.pick r156 (.c (.bool true)) r159),
 m d161 r160,
 .g .ha .h1 false d162 (.op (.mv r4)),
 .g .ha .h1 false d163 (.call 18 [r162]),
 .g .ha .h1 false d164 (.op (.mv r6)),
 .g .ha .h1 false d165 (.call 19 [r164]),
 .g .ha .h1 false d166 (.call 17 [r163,r165]),
 .g .ha .h1 false d167 (.op (.un .not r166)),
 o d168 (.pick r161 (.c (.bool true)) r167)]) (.ah k3_21 .skip)))) (.ah k3_22 .skip)))))))))) (.ah k3_23 .skip)))
def MN:AC:=(.ah k3_24 (.ah k3_25 (.seq (.ops [m d196 r14,
 o d197 (.bin .eq r196 (.c (pi 20))),
 m d198 r197,
 .g .hc .h6 true d199 (.op (.mv r16)),
 .g .hc .h6 true d200 (.op (.bin .eq r199 (.c (pi 12)))),
 o d201 (.pick r198 r200 (.c (.bool false))),
 m d202 r201,
 .g .hc .ha true d203 (.op (.mv r18)),
 .g .hc .ha true d204 (.op (.bin .eq r203 a1)),
 o d205 (.pick r202 r204 (.c (.bool false))),
 m d206 r205,
 .g .hc .he true d207 (.op (.mv r20)),
 .g .hc .he true d208 (.op (.bin .eq r207 (.c (pi 12)))),
 o d209 (.pick r206 r208 (.c (.bool false))),
 m d210 r209,
 .g .hd .h2 true d211 (.call 21 []),
 o d212 (.pick r210 r211 (.c (.bool false))),
 m d0 r212]) .ret)))
def NV:F1:=(.mk .none .none .none .none f4 f5 f6 f7 f8 f9 f10 f11 f12 f13 f14 f15)
def NW:F1:=(.mk f16 f17 f18 f19 f20 f21 f22 f23 f24 f25 f26 f27 f28 f29 f30 f31)
def NX:F1:=(.mk f32 f33 f34 f35 f36 f37 f38 f39 f40 f41 f42 f43 f44 f45 f46 .none)
def NY:F1:=(.mk .none f49 f50 f51 f52 f53 f54 f55 f56 f57 f58 f59 f60 f61 f62 f63)
def NZ:F1:=(.mk f64 f65 f66 f67 f68 f69 f70 f71 f72 f73 f74 f75 f76 f77 f78 f79)
def Ul:F1:=(.mk f80 f81 f82 f83 f84 f85 f86 f87 f88 f89 f90 f91 f92 f93 f94 f95)
def Oa:F1:=(.mk f96 f97 f98 f99 f100 f101 .none .none .none f105 f106 .none f108 f109 f110 f111)
def Ob:F1:=(.mk f112 f113 f114 f115 f116 f117 f118 f119 f120 f121 f122 f123 f124 f125 f126 f127)
def Um:F1:=(.mk f128 f129 f130 f131 f132 f133 f134 f135 f136 f137 f138 f139 f140 f141 f142 f143)
def Un:F1:=(.mk f144 f145 f146 f147 f148 f149 f150 f151 f152 f153 f154 f155 f156 f157 f158 f159)
def MO:F1:=(.mk f160 f161 f162 f163 f164 f165 f166 f167 f168 f169 f170 f171 f172 f173 f174 f175)
def MP:F1:=(.mk f176 f177 f178 f179 f180 f181 f182 f183 f184 f185 .none .none .none f189 f190 f191)
def Eo:F1:=(.mk f192 f193 .none .none f196 f197 f198 f199 f200 f201 .none f203 f204 f205 f206 f207)
def Ep:F1:=(.mk f208 f209 f210 f211 f212 f213 f214 f215 f216 f217 .none .none .none .none .none f223)
def MQ:F1:=(.mk .none .none .none f227 .none f229 f230 f231 f232 .none f234 f235 f236 f237 f238 f239)
def MS:F1:=(.mk f240 f241 f242 f243 f244 f245 f246 f247 f248 f249 f250 f251 f252 f253 f254 f255)
def MT:F1:=(.mk f256 f257 f258 f259 f260 f261 f262 f263 f264 f265 f266 f267 f268 f269 f270 f271)
def Er:F1:=(.mk .none .none f274 f275 f276 f277 f278 f279 f280 f281 f282 f283 f284 f285 f286 f287)
def MU:F1:=(.mk f288 f289 f290 f291 f292 .none .none .none .none .none f298 .none .none f301 f302 f303)
def MV:F1:=(.mk f304 f305 f306 f307 f308 f309 f310 f311 .none f313 f314 f315 .none f317 f318 f319)
def Es:F1:=(.mk f320 f321 f322 f323 .none f325 f326 f327 f328 .none f330 f331 f332 f333 f334 f335)
def Et:F1:=(.mk f336 f337 .none .none f340 .none f342 .none f344 f345 f346 f347 f348 f349 f350 f351)
def Eu:F1:=(.mk f352 f353 f354 f355 .none .none f358 .none f360 f361 f362 f363 f364 .none .none .none)
def Ev:F1:=(.mk .none .none f370 f371 .none f373 .none .none f376 .none .none f379 .none f381 .none .none)
def MW:F2:=.mk NV NW NX NY NZ Ul Oa Ob Um Un MO MP Eo Ep MQ MS
def MX:F2:=.mk MT Er MU MV Es Et Eu Ev .nil .nil .nil .nil .nil .nil .nil .nil
def nk:Pg:=.mk (.mk MW MX .nil .nil .nil .nil .nil .nil .nil .nil .nil .nil .nil .nil .nil .nil) []
end
end Go.Am.Seat
