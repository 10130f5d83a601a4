/- The program's code in a form that runs fast, written by program. Nothing is asked. -/
import Derived.Test.YtphjcbegmaekbaaGreatDoorFast1
set_option linter.all false
namespace Go.Am.Seat
set_option maxRecDepth 20000
noncomputable section
def f319:AF:=.mk b319 []
def f329:AF:=.mk b329 [.t .h0 .h4]
def f330:AF:=.mk b330 [.t .h0 .h2]
def f331:AF:=.mk b331 [.t .h0 .h2]
def f332:AF:=.mk b332 [.t .h0 .h2]
def f333:AF:=.mk b333 [.t .h0 .h4]
def f334:AF:=.mk b334 [.t .h0 .h2]
def f336:AF:=.mk b336 [.t .h0 .h6]
def f339:AF:=.mk b339 [.t .h0 .h2]
def f340:AF:=.mk b340 [.t .h0 .h4]
def f341:AF:=.mk b341 [.t .h0 .h2]
def f342:AF:=.mk b342 [.t .h0 .h2]
def f343:AF:=.mk b343 [.t .h0 .h2]
def f344:AF:=.mk b344 [.agg 4 .h0 .h2,.t .h0 .h3,.t .h0 .h4]
def f345:AF:=.mk b345 []
def f346:AF:=.mk b346 [.t .h0 .h4,.t .h0 .h5]
def f347:AF:=.mk b347 [.t .h0 .h2]
def f349:AF:=.mk b349 [.t .h0 .h2]
def f350:AF:=.mk b350 [.t .h0 .h2]
def f351:AF:=.mk b351 [.t .h0 .h2]
def f352:AF:=.mk b352 [.t .h0 .h0]
def f353:AF:=.mk b353 [.agg 2 .h0 .h4]
def f354:AF:=.mk b354 [.t .h0 .h2]
def f355:AF:=.mk b355 [.t .h0 .h2]
def f356:AF:=.mk b356 [.agg 3 .h0 .h6,.t .h0 .h7]
def f357:AF:=.mk b357 []
def f358:AF:=.mk b358 [.t .h0 .h4,.t .h0 .h5]
def f359:AF:=.mk b359 [.t .h0 .h6]
def f360:AF:=.mk b360 [.t .h0 .h4]
def f361:AF:=.mk b361 [.t .h0 .h4]
def k362_3:KF:=K5 y0 y5 y21 y22 y23 fun c i x h a b d e f=>
 X 2 d f h fun g h=>
 M 2 g h fun j h=>
 O 167 2 (.k1 (Y2 .aj (.aM .f64 0 0))) h fun k h=>
 S 2 k j h fun l h=>
 A 0 k h fun m h=>
 L m h fun n h=>
 C c 441 [a,n] h fun o h=>
 E 0 o h fun p h=>
 E 1 o h fun q h=>
 tR (cZ q h) fun s h=>
 I s (.ret (T2 i1) h) (C c 440 [p] h fun t h=>
 tR (zH (.one .s) (.agg [.aj,.aj]) false b t h) fun v h=>
 O 461 2 (.k1 (Y2 .aj .aj)) h fun w h=>
 S 2 w v h fun y h=>
 x (T464 a b k p w d e f) h)
def k362_4:KF:=K5 y0 y5 y21 y22 y23 fun c i x h a b d e f=>
 D f i1 h fun g h=>
 .nm (T463 a b d e g) h
def k362_2:KF:=K5 y0 y5 y21 y22 y23 fun c i x h a b d e f=>
 Y f e h fun g h=>
 I g (x (T463 a b d e f) h) (.ex 0 (T20 a b) h)
def k362_1:KF:=K3 y0 y1 y5 fun c i x h a b d=>
 G b h fun e h=>
 x (T463 a d b e i0) h
def k362_7:KF:=K3 y0 y5 y52 fun c i x h a b d=>
 tR (mU (.c d) .nil h) fun e h=>
 E 0 e h fun f h=>
 E 1 e h fun g h=>
 O 461 2 (.k1 (Y2 .aj .aj)) h fun j h=>
 S 2 j g h fun k h=>
 J a h fun l h=>
 A 1 l h fun m h=>
 L m h fun n h=>
 tR (zH (.one .s) (.agg [.aj,.aj]) false n f h) fun o h=>
 F 1 o h fun p h=>
 A 1 j h fun q h=>
 L q h fun s h=>
 C c 184 [p,s] h fun t h=>
 E 0 t h fun v h=>
 E 1 t h fun w h=>
 tR (dH w i0 h) fun y h=>
 I y (.ret (T2 w) h) (A 0 j h fun z h=>
 L z h fun a0 h=>
 U [.aj,.aj] [.mk 0 1 (.c a0),.mk 1 1 (.c v)] h fun a1 h=>
 tR (Bj (.one .s) b f a1 h) fun a2 h=>
 .nm (T465 a b d) h)
def k362_6:KF:=K4 y0 y5 y52 y54 fun c i x h a b d e=>
 I e (x (T465 a b d) h) (.ex 2 (T20 a b) h)
def k362_5:KF:=K2 y0 y5 fun c i x h a b=>
 tR (jh (.c b) .nil h) fun d h=>
 x (T465 a b d) h
def k362_10:KF:=K2 y0 y81 fun c i x h a b=>
 tR (mU (.c b) .nil h) fun d h=>
 E 0 d h fun e h=>
 E 1 d h fun f h=>
 O 461 2 (.k1 (Y2 .aj .aj)) h fun g h=>
 S 2 g f h fun j h=>
 A 1 g h fun k h=>
 L k h fun l h=>
 G l h fun m h=>
 Q m i0 h fun n h=>
 I n (J a h fun o h=>
 A 1 o h fun p h=>
 L p h fun q h=>
 tR (del (.one .s) q e h) fun s h=>
 .nm (T466 a b) h) (J a h fun o h=>
 A 1 o h fun p h=>
 L p h fun q h=>
 M 2 g h fun s h=>
 tR (Bj (.one .s) q e s h) fun t h=>
 .nm (T466 a b) h)
def k362_9:KF:=K3 y0 y81 y83 fun c i x h a b d=>
 I d (x (T466 a b) h) (.ex 4 T15 h)
def k362_8:KF:=K2 y0 y5 fun c i x h a b=>
 tR (jh (.c b) .nil h) fun d h=>
 x (T466 a d) h
def k362_11:KF:=fun c i x r h=>
 .ret (T2 i0) h
def k362_0:KF:=K2 y0 y1 fun c i x h a b=>
 C c 146 [b] h fun d h=>
 tR (cZ d h) fun e h=>
 I e (.ret (T2 i1) h) (tR (mkm h) fun f h=>
 x (T48 a b f) h)
def x362:AC:=(.ah k362_0 (.seq (.ah k362_1 (.block 0 (.loop (.ah k362_2 (.seq (.block 1 (.ah k362_3 (.jQ [q 0 (m d41 r8),
 w (oc d42 440 [r41]),
 qf 1 d44 1 r10,
 ql 1 d45 r44,
 q 1 (o d46 (.kY 2 r7)),
 n (o d47 (.bD 167 2 1 [.aj,(.aM .f64 0 0)] [.mk 0 2 r46])),
 w (o d48 (.app 167 2 r45 r47)),
 q 2 (m d40 r5),
 q 2 (m d43 r8),
 q 0 (o d49 (.build [.aj,.aj] [.mk 0 1 r43,.mk 1 1 r48])),
 w (o .no (.Bj (.one .s) r40 r42 r49))]))) (.ah k362_4 .skip)))))) (.seq (.ah k362_5 (.block 2 (.loop (.seq (.ops [.o d53 (.xO false r52),
 oe d54 0 r53]) (.ah k362_6 (.ah k362_7 .skip)))))) (.seq (.ah k362_8 (.block 4 (.loop (.seq (.ops [.o d82 (.xO false r81),
 oe d83 0 r82]) (.ah k362_9 (.ah k362_10 .skip)))))) (.ah k362_11 .skip)))))
def f362:AF:=.mk x362 [.t .h0 .h4]
def f363:AF:=.mk b363 [.t .h0 .h4,.t .h0 .h5]
def k364_4:KF:=K7 y0 y1 y5 y6 y7 y15 y40 fun c i x h a b d e f g j=>
 I j (.ret (T2 (pi 27)) h) (.nm (T470 a b d e f g) h)
def k364_5:KF:=K6 y0 y1 y5 y6 y7 y15 fun c i x h a b d e f g=>
 A 0 e h fun j h=>
 L j h fun k h=>
 U [.aj,.aj,.aj] [.mk 0 1 (.c k),.mk 1 1 (.c f)] h fun l h=>
 tR (Bj (.one .s) b d l h) fun m h=>
 .nm (T468 a b g) h
def k364_3:KF:=K3 y0 y1 y15 fun c i x h a b d=>
 tR (mU (.c d) .nil h) fun e h=>
 E 0 e h fun f h=>
 E 1 e h fun g h=>
 O 458 3 (.k1 (Y3 .aj .aj .aj)) h fun j h=>
 S 3 j g h fun k h=>
 J a h fun l h=>
 A 2 l h fun m h=>
 L m h fun n h=>
 tR (zH (.one .s) (.agg [.aj,.aj,.aj]) false n f h) fun o h=>
 F 1 o h fun p h=>
 A 1 j h fun q h=>
 L q h fun s h=>
 C c 184 [p,s] h fun t h=>
 E 0 t h fun v h=>
 E 1 t h fun w h=>
 x (T469 a b f j v w d) h
def k364_2:KF:=K4 y0 y1 y15 y17 fun c i x h a b d e=>
 I e (x (T468 a b d) h) (.ex 0 (T13 a b) h)
def k364_1:KF:=K2 y0 y1 fun c i x h a b=>
 tR (jh (.c b) .nil h) fun d h=>
 x (T468 a b d) h
def k364_10:KF:=K5 y0 y1 y52 y53 y54 fun c i x h a b d e f=>
 D f i1 h fun g h=>
 .nm (T471 a b d e g) h
def k364_9:KF:=K5 y0 y1 y52 y53 y54 fun c i x h a b d e f=>
 X 1 d f h fun g h=>
 L g h fun j h=>
 tR (zH (.one .s) (.agg [.aj,.aj,.aj]) false b j h) fun k h=>
 O 458 3 (.k1 (Y3 .aj .aj .aj)) h fun l h=>
 S 3 l k h fun m h=>
 A 1 l h fun n h=>
 L n h fun o h=>
 G o h fun p h=>
 Q p i0 h fun q h=>
 I q (x (T471 a b d e f) h) (A 0 l h fun s h=>
 L s h fun t h=>
 J a h fun v h=>
 A 1 v h fun w h=>
 L w h fun y h=>
 A 1 l h fun z h=>
 L z h fun a0 h=>
 C c 447 [t,y,a0] h fun a1 h=>
 E 0 a1 h fun a2 h=>
 E 1 a1 h fun a3 h=>
 tR (dH a3 i0 h) fun a4 h=>
 I a4 (.ret (T2 a3) h) (A 0 l h fun a5 h=>
 L a5 h fun a6 h=>
 A 1 l h fun a7 h=>
 L a7 h fun a8 h=>
 U [.aj,.aj,.aj] [.mk 0 1 (.c a6),.mk 1 1 (.c a8),.mk 2 1 (.c a2)] h fun a9 h=>
 tR (Bj (.one .s) b j a9 h) fun b0 h=>
 x (T471 a b d e f) h))
def k364_8:KF:=K5 y0 y1 y52 y53 y54 fun c i x h a b d e f=>
 Y f e h fun g h=>
 I g (x (T471 a b d e f) h) (.ex 2 T15 h)
def k364_7:KF:=K2 y0 y1 fun c i x h a b=>
 C c 446 [b] h fun d h=>
 C c 445 [d] h fun e h=>
 G e h fun f h=>
 x (T471 a b e f i0) h
def k364_11:KF:=fun c i x r h=>
 .ret (T2 i0) h
def k364_6:KF:=K2 y0 y1 fun c i x h a b=>
 C c 444 [a,b] h fun d h=>
 I d (.ret (T2 (pi 27)) h) (x (T13 a b) h)
def k364_0:KF:=K2 y0 y1 fun c i x h a b=>
 x (T13 a b) h
def x364:AC:=(.ah k364_0 (.seq (.ah k364_1 (.block 0 (.loop (.seq (.ops [.o d16 (.xO false r15),
 oe d17 0 r16]) (.ah k364_2 (.block 1 (.ah k364_3 (.seq (.seq (.ops [m d34 r8,
 o d35 (.bin .ne r34 a0),
 m d36 r35,
 .g .h2 .h4 false d37 (.op (.mv r7)),
 .g .h2 .h4 false d38 (.call 150 [r37]),
 .g .h2 .h4 false d39 (.op (.un .not r38)),
 o d40 (.pick r36 (.c (.bool true)) r39)]) (.ah k364_4 .skip)) (.ah k364_5 .skip))))))))) (.ah k364_6 (.seq (.ah k364_7 (.block 2 (.loop (.ah k364_8 (.ah k364_9 (.ah k364_10 .skip)))))) (.ah k364_11 .skip)))))
def f364:AF:=.mk x364 [.t .h0 .h4]
def f371:AF:=.mk b371 [.t .h0 .h4]
def f372:AF:=.mk b372 []
def f378:AF:=.mk b378 [.t .h0 .h4]
def k381_0:KF:=K1 y0 fun c i x h a=>
 tR (bK (.jR .s) a .aj h) fun b h=>
 I b (.ret (T1 .aj) h) (tR (bs 167 2 0 [] [] h) fun d h=>
 tR (eI 167 2 d a h) fun e h=>
 .ret (T1 e) h)
def x381:AC:=(.ah k381_0 .skip)
def f381:AF:=.mk x381 [.t .h0 .h2]
def k382_0:KF:=K2 y0 y1 fun c i x h a b=>
 G a h fun d h=>
 C c 452 [a,d,b] h fun e h=>
 .nm T15 h
def x382:AC:=(.ah k382_0 .skip)
def f382:AF:=.mk x382 []
def f383:AF:=.mk b383 [.t .h0 .h4]
def f384:AF:=.mk b384 [.t .h0 .h4,.t .h0 .h5]
def k385_1:KF:=K2 y0 y1 fun c i x h a b=>
 Y b i0 h fun d h=>
 x (T11 a b d) h
def k385_3:KF:=K1 y0 fun c i x h a=>
 .ret (T2 a) h
def k385_2:KF:=K2 y0 y1 fun c i x h a b=>
 tR (mV (.c a) .nil h) fun d h=>
 G a h fun e h=>
 Z d e h fun f h=>
 Z b f h fun g h=>
 tR (lK g i0 h) fun j h=>
 I j (tR (mV (.c a) .nil h) fun k h=>
 tR (da 2 (.c a) .none (.some (.c k)) .none .nil h) fun l h=>
 tR (lY 167 2 [.aj,(.aM .f64 0 0)] (.c l) (.c g) .nil h) fun m h=>
 G a h fun n h=>
 tR (da 2 (.c m) .none (.some (.c n)) .none .nil h) fun o h=>
 x (T0 o) h) (x (T0 a) h)
def k385_0:KF:=K2 y0 y1 fun c i x h a b=>
 x (T13 a b) h
def x385:AC:=(.ah k385_0 (.seq (.ah k385_1 (.cond r6 (.ops [o d7 (.mki 9 (.c (.str [99,97,110,110,111,116,32,98,101,32,110,101,103,97,116,105,118,101]))),
 o .no (.bad 400)]) .skip)) (.ah k385_2 (.ah k385_3 .skip))))
def f385:AF:=.mk x385 [.t .h0 .h4]
def k388_2:KF:=K2 y0 y3 fun c i x h a b=>
 G a h fun d h=>
 Y b d h fun e h=>
 I e (X 5 a b h fun f h=>
 A 0 f h fun g h=>
 L g h fun j h=>
 tR (dH j (pi 2) h) fun k h=>
 I k (.ret (T1 (.bool false)) h) (D b i1 h fun l h=>
 .nm (T3 a l) h)) (.ex 0 (T3 a b) h)
def k388_1:KF:=K1 y0 fun c i x h a=>
 x (T3 a i0) h
def k388_3:KF:=fun c i x r h=>
 .ret (T1 (.bool true)) h
def k388_0:KF:=K1 y0 fun c i x h a=>
 x (T0 a) h
def x388:AC:=(.ah k388_0 (.seq (.ah k388_1 (.block 0 (.loop (.ah k388_2 .skip)))) (.ah k388_3 .skip)))
def f388:AF:=.mk x388 [.t .h0 .h2]
def f389:AF:=.mk b389 [.t .h0 .h2]
def k392_6:KF:=K2 y1 y63 fun c i x h a b=>
 I b (.ret (T1 (.bool false)) h) (.nm (T162 a) h)
def k392_8:KF:=K2 y1 y3 fun c i x h a b=>
 A 3 a h fun d h=>
 L d h fun e h=>
 G e h fun f h=>
 Y b f h fun g h=>
 I g (A 3 a h fun j h=>
 L j h fun k h=>
 X 4 k b h fun l h=>
 M 4 l h fun m h=>
 C c 392 [m] h fun n h=>
 tR (cZ n h) fun o h=>
 I o (.ret (T1 (.bool false)) h) (D b i1 h fun p h=>
 .nm (T165 a p) h)) (.ex 1 (T165 a b) h)
def k392_7:KF:=K1 y1 fun c i x h a=>
 x (T165 a i0) h
def k392_9:KF:=fun c i x r h=>
 .ret (T1 (.bool true)) h
def k392_5:KF:=K2 y1 y5 fun c i x h a b=>
 Q b (pi 4) h fun d h=>
 x (T457 a d) h
def k392_4:KF:=K2 y1 y5 fun c i x h a b=>
 Q b (pi 3) h fun d h=>
 x (T456 a b d) h
def k392_3:KF:=K2 y1 y5 fun c i x h a b=>
 Q b (pi 2) h fun d h=>
 x (T455 a b d) h
def k392_2:KF:=K2 y1 y5 fun c i x h a b=>
 Q b i1 h fun d h=>
 x (T287 a b d) h
def k392_1:KF:=K1 y1 fun c i x h a=>
 A 0 a h fun b h=>
 L b h fun d h=>
 x (T454 a d) h
def k392_10:KF:=fun c i x r h=>
 .ret (T1 (.bool false)) h
def k392_0:KF:=K1 y0 fun c i x h a=>
 B 336 a h fun b h=>
 x (T162 b) h
def x392:AC:=(.ah k392_0 (.seq (.ah k392_1 (.block 0 (.ah k392_2 (.cond r6 (.seq (.ops [of d8 1 r1,
 ol d9 r8,
 oc d10 129 [r9],
 m d11 r10,
 .g .h0 .hb true d12 (.op (.dh 2 r1)),
 .g .h0 .hb true d13 (.op (.cY r12)),
 .g .h0 .hb true d14 (.op (.bin .eq r13 a0)),
 o d15 (.pick r11 r14 (.c (.bool false))),
 m d16 r15,
 .g .h1 .h0 true d17 (.op (.dh 3 r1)),
 .g .h1 .h0 true d18 (.op (.cY r17)),
 .g .h1 .h0 true d19 (.op (.len r18)),
 .g .h1 .h0 true d20 (.op (.bin .eq r19 a0)),
 o d21 (.pick r16 r20 (.c (.bool false))),
 m d2 r21]) .ret) (.ah k392_3 (.cond r22 (.seq (.ops [of d24 1 r1,
 ol d25 r24,
 o d26 (.bin .seq r25 (.c iS)),
 m d27 r26,
 .g .h1 .hb true d28 (.op (.dh 3 r1)),
 .g .h1 .hb true d29 (.op (.cY r28)),
 .g .h1 .hb true d30 (.op (.len r29)),
 .g .h1 .hb true d31 (.op (.bin .eq r30 a0)),
 o d32 (.pick r27 r31 (.c (.bool false))),
 m d2 r32]) .ret) (.ah k392_4 (.cond r33 (.seq (.ops [of d35 2 r1,
 ol d36 r35,
 o d37 (.bin .eq r36 a0),
 m d38 r37,
 .g .h2 .h6 true d39 (.op (.dh 3 r1)),
 .g .h2 .h6 true d40 (.op (.cY r39)),
 .g .h2 .h6 true d41 (.op (.len r40)),
 .g .h2 .h6 true d42 (.op (.bin .eq r41 a0)),
 o d43 (.pick r38 r42 (.c (.bool false))),
 m d2 r43]) .ret) (.ah k392_5 (.cond r44 (.seq (.seq (.jQ [qf 0 d46 2 r1,
 ql 0 d47 r46,
 q 0 (o d48 (.bin .ne r47 a0)),
 q 0 (m d49 r48),
 q 0 (.g .h3 .h1 false d50 (.op (.dh 1 r1))),
 q 0 (.g .h3 .h1 false d51 (.op (.cY r50))),
 w (.g .h3 .h1 false d52 (.call 389 [r51])),
 q 0 (.g .h3 .h1 false d53 (.op (.bin .eq r52 a0))),
 q 0 (o d54 (.pick r49 (.c (.bool true)) r53)),
 q 0 (m d55 r54),
 q 0 (.g .h3 .h7 false d59 (.op (.dh 1 r1))),
 q 0 (.g .h3 .h7 false d60 (.op (.cY r59))),
 w (.g .h3 .h7 false d61 (.call 389 [r60])),
 q 1 (.g .h3 .h7 false d56 (.op (.dh 3 r1))),
 q 1 (.g .h3 .h7 false d57 (.op (.cY r56))),
 q 1 (.g .h3 .h7 false d58 (.op (.len r57))),
 q 0 (.g .h3 .h7 false d62 (.op (.bin .ne r58 r61))),
 q 0 (o d63 (.pick r55 (.c (.bool true)) r62))]) (.ah k392_6 .skip)) (.seq (.ah k392_7 (.block 1 (.loop (.ah k392_8 .skip)))) (.ah k392_9 .skip))) .skip)))))))))) (.ah k392_10 .skip)))
def f392:AF:=.mk x392 [.t .h0 .h2]
def k393_6:KF:=K4 y1 y2 y8 y9 fun c i x h a b d e=>
 D e i1 h fun f h=>
 .nm (T475 a b d f) h
def k393_5:KF:=K4 y1 y2 y8 y9 fun c i x h a b d e=>
 A 3 b h fun f h=>
 L f h fun g h=>
 X 4 g e h fun j h=>
 M 4 j h fun k h=>
 C c 393 [k,a] h fun l h=>
 E 0 l h fun m h=>
 E 1 l h fun n h=>
 tR (dH n i0 h) fun o h=>
 I o (.ret (T35 i0 n) h) (tR (bs 3 1 1 [i0] [.mk 0 1 (.c m)] h) fun p h=>
 tR (eI 3 1 d p h) fun q h=>
 x (T475 a b q e) h)
def k393_4:KF:=K4 y1 y2 y8 y9 fun c i x h a b d e=>
 A 3 b h fun f h=>
 L f h fun g h=>
 G g h fun j h=>
 Y e j h fun k h=>
 I k (x (T475 a b d e) h) (.ex 1 (T476 b d) h)
def k393_3:KF:=K3 y1 y2 y8 fun c i x h a b d=>
 x (T475 a b d i0) h
def k393_10:KF:=K2 y8 y13 fun c i x h a b=>
 X 1 a i0 h fun d h=>
 L d h fun e h=>
 X 1 a i1 h fun f h=>
 L f h fun g h=>
 Q e g h fun j h=>
 .nm (T480 j b) h
def k393_12:KF:=K1 y12 fun c i x h a=>
 .nm (T480 a (pi 2)) h
def k393_14:KF:=K2 y8 y13 fun c i x h a b=>
 X 1 a i0 h fun d h=>
 L d h fun e h=>
 Q e (pi 2) h fun f h=>
 .nm (T480 f b) h
def k393_16:KF:=K2 y8 y12 fun c i x h a b=>
 X 1 a i1 h fun d h=>
 L d h fun e h=>
 .nm (T480 b e) h
def k393_19:KF:=K4 y8 y12 y13 y14 fun c i x h a b d e=>
 D e i1 h fun f h=>
 .nm (T484 a b d f) h
def k393_18:KF:=K4 y8 y12 y13 y14 fun c i x h a b d e=>
 G a h fun f h=>
 Y e f h fun g h=>
 I g (x (T484 a b d e) h) (.ex 4 (T480 b d) h)
def k393_17:KF:=K3 y8 y12 y13 fun c i x h a b d=>
 x (T484 a b d i0) h
def k393_15:KF:=K4 y8 y12 y13 y62 fun c i x h a b d e=>
 tR (bN e (.str [105,102]) h) fun f h=>
 x (T483 a b d f) h
def k393_13:KF:=K4 y8 y12 y13 y62 fun c i x h a b d e=>
 tR (bN e (.str [108,101,110]) h) fun f h=>
 x (T482 a b d e f) h
def k393_11:KF:=K4 y8 y12 y13 y62 fun c i x h a b d e=>
 tR (bN e (.str [99,97,116]) h) fun f h=>
 x (T481 a b d e f) h
def k393_9:KF:=K4 y8 y12 y13 y62 fun c i x h a b d e=>
 tR (bN e (.str [101,113]) h) fun f h=>
 I f (x (T479 a b d e f) h) (tR (bN e (.str [108,116]) h) fun g h=>
 x (T479 a b d e g) h)
def k393_8:KF:=K4 y2 y8 y12 y13 fun c i x h a b d e=>
 A 1 a h fun f h=>
 L f h fun g h=>
 x (T478 b d e g) h
def k393_20:KF:=K2 y12 y13 fun c i x h a b=>
 tR (cZ a h) fun d h=>
 I d (.ret (T35 i0 (pi 22)) h) (.ret (T35 b i0) h)
def k393_7:KF:=K2 y2 y8 fun c i x h a b=>
 x (T477 a b (.bool true) i1) h
def k393_2:KF:=K2 y1 y2 fun c i x h a b=>
 x (T474 a b .aj) h
def k393_1:KF:=K2 y1 y2 fun c i x h a b=>
 A 0 b h fun d h=>
 L d h fun e h=>
 Q e i1 h fun f h=>
 I f (A 1 b h fun g h=>
 L g h fun j h=>
 C c 189 [a,j] h fun k h=>
 E 0 k h fun l h=>
 E 1 k h fun m h=>
 tR (cZ m h) fun n h=>
 I n (.ret (T35 i0 (pi 20)) h) (X 2 a l h fun o h=>
 A 1 o h fun p h=>
 L p h fun q h=>
 .ret (T35 q i0) h)) (Q e (pi 2) h fun g h=>
 I g (.ret (T35 i1 i0) h) (Q e (pi 3) h fun j h=>
 I j (.ret (T35 (pi 2) i0) h) (x (T104 a b) h)))
def k393_0:KF:=K2 y0 y1 fun c i x h a b=>
 B 336 a h fun d h=>
 x (T104 b d) h
def x393:AC:=(.ah k393_0 (.ah k393_1 (.ah k393_2 (.seq (.ah k393_3 (.block 1 (.loop (.ah k393_4 (.ah k393_5 (.ah k393_6 .skip)))))) (.ah k393_7 (.seq (.ah k393_8 (.block 3 (.ah k393_9 (.cond r77 (.ah k393_10 .skip) (.ah k393_11 (.cond r87 (.seq (.ops [m d89 r8,
 o d90 (.dn 1 r89 a0),
 ol d91 r90,
 o d92 (.bin .eq r91 a2),
 m d93 r92,
 .g .h5 .hd true d94 (.op (.mv r8)),
 .g .h5 .hd true d95 (.op (.dn 1 r94 a1)),
 .g .h5 .hd true d96 (.op (.cY r95)),
 .g .h5 .hd true d97 (.op (.bin .eq r96 a2)),
 o d98 (.pick r93 r97 (.c (.bool false))),
 m d12 r98]) (.ah k393_12 .skip)) (.ah k393_13 (.cond r99 (.ah k393_14 .skip) (.ah k393_15 (.cond r105 (.seq (.ops [m d107 r8,
 o d108 (.dn 1 r107 a0),
 ol d109 r108,
 o d110 (.bin .eq r109 a1),
 m d111 r110,
 .g .h6 .hf true d112 (.op (.mv r8)),
 .g .h6 .hf true d113 (.op (.dn 1 r112 a1)),
 .g .h6 .hf true d114 (.op (.cY r113)),
 .g .h6 .hf true d115 (.op (.mv r8)),
 .g .h6 .hf true d116 (.op (.dn 1 r115 a2)),
 .g .h6 .hf true d117 (.op (.cY r116)),
 .g .h6 .hf true d118 (.op (.bin .eq r114 r117)),
 o d119 (.pick r111 r118 (.c (.bool false))),
 m d12 r119]) (.ah k393_16 .skip)) (.ah k393_17 (.block 4 (.loop (.ah k393_18 (.seq (.block 5 (.ops [m d69 r12,
 m d70 r69,
 .g .h4 .h6 true d71 (.op (.mv r8)),
 .g .h4 .h6 true d72 (.op (.mv r14)),
 .g .h4 .h6 true d73 (.op (.dn 1 r71 r72)),
 .g .h4 .h6 true d74 (.op (.cY r73)),
 .g .h4 .h6 true d75 (.op (.bin .eq r74 a1)),
 o d76 (.pick r70 r75 (.c (.bool false))),
 m d12 r76])) (.ah k393_19 .skip)))))))))))))))) (.ah k393_20 .skip)))))))
def f393:AF:=.mk x393 [.t .h0 .h4,.t .h0 .h5]
def k394_2:KF:=K3 y0 y1 y5 fun c i x h a b d=>
 G a h fun e h=>
 Y d e h fun f h=>
 I f (X 1 a d h fun g h=>
 L g h fun j h=>
 tR (bN j b h) fun k h=>
 I k (.ret (T2 (.bool true)) h) (D d i1 h fun l h=>
 .nm (T48 a b l) h)) (.ex 0 (T48 a b d) h)
def k394_1:KF:=K2 y0 y1 fun c i x h a b=>
 x (T48 a b i0) h
def k394_3:KF:=fun c i x r h=>
 .ret (T2 (.bool false)) h
def k394_0:KF:=K2 y0 y1 fun c i x h a b=>
 x (T13 a b) h
def x394:AC:=(.ah k394_0 (.seq (.ah k394_1 (.block 0 (.loop (.ah k394_2 .skip)))) (.ah k394_3 .skip)))
def f394:AF:=.mk x394 [.t .h0 .h4]
def k395_1:KF:=K5 y1 y2 y3 y6 y23 fun c i x h a b d e f=>
 I f (U [i0,i0,iS] [] h fun g h=>
 S 3 e g h fun j h=>
 .ret (T31 e (pi 22)) h) (.nm (T458 a b d e) h)
def k395_2:KF:=K4 y1 y2 y3 y6 fun c i x h a b d e=>
 M 4 d h fun f h=>
 C c 455 [f,a,b] h fun g h=>
 E 0 g h fun j h=>
 E 1 g h fun k h=>
 S 3 e j h fun l h=>
 .ret (T31 e k) h
def k395_0:KF:=K3 y0 y1 y2 fun c i x h a b d=>
 B 336 a h fun e h=>
 O 39 3 (.k1 (Y3 i0 i0 iS)) h fun f h=>
 M 4 e h fun g h=>
 C c 290 [g,b] h fun j h=>
 E 0 j h fun k h=>
 E 1 j h fun l h=>
 x (T485 b d e f l) h
def x395:AC:=(.ah k395_0 (.seq (.seq (.ops [m d16 r9,
 o d17 (.bin .ne r16 a0),
 m d18 r17,
 .g .h1 .h2 false d19 (.op (.mv r1)),
 .g .h1 .h2 false d20 (.op (.mv r2)),
 .g .h1 .h2 false d21 (.call 200 [r19,r20]),
 .g .h1 .h2 false d22 (.op (.un .not r21)),
 o d23 (.pick r18 (.c (.bool true)) r22)]) (.ah k395_1 .skip)) (.ah k395_2 .skip)))
def f395:AF:=.mk x395 [.agg 3 .h0 .h6,.t .h0 .h7]
def f396:AF:=.mk b396 [.t .h0 .h4]
def f397:AF:=.mk b397 [.t .h0 .h4,.t .h0 .h5]
def f398:AF:=.mk b398 [.t .h0 .h4]
def f399:AF:=.mk b399 [.t .h0 .h4]
def f400:AF:=.mk b400 [.agg 3 .h0 .h8,.t .h0 .h9]
def k401_1:KF:=K3 y5 y6 y27 fun c i x h a b d=>
 I d (.ret (T101 i0 i0 (.bool false)) h) (.nm (T296 a b) h)
def k401_3:KF:=K3 y7 y8 y41 fun c i x h a b d=>
 I d (.ret (T101 i0 i0 (.bool false)) h) (.nm (T498 a b) h)
def k401_4:KF:=K2 y7 y8 fun c i x h a b=>
 .ret (T101 a b (.bool true)) h
def k401_2:KF:=K2 y5 y6 fun c i x h a b=>
 tR (cK (.f2i .i64) a h) fun d h=>
 tR (cK (.f2i .i64) b h) fun e h=>
 x (T497 a b d e) h
def k401_0:KF:=K1 y0 fun c i x h a=>
 tR (ji false (.c a) .nil h) fun b h=>
 tR (ji true (.c a) .nil h) fun d h=>
 x (T296 b d) h
def x401:AC:=(.ah k401_0 (.seq (.seq (.ops [m d13 r5,
 o d14 (.bin (.RW .geq) r13 (.c (.gA .f64 0))),
 m d15 r14,
 .g .h0 .hf true d16 (.op (.mv r5)),
 .g .h0 .hf true d17 (.op (.bin (.RW .leq) r16 (.c (.gA .f64 4832362400168542208)))),
 o d18 (.pick r15 r17 (.c (.bool false))),
 m d19 r18,
 .g .h1 .h3 true d20 (.op (.mv r6)),
 .g .h1 .h3 true d21 (.op (.bin (.RW .geq) r20 (.c (.gA .f64 0)))),
 o d22 (.pick r19 r21 (.c (.bool false))),
 m d23 r22,
 .g .h1 .h7 true d24 (.op (.mv r6)),
 .g .h1 .h7 true d25 (.op (.bin (.RW .leq) r24 (.c (.gA .f64 4832362400168542208)))),
 o d26 (.pick r23 r25 (.c (.bool false))),
 o d27 (.un .not r26)]) (.ah k401_1 .skip)) (.ah k401_2 (.seq (.seq (.ops [m d32 r7,
 o d33 (.conv (.i2f .f64) r32),
 m d34 r5,
 o d35 (.bin (.RW .neq) r33 r34),
 m d36 r35,
 .g .h2 .h4 false d37 (.op (.mv r8)),
 .g .h2 .h4 false d38 (.op (.conv (.i2f .f64) r37)),
 .g .h2 .h4 false d39 (.op (.mv r6)),
 .g .h2 .h4 false d40 (.op (.bin (.RW .neq) r38 r39)),
 o d41 (.pick r36 (.c (.bool true)) r40)]) (.ah k401_3 .skip)) (.ah k401_4 .skip)))))
def f401:AF:=.mk x401 [.t .h0 .h2,.t .h0 .h3,.t .h0 .h4]
def k402_2:KF:=K2 y0 y3 fun c i x h a b=>
 G a h fun d h=>
 Y b d h fun e h=>
 I e (X 3 a b h fun f h=>
 M 3 f h fun g h=>
 C c 303 [g] h fun j h=>
 tR (cZ j h) fun k h=>
 I k (.ret (T1 (.bool false)) h) (D b i1 h fun l h=>
 .nm (T3 a l) h)) (.ex 0 (T3 a b) h)
def k402_1:KF:=K1 y0 fun c i x h a=>
 x (T3 a i0) h
def k402_0:KF:=K1 y0 fun c i x h a=>
 x (T0 a) h
def x402:AC:=(.ah k402_0 (.seq (.ah k402_1 (.block 0 (.loop (.ah k402_2 .skip)))) (.seq (.ops [m d16 r0,
 o d17 (.len r16),
 o d18 (.bin .ge r17 a1),
 m d19 r18,
 .g .h1 .h3 true d20 (.op (.mv r0)),
 .g .h1 .h3 true d21 (.op (.len r20)),
 .g .h1 .h3 true d22 (.op (.bin .le r21 (.c (pi 6)))),
 o d23 (.pick r19 r22 (.c (.bool false))),
 m d2 r23]) .ret)))
def f402:AF:=.mk x402 [.t .h0 .h2]
def k403_1:KF:=K3 y0 y1 y13 fun c i x h a b d=>
 I d (.ret (T2 (.bool false)) h) (.nm (T13 a b) h)
def k403_3:KF:=K4 y0 y1 y5 y23 fun c i x h a b d e=>
 I e (.nm (T48 a b d) h) (.ex 0 (T48 a b d) h)
def k403_5:KF:=K3 y0 y1 y5 fun c i x h a b d=>
 D d i1 h fun e h=>
 .nm (T48 a b e) h
def k403_4:KF:=K3 y0 y1 y5 fun c i x h a b d=>
 X 3 a d h fun e h=>
 M 3 e h fun f h=>
 X 3 b d h fun g h=>
 M 3 g h fun j h=>
 C c 456 [f,j] h fun k h=>
 I k (.ret (T2 (.bool true)) h) (X 3 b d h fun l h=>
 M 3 l h fun m h=>
 X 3 a d h fun n h=>
 M 3 n h fun o h=>
 C c 456 [m,o] h fun p h=>
 I p (.ret (T2 (.bool false)) h) (x (T48 a b d) h))
def k403_2:KF:=K2 y0 y1 fun c i x h a b=>
 x (T48 a b i0) h
def k403_6:KF:=K2 y0 y1 fun c i x h a b=>
 G a h fun d h=>
 G b h fun e h=>
 Y d e h fun f h=>
 .ret (T2 f) h
def k403_0:KF:=K2 y0 y1 fun c i x h a b=>
 x (T13 a b) h
def x403:AC:=(.ah k403_0 (.seq (.seq (.ops [m d6 r0,
 oc d7 402 [r6],
 o d8 (.un .not r7),
 m d9 r8,
 .g .h0 .h9 false d10 (.op (.mv r1)),
 .g .h0 .h9 false d11 (.call 402 [r10]),
 .g .h0 .h9 false d12 (.op (.un .not r11)),
 o d13 (.pick r9 (.c (.bool true)) r12)]) (.ah k403_1 .skip)) (.seq (.ah k403_2 (.block 0 (.loop (.seq (.seq (.ops [m d14 r5,
 m d15 r0,
 o d16 (.len r15),
 o d17 (.bin .lt r14 r16),
 m d18 r17,
 .g .h1 .h2 true d19 (.op (.mv r5)),
 .g .h1 .h2 true d20 (.op (.mv r1)),
 .g .h1 .h2 true d21 (.op (.len r20)),
 .g .h1 .h2 true d22 (.op (.bin .lt r19 r21)),
 o d23 (.pick r18 r22 (.c (.bool false)))]) (.ah k403_3 .skip)) (.ah k403_4 (.ah k403_5 .skip)))))) (.ah k403_6 .skip))))
def f403:AF:=.mk x403 [.t .h0 .h4]
def f404:AF:=.mk b404 [.t .h0 .h4,.t .h0 .h5]
def k405_0:KF:=K1 y0 fun c i x h a=>
 C c 305 [a] h fun b h=>
 C c 458 [b] h fun d h=>
 E 0 d h fun e h=>
 E 1 d h fun f h=>
 .ret (T1 e) h
def x405:AC:=(.ah k405_0 .skip)
def f405:AF:=.mk x405 [.t .h0 .h2]
def f406:AF:=.mk b406 [.t .h0 .h4,.t .h0 .h5]
def f407:AF:=.mk b407 [.t .h0 .h4]
def f408:AF:=.mk b408 [.t .h0 .h2,.agg 2 .h0 .h3]
def f409:AF:=.mk b409 [.agg 2 .h0 .h8]
def f413:AF:=.mk b413 [.t .h0 .h4]
def f414:AF:=.mk b414 [.t .h0 .h2]
def f415:AF:=.mk b415 [.t .h0 .h6]
def f416:AF:=.mk b416 [.t .h0 .h4]
def f417:AF:=.mk b417 [.t .h0 .h4]
def f420:AF:=.mk b420 [.t .h0 .h4]
def f421:AF:=.mk b421 [.t .h0 .h3]
def f422:AF:=.mk b422 [.t .h0 .h2]
def f423:AF:=.mk b423 [.agg 4 .h0 .h2,.t .h0 .h3,.t .h0 .h4]
def f424:AF:=.mk b424 []
def f425:AF:=.mk b425 []
def f430:AF:=.mk b430 [.t .h0 .h2]
def f431:AF:=.mk b431 [.t .h0 .h4]
def f432:AF:=.mk b432 [.t .h0 .h2]
def f433:AF:=.mk b433 [.t .h0 .h4]
def f434:AF:=.mk b434 [.t .h0 .h2]
def f436:AF:=.mk b436 [.agg 3 .h0 .h6,.t .h0 .h7]
def f437:AF:=.mk b437 [.t .h0 .h4,.t .h0 .h5]
def f438:AF:=.mk b438 [.t .h0 .h4,.t .h0 .h5]
def f439:AF:=.mk b439 [.t .h0 .h4]
def f440:AF:=.mk b440 [.t .h0 .h2]
def f441:AF:=.mk b441 [.t .h0 .h4,.t .h0 .h5]
def f442:AF:=.mk b442 [.t .h0 .h4,.t .h0 .h5]
def f443:AF:=.mk b443 [.t .h0 .h2]
def f444:AF:=.mk b444 [.t .h0 .h4]
def k445_0:KF:=K1 y0 fun c i x h a=>
 C c 479 [a] h fun b h=>
 C c 181 [b] h fun d h=>
 .ret (T1 b) h
def x445:AC:=(.ah k445_0 .skip)
def f445:AF:=.Es x445 [.t .h0 .h2]
def f446:AF:=.mk b446 [.t .h0 .h2]
def f447:AF:=.mk b447 [.t .h0 .h6,.t .h0 .h7]
def k452_1:KF:=K6 y0 y1 y2 y6 y7 y8 fun c i x h a b d e f g=>
 tR (Ev g b h) fun j h=>
 I j (C c 483 [a,f,g,d] h fun k h=>
 D g e h fun l h=>
 .nm (T517 a b d e g l) h) (.ex 0 (T517 a b d e f g) h)
def k452_5:KF:=K6 y0 y1 y2 y6 y7 y8 fun c i x h a b d e f g=>
 tR (Ev g b h) fun j h=>
 I j (D f e h fun k h=>
 C c 484 [a,f,k,g,d] h fun l h=>
 tR (vf (pi 2) e h) fun m h=>
 D g m h fun n h=>
 .nm (T517 a b d e g n) h) (.ex 4 (T517 a b d e f g) h)
def k452_6:KF:=K5 y0 y1 y2 y6 y7 fun c i x h a b d e f=>
 D f e h fun g h=>
 Y g b h fun j h=>
 I j (C c 484 [a,f,g,b,d] h fun k h=>
 tR (vf e (pi 2) h) fun l h=>
 .nm (T472 a b d l) h) (tR (vf e (pi 2) h) fun k h=>
 .nm (T472 a b d k) h)
def k452_4:KF:=K4 y0 y1 y2 y6 fun c i x h a b d e=>
 tR (vf (pi 2) e h) fun f h=>
 x (T517 a b d e i0 f) h
def k452_3:KF:=K4 y0 y1 y2 y6 fun c i x h a b d e=>
 Y e b h fun f h=>
 I f (x (T472 a b d e) h) (.ex 2 T15 h)
def k452_2:KF:=K5 y0 y1 y2 y6 y7 fun c i x h a b d e f=>
 C c 483 [a,f,b,d] h fun g h=>
 x (T472 a b d e) h
def k452_0:KF:=K3 y0 y1 y2 fun c i x h a b d=>
 x (T517 a b d (pi 20) i0 (pi 20)) h
def x452:AC:=(.ah k452_0 (.seq (.block 0 (.loop (.ah k452_1 .skip))) (.ah k452_2 (.block 2 (.loop (.ah k452_3 (.block 3 (.ah k452_4 (.seq (.block 4 (.loop (.ah k452_5 .skip))) (.ah k452_6 .skip))))))))))
def f452:AF:=.mk x452 []
def k455_3:KF:=K5 y1 y2 y3 y6 y10 fun c i x h a b d e f=>
 A 1 d h fun g h=>
 L g h fun j h=>
 tR (bN j (.str [105,102]) h) fun k h=>
 x (T518 a b d e f k) h
def k455_9:KF:=K3 y6 y10 y12 fun c i x h a b d=>
 M 3 b h fun e h=>
 M 3 d h fun f h=>
 C c 456 [e,f] h fun g h=>
 C c 487 [g] h fun j h=>
 S 3 a j h fun k h=>
 .ret (T31 a i0) h
def k455_13:KF:=K6 y3 y6 y10 y12 y97 y139 fun c i x h a b d e f g=>
 I g (A 1 d h fun j h=>
 L j h fun k h=>
 Q k i0 h fun l h=>
 C c 487 [l] h fun m h=>
 S 3 b m h fun n h=>
 .ret (T31 b i0) h) (tR (bN f (.str [108,101,110]) h) fun j h=>
 I j (A 2 d h fun k h=>
 L k h fun l h=>
 tR (gi l h) fun m h=>
 C c 486 [m] h fun n h=>
 S 3 b n h fun o h=>
 .ret (T31 b i0) h) (tR (bN f (.str [99,97,116]) h) fun k h=>
 I k (A 2 d h fun l h=>
 L l h fun m h=>
 tR (gi m h) fun n h=>
 A 2 e h fun o h=>
 L o h fun p h=>
 tR (gi p h) fun q h=>
 D n q h fun s h=>
 tR (lK s (pi 40) h) fun t h=>
 I t (U [i0,i0,iS] [] h fun v h=>
 S 3 b v h fun w h=>
 .ret (T31 b (pi 3)) h) (A 2 d h fun v h=>
 L v h fun w h=>
 A 2 e h fun y h=>
 L y h fun z h=>
 tR (db w z h) fun a0 h=>
 U [i0,i0,iS] [.mk 0 1 (.c (pi 2)),.mk 2 1 (.c a0)] h fun a1 h=>
 S 3 b a1 h fun a2 h=>
 .ret (T31 b i0) h)) (.nm (T520 a b d e) h)))
def k455_12:KF:=K5 y3 y6 y10 y12 y97 fun c i x h a b d e f=>
 tR (bN f (.str [110,111,116]) h) fun g h=>
 x (T526 a b d e f g) h
def k455_11:KF:=K5 y3 y6 y10 y12 y97 fun c i x h a b d e f=>
 tR (bN f (.str [111,114]) h) fun g h=>
 x (T525 a b d e f g) h
def k455_10:KF:=K5 y3 y6 y10 y12 y97 fun c i x h a b d e f=>
 tR (bN f (.str [97,110,100]) h) fun g h=>
 x (T524 a b d e f g) h
def k455_8:KF:=K5 y3 y6 y10 y12 y97 fun c i x h a b d e f=>
 tR (bN f (.str [108,116]) h) fun g h=>
 x (T523 a b d e f g) h
def k455_7:KF:=K5 y3 y6 y10 y12 y97 fun c i x h a b d e f=>
 tR (bN f (.str [101,113]) h) fun g h=>
 x (T522 a b d e f g) h
def k455_6:KF:=K4 y3 y6 y10 y12 fun c i x h a b d e=>
 A 1 a h fun f h=>
 L f h fun g h=>
 x (T521 a b d e g) h
def k455_14:KF:=K4 y3 y6 y10 y12 fun c i x h a b d e=>
 A 1 a h fun f h=>
 L f h fun g h=>
 A 1 d h fun j h=>
 L j h fun k h=>
 A 1 e h fun l h=>
 L l h fun m h=>
 C c 488 [g,k,m] h fun n h=>
 E 0 n h fun o h=>
 E 1 n h fun p h=>
 tR (cZ p h) fun q h=>
 I q (U [i0,i0,iS] [] h fun s h=>
 S 3 b s h fun t h=>
 .ret (T31 b (pi 26)) h) (C c 486 [o] h fun s h=>
 S 3 b s h fun t h=>
 .ret (T31 b i0) h)
def k455_5:KF:=K6 y1 y2 y3 y6 y10 y12 fun c i x h a b d e f g=>
 A 3 d h fun j h=>
 L j h fun k h=>
 G k h fun l h=>
 tR (lK l i1 h) fun m h=>
 I m (A 3 d h fun n h=>
 L n h fun o h=>
 X 4 o i1 h fun p h=>
 M 4 p h fun q h=>
 C c 455 [q,a,b] h fun s h=>
 E 0 s h fun t h=>
 E 1 s h fun v h=>
 S 3 g t h fun w h=>
 tR (dH v i0 h) fun y h=>
 I y (U [i0,i0,iS] [] h fun z h=>
 S 3 e z h fun a0 h=>
 .ret (T31 e v) h) (x (T520 d e f g) h)) (x (T520 d e f g) h)
def k455_4:KF:=K5 y1 y2 y3 y6 y10 fun c i x h a b d e f=>
 O 39 3 (.k1 (Y3 i0 i0 iS)) h fun g h=>
 x (T519 a b d e f g) h
def k455_2:KF:=K4 y1 y2 y3 y6 fun c i x h a b d e=>
 A 3 d h fun f h=>
 L f h fun g h=>
 X 4 g i0 h fun j h=>
 M 4 j h fun k h=>
 C c 455 [k,a,b] h fun l h=>
 E 0 l h fun m h=>
 E 1 l h fun n h=>
 O 39 3 (.k1 (Y3 i0 i0 iS)) h fun o h=>
 S 3 o m h fun p h=>
 tR (dH n i0 h) fun q h=>
 I q (U [i0,i0,iS] [] h fun s h=>
 S 3 e s h fun t h=>
 .ret (T31 e n) h) (x (T505 a b d e o) h)
def k455_1:KF:=K4 y1 y2 y3 y6 fun c i x h a b d e=>
 A 0 d h fun f h=>
 L f h fun g h=>
 Q g i1 h fun j h=>
 I j (A 1 d h fun k h=>
 L k h fun l h=>
 C c 189 [a,l] h fun m h=>
 E 0 m h fun n h=>
 E 1 m h fun o h=>
 X 3 b n h fun p h=>
 M 3 p h fun q h=>
 S 3 e q h fun s h=>
 .ret (T31 e i0) h) (Q g (pi 2) h fun k h=>
 I k (A 2 d h fun l h=>
 L l h fun m h=>
 C c 486 [m] h fun n h=>
 S 3 e n h fun o h=>
 .ret (T31 e i0) h) (Q g (pi 3) h fun l h=>
 I l (A 1 d h fun m h=>
 L m h fun n h=>
 U [i0,i0,iS] [.mk 0 1 (.c (pi 2)),.mk 2 1 (.c n)] h fun o h=>
 S 3 e o h fun p h=>
 .ret (T31 e i0) h) (x (T458 a b d e) h)))
def k455_0:KF:=K3 y0 y1 y2 fun c i x h a b d=>
 B 336 a h fun e h=>
 O 39 3 (.k1 (Y3 i0 i0 iS)) h fun f h=>
 x (T458 b d e f) h
def x455:AC:=(.ah k455_0 (.ah k455_1 (.ah k455_2 (.seq (.ah k455_3 (.cond r56 (.bad 0) .skip)) (.ah k455_4 (.ah k455_5 (.seq (.ah k455_6 (.block 1 (.ah k455_7 (.cond r98 (.seq (.ops [o d100 (.kY 3 r10),
 o d101 (.kY 3 r12),
 oc d102 456 [r100,r101],
 o d103 (.un .not r102),
 m d104 r103,
 .g .h6 .h8 true d105 (.op (.kY 3 r12)),
 .g .h6 .h8 true d106 (.op (.kY 3 r10)),
 .g .h6 .h8 true d107 (.call 456 [r105,r106]),
 .g .h6 .h8 true d108 (.op (.un .not r107)),
 o d109 (.pick r104 r108 (.c (.bool false))),
 oc d110 487 [r109],
 o .no (.vg 3 r6 r110),
 m d7 a0]) .ret) (.ah k455_8 (.cond r111 (.ah k455_9 .skip) (.ah k455_10 (.cond r117 (.seq (.ops [of d119 1 r10,
 ol d120 r119,
 o d121 (.bin .ne r120 a0),
 m d122 r121,
 .g .h7 .ha true d123 (.op (.dh 1 r12)),
 .g .h7 .ha true d124 (.op (.cY r123)),
 .g .h7 .ha true d125 (.op (.bin .ne r124 a0)),
 o d126 (.pick r122 r125 (.c (.bool false))),
 oc d127 487 [r126],
 o .no (.vg 3 r6 r127),
 m d7 a0]) .ret) (.ah k455_11 (.cond r128 (.seq (.ops [of d130 1 r10,
 ol d131 r130,
 o d132 (.bin .ne r131 a0),
 m d133 r132,
 .g .h8 .h5 false d134 (.op (.dh 1 r12)),
 .g .h8 .h5 false d135 (.op (.cY r134)),
 .g .h8 .h5 false d136 (.op (.bin .ne r135 a0)),
 o d137 (.pick r133 (.c (.bool true)) r136),
 oc d138 487 [r137],
 o .no (.vg 3 r6 r138),
 m d7 a0]) .ret) (.ah k455_12 (.ah k455_13 .skip)))))))))))) (.ah k455_14 .skip))))))))
def f455:AF:=.mk x455 [.agg 3 .h0 .h6,.t .h0 .h7]
def k456_1:KF:=K3 y2 y3 y12 fun c i x h a b d=>
 I d (.ret (T2 (.bool false)) h) (.nm (T18 a b) h)
def k456_3:KF:=K2 y2 y3 fun c i x h a b=>
 A 2 a h fun d h=>
 L d h fun e h=>
 A 2 b h fun f h=>
 L f h fun g h=>
 tR (Ew e g h) fun j h=>
 .ret (T2 j) h
def k456_2:KF:=K2 y2 y3 fun c i x h a b=>
 A 0 a h fun d h=>
 L d h fun e h=>
 A 0 b h fun f h=>
 L f h fun g h=>
 tR (dH e g h) fun j h=>
 I j (A 0 a h fun k h=>
 L k h fun l h=>
 Q l i1 h fun m h=>
 .ret (T2 m) h) (A 0 a h fun k h=>
 L k h fun l h=>
 Q l i1 h fun m h=>
 I m (A 1 a h fun n h=>
 L n h fun o h=>
 A 1 b h fun p h=>
 L p h fun q h=>
 Y o q h fun s h=>
 .ret (T2 s) h) (x (T18 a b) h))
def k456_0:KF:=K2 y0 y1 fun c i x h a b=>
 B 39 a h fun d h=>
 B 39 b h fun e h=>
 x (T18 d e) h
def x456:AC:=(.ah k456_0 (.seq (.seq (.ops [o d5 (.kY 3 r2),
 oc d6 303 [r5],
 o d7 (.un .not r6),
 m d8 r7,
 .g .h0 .h8 false d9 (.op (.kY 3 r3)),
 .g .h0 .h8 false d10 (.call 303 [r9]),
 .g .h0 .h8 false d11 (.op (.un .not r10)),
 o d12 (.pick r8 (.c (.bool true)) r11)]) (.ah k456_1 .skip)) (.ah k456_2 (.ah k456_3 .skip))))
def f456:AF:=.mk x456 [.t .h0 .h4]
def f457:AF:=.mk b457 [.t .h0 .h2]
def k458_1:KF:=K1 y0 fun c i x h a=>
 Y a i0 h fun b h=>
 I b (tR (Bl a h) fun d h=>
 C c 201 [i0,d] h fun e h=>
 .ret (T18 e (.bool true)) h) (C c 201 [a,i0] h fun d h=>
 .ret (T18 d (.bool true)) h)
def k458_0:KF:=K1 y0 fun c i x h a=>
 tR (lK a (pi 1125899906842624) h) fun b h=>
 gD b false (fun d=>d a h) h fun d h=>
 gD b false (fun e=>Y d (ni 1125899906842623) h fun f h=>
 e f h) h fun e h=>
 tR (eJ (.c b) (.c (.bool true)) (.c e) .nil h) fun f h=>
 I f (.ret (T18 (.aM .f64 0 0) (.bool false)) h) (x (T0 a) h)
def x458:AC:=(.ah k458_0 (.ah k458_1 .skip))
def f458:AF:=.mk x458 [.t .h0 .h2,.t .h0 .h3]
def f459:AF:=.mk b459 [.t .h0 .h4]
def f466:AF:=.mk b466 [.t .h0 .h4]
def f473:AF:=.mk b473 [.t .h0 .h4]
def f474:AF:=.mk b474 [.t .h0 .h4]
def f475:AF:=.mk b475 [.agg 3 .h0 .h2]
def f476:AF:=.mk b476 [.agg 3 .h0 .h4,.t .h0 .h5]
def f477:AF:=.mk b477 [.t .h0 .h4]
def f478:AF:=.mk b478 []
def f479:AF:=.mk b479 [.t .h0 .h2]
def f481:AF:=.mk b481 [.agg 3 .h0 .h4,.t .h0 .h5]
def k483_3:KF:=K7 y0 y1 y2 y3 y8 y9 y34 fun c i x h a b d e f g j=>
 I j (.nm (T365 a b d e f g) h) (.ex 2 (T365 a b d e f g) h)
def k483_4:KF:=K6 y0 y1 y2 y3 y8 y9 fun c i x h a b d e f g=>
 Z g i1 h fun j h=>
 .nm (T365 a b d e f j) h
def k483_2:KF:=K5 y0 y1 y2 y3 y8 fun c i x h a b d e f=>
 x (T365 a b d e f f) h
def k483_5:KF:=K5 y0 y1 y2 y3 y8 fun c i x h a b d e f=>
 D f i1 h fun g h=>
 .nm (T364 a b d e g) h
def k483_1:KF:=K5 y0 y1 y2 y3 y8 fun c i x h a b d e f=>
 Y f d h fun g h=>
 I g (x (T364 a b d e f) h) (.ex 0 T15 h)
def k483_0:KF:=K4 y0 y1 y2 y3 fun c i x h a b d e=>
 D b i1 h fun f h=>
 x (T364 a b d e f) h
def x483:AC:=(.ah k483_0 (.block 0 (.loop (.ah k483_1 (.seq (.block 1 (.ah k483_2 (.block 2 (.loop (.seq (.seq (.ops [m d18 r9,
 m d19 r1,
 o d20 (.bin .gt r18 r19),
 m d21 r20,
 .g .h1 .h5 true d22 (.op (.mv r3)),
 .g .h1 .h5 true d23 (.op (.mv r0)),
 .g .h1 .h5 true d24 (.op (.mv r9)),
 .g .h1 .h5 true d25 (.op (.dn 2 r23 r24)),
 .g .h1 .h5 true d26 (.op (.kY 2 r25)),
 .g .h1 .h5 true d27 (.op (.mv r0)),
 .g .h1 .h5 true d28 (.op (.mv r9)),
 .g .h1 .h5 true d29 (.op (.bin .sub r28 a1)),
 .g .h1 .h5 true d30 (.op (.dn 2 r27 r29)),
 .g .h1 .h5 true d31 (.op (.kY 2 r30)),
 .g .h1 .h5 true d32 (.jI r22 [r26,r31]),
 .g .h1 .h5 true d33 (.op (.bin .lt r32 a0)),
 o d34 (.pick r21 r33 (.c (.bool false)))]) (.ah k483_3 .skip)) (.seq (.block 3 (.jQ [q 0 (m d37 r0),
 q 0 (m d38 r9),
 q 0 (m d42 r0),
 q 0 (m d43 r9),
 q 0 (o d44 (.bin .sub r43 a1)),
 q 0 (o d45 (.dn 2 r42 r44)),
 q 0 (o d46 (.kY 2 r45)),
 q 0 (m d47 r0),
 q 0 (m d48 r9),
 q 0 (o d49 (.dn 2 r47 r48)),
 q 0 (o d50 (.kY 2 r49)),
 q 0 (o d51 (.dn 2 r37 r38)),
 w (o .no (.vg 2 r51 r46)),
 q 1 (m d39 r0),
 q 1 (m d40 r9),
 q 1 (o d41 (.bin .sub r40 a1)),
 q 0 (o d52 (.dn 2 r39 r41)),
 w (o .no (.vg 2 r52 r50))])) (.ah k483_4 .skip))))))) (.ah k483_5 .skip))))))
def f483:AF:=.mk x483 []
def f486:AF:=.mk b486 [.agg 3 .h0 .h2]
def f487:AF:=.mk b487 [.agg 3 .h0 .h2]
def f488:AF:=.mk b488 [.t .h0 .h6,.t .h0 .h7]
def f489:AF:=.mk b489 [.t .h0 .h4]
def f502:AF:=.mk b502 [.agg 3 .h0 .h2,.t .h0 .h3]
def f503:AF:=.mk b503 [.t .h0 .h6,.t .h0 .h7]
def k504_1:KF:=K1 y1 fun c i x h a=>
 x T15 h
def k504_2:KF:=K1 y2 fun c i x h a=>
 L a h fun b h=>
 .ret (T2 b) h
def k504_0:KF:=K2 y0 y1 fun c i x h a b=>
 B 83 a h fun d h=>
 x (T162 b) h
def p504_0:List GI:=[o d2 (.box 83 r0),m d4 (.c .aj)]
def p504_1:List GI:=[m d6 r1]
def p504_2:List GI:=[ol d4 r1,o d5 (.CP r4)]
def p504_3:List GI:=[.o d6 (.xO false r5),oe d7 0 r6]
def p504_4:List GI:=[o d8 (.RX r5),oe d9 0 r8,m d3 r9]
def p504_5:List GI:=[m d11 r3]
def p504_6:List GI:=[m d5 r7]
def p504_7:List GI:=[ol d8 r2,m d9 r5,o d10 (.bD 9 1 1 [iS] [.mk 0 1 r9]),o d11 (.app 9 1 r8 r10),os r2 r11]
def p504_8:List GI:=[ol d12 r2,m d4 r12]
def p504:PK:=(.agT 480 p504_0 p504_1 p504_2 p504_3 p504_4 p504_5 p504_6 p504_7 p504_8)
def x504:AC:=(.ah k504_0 (.seq (.ah k504_1 (.block 0 (.bad 402))) (.ah k504_2 .skip)))
def f504:AF:=.mW p504 x504 [.t .h0 .h4]
def f505:AF:=.mk b505 [.agg 2 .h0 .h6]
def f506:AF:=.mk b506 [.t .h0 .h2,.t .h0 .h3]
def f508:AF:=.mk b508 [.t .h0 .h3]
def f515:AF:=.mk b515 [.t .h0 .h2]
def f516:AF:=.mk b516 [.t .h0 .h2]
def k3_0:KF:=fun c i x r h=>
 .nm T15 h
def k3_1:KF:=fun c i x r h=>
 C c 4 [] h fun a h=>
 .nm (T162 a) h
def k3_2:KF:=K1 y1 fun c i x h a=>
 C c 5 [] h fun b h=>
 .nm (T104 a b) h
def k3_3:KF:=K2 y1 y2 fun c i x h a b=>
 tR (bK .jM a .dP h) fun d h=>
 I d (.ret (T0 (.bool false)) h) (.nm (T104 a b) h)
def k3_4:KF:=K2 y1 y2 fun c i x h a b=>
 C c 6 [] h fun d h=>
 .nm (T28 a b d) h
def k3_5:KF:=K3 y1 y2 y3 fun c i x h a b d=>
 .nm (T399 a b d i0) h
def k3_8:KF:=K4 y1 y2 y3 y4 fun c i x h a b d e=>
 D e i1 h fun f h=>
 .nm (T399 a b d f) h
def k3_7:KF:=K4 y1 y2 y3 y4 fun c i x h a b d e=>
 tR (Ey e (pi 3) h) fun f h=>
 C c 9 [f] h fun g h=>
 C c 9 [e] h fun j h=>
 C c 10 [(.str [120])] h fun k h=>
 tR (bs 39 3 3 [i0,i0,iS,i0,i0,iS,i0,i0,iS] [.mk 0 3 (.c g),.mk 3 3 (.c j),.mk 6 3 (.c k)] h) fun l h=>
 C c 8 [(.str [116]),l] h fun m h=>
 tR (bs 2 1 2 [i0,i0] [.mk 0 1 (.c f),.mk 1 1 (.c e)] h) fun n h=>
 C c 11 [n] h fun o h=>
 C c 8 [(.str [117]),o] h fun p h=>
 tR (bs 36 3 2 [iS,.aj,(.bool false),iS,.aj,(.bool false)] [.mk 0 3 (.c m),.mk 3 3 (.c p)] h) fun q h=>
 C c 7 [q] h fun s h=>
 tR (bs 31 7 1 [i0,i0,i0,iS,iS,.aj,.aj] [.mk 0 7 (.c s)] h) fun t h=>
 tR (eI 31 7 d t h) fun v h=>
 x (T399 a b v e) h
def k3_6:KF:=K4 y1 y2 y3 y4 fun c i x h a b d e=>
 Y e (pi 6) h fun f h=>
 I f (x (T399 a b d e) h) (.ex 0 (T28 a b d) h)
def k3_9:KF:=K3 y1 y2 y3 fun c i x h a b d=>
 tR (bs 2 1 2 [i0,i0] [.mk 0 1 (.c i0),.mk 1 1 (.c i0)] h) fun e h=>
 C c 11 [e] h fun f h=>
 C c 12 [(.str [117]),f] h fun g h=>
 tR (bs 2 1 2 [i0,i0] [.mk 0 1 (.c (pi 9)),.mk 1 1 (.c (pi 9))] h) fun j h=>
 C c 11 [j] h fun k h=>
 C c 12 [(.str [117]),k] h fun l h=>
 tR (bs 36 3 2 [iS,.aj,(.bool false),iS,.aj,(.bool false)] [.mk 0 3 (.c g),.mk 3 3 (.c l)] h) fun m h=>
 C c 7 [m] h fun n h=>
 C c 9 [(pi 4611686018427387904)] h fun o h=>
 C c 9 [(pi 4)] h fun p h=>
 C c 10 [iS] h fun q h=>
 tR (bs 39 3 3 [i0,i0,iS,i0,i0,iS,i0,i0,iS] [.mk 0 3 (.c o),.mk 3 3 (.c p),.mk 6 3 (.c q)] h) fun s h=>
 C c 8 [(.str [116]),s] h fun t h=>
 tR (bs 36 3 1 [iS,.aj,(.bool false)] [.mk 0 3 (.c t)] h) fun v h=>
 C c 7 [v] h fun w h=>
 tR (bs 2 1 2 [i0,i0] [.mk 0 1 (.c i0),.mk 1 1 (.c i0)] h) fun y h=>
 C c 11 [y] h fun z h=>
 C c 12 [(.str [117]),z] h fun a0 h=>
 tR (bs 36 3 1 [iS,.aj,(.bool false)] [.mk 0 3 (.c a0)] h) fun a1 h=>
 C c 7 [a1] h fun a2 h=>
 U [i0,i0,i0,iS,iS,.aj,.aj] [.mk 2 1 (.c (pi 4)),.mk 3 1 (.c (.str [118,98]))] h fun a3 h=>
 C c 13 [(.str [118,98]),(.str [40,116,97,98,108,101,32,117,41])] h fun a4 h=>
 U [i0,i0,i0,iS,iS,.aj,.aj] [.mk 2 1 (.c (pi 2)),.mk 3 1 (.c (.str [117]))] h fun a5 h=>
 tR (bs 31 7 6 [i0,i0,i0,iS,iS,.aj,.aj,i0,i0,i0,iS,iS,.aj,.aj,i0,i0,i0,iS,iS,.aj,.aj,i0,i0,i0,iS,iS,.aj,.aj,i0,i0,i0,iS,iS,.aj,.aj,i0,i0,i0,iS,iS,.aj,.aj] [.mk 0 7 (.c n),.mk 7 7 (.c w),.mk 14 7 (.c a2),.mk 21 7 (.c a3),.mk 28 7 (.c a4),.mk 35 7 (.c a5)] h) fun a6 h=>
 tR (eI 31 7 d a6 h) fun a7 h=>
 .nm (T28 a b a7) h
def k3_10:KF:=K3 y1 y2 y3 fun c i x h a b d=>
 .nm (T458 a b d i0) h
def k3_13:KF:=K5 y1 y2 y3 y6 y93 fun c i x h a b d e f=>
 I f (.ret (T0 (.bool false)) h) (.nm (T458 a b d e) h)
def k3_12:KF:=K4 y1 y2 y3 y6 fun c i x h a b d e=>
 X 7 d e h fun f h=>
 M 7 f h fun g h=>
 D e i1 h fun j h=>
 C c 14 [g,i1,j] h fun k h=>
 O 31 7 (.k1 (Y7 i0 i0 i0 iS iS .aj .aj)) h fun l h=>
 S 7 l k h fun m h=>
 x (T550 a b d e l) h
def k3_14:KF:=K4 y1 y2 y3 y6 fun c i x h a b d e=>
 D e i1 h fun f h=>
 .nm (T458 a b d f) h
def k3_11:KF:=K4 y1 y2 y3 y6 fun c i x h a b d e=>
 G d h fun f h=>
 Y e f h fun g h=>
 I g (x (T458 a b d e) h) (.ex 2 T15 h)
def k3_15:KF:=fun c i x r h=>
 tR (bs 5 1 2 [(.int .u8 (.ofNat 0)),(.int .u8 (.ofNat 0))] [.mk 0 1 (.c (.int .u8 (.ofNat 110))),.mk 1 1 (.c (.int .u8 (.ofNat 111)))] h) fun a h=>
 tR (cK (.s2r 5) a h) fun b h=>
 C c 18 [b] h fun d h=>
 E 0 d h fun e h=>
 E 1 d h fun f h=>
 C c 19 [.aj] h fun g h=>
 E 0 g h fun j h=>
 E 1 g h fun k h=>
 O 31 7 (.k1 (Y7 i0 i0 i0 iS iS .aj .aj)) h fun l h=>
 S 7 l j h fun m h=>
 C c 4 [] h fun n h=>
 C c 20 [n] h fun o h=>
 C c 18 [o] h fun p h=>
 E 0 p h fun q h=>
 E 1 p h fun s h=>
 x (T551 f k q s) h
def xq0:AC:=(.ah k3_0 .skip)
def xq1:AC:=(.ah k3_1 .skip)
def xq2:AC:=(.ah k3_2 .skip)
def xq3:AC:=(.ah k3_3 .skip)
def xq4:AC:=(.ah k3_4 .skip)
def xq5:AC:=(.ah k3_5 .skip)
def xq6:AC:=(.ah k3_6 (.ah k3_7 (.ah k3_8 .skip)))
def xq8:AC:=(.ah k3_9 .skip)
def xq9:AC:=(.ah k3_10 .skip)
def lL:AC:=(.ah k3_11 (.seq (.block 3 (.ah k3_12 (.seq (.jQ [q 0 (m d81 r1),
 q 0 (o d82 (.kY 7 r7)),
 w (oc d83 15 [r81,r82]),
 q 1 (m d84 r2),
 q 1 (o d85 (.kY 7 r7)),
 w (oc d86 16 [r84,r85]),
 q 0 (o d87 (.bin (.ane [.i,.i,.s]) r83 r86)),
 q 0 (m d88 r87),
 q 0 (.g .h5 .h8 false d89 (.op (.mv r1))),
 q 0 (.g .h5 .h8 false d90 (.op (.mv r2))),
 w (.g .h5 .h8 false d91 (.call 17 [r89,r90])),
 q 0 (.g .h5 .h8 false d92 (.op (.un .not r91))),
 q 0 (o d93 (.pick r88 (.c (.bool true)) r92))]) (.ah k3_13 .skip)))) (.ah k3_14 .skip)))
def amK:AC:=(.ah k3_15 (.seq (.ops [m d110 r9,
 o d111 (.bin .eq r110 (.c (pi 12))),
 m d112 r111,
 .g .h7 .h0 true d113 (.op (.mv r11)),
 .g .h7 .h0 true d114 (.op (.bin .eq r113 (.c (pi 12)))),
 o d115 (.pick r112 r114 (.c (.bool false))),
 m d116 r115,
 .g .h7 .h4 true d117 (.op (.mv r12)),
 .g .h7 .h4 true d118 (.op (.bin .pne r117 (.c .dP))),
 o d119 (.pick r116 r118 (.c (.bool false))),
 m d120 r119,
 .g .h7 .h8 true d121 (.op (.mv r13)),
 .g .h7 .h8 true d122 (.op (.bin .eq r121 a0)),
 o d123 (.pick r120 r122 (.c (.bool false))),
 m d124 r123,
 .g .h7 .hc true d125 (.call 21 []),
 o d126 (.pick r124 r125 (.c (.bool false))),
 m d0 r126]) .ret))
def agU:F1:=(.mk .none .none .none .none f4 f5 f6 f7 f8 f9 f10 f11 f12 f13 f14 f15)
def agV:F1:=(.mk f16 f17 f18 f19 f20 f21 f22 f23 f24 f25 f26 f27 f28 f29 f30 f31)
def agW:F1:=(.mk f32 f33 f34 f35 f36 f37 f38 f39 f40 f41 f42 f43 f44 f45 f46 f47)
def agX:F1:=(.mk f48 f49 f50 f51 f52 f53 f54 f55 .none .none .none f59 f60 f61 f62 .none)
def agY:F1:=(.mk f64 f65 f66 f67 f68 .none .none f71 f72 f73 f74 f75 f76 f77 f78 f79)
def agZ:F1:=(.mk f80 f81 f82 f83 f84 f85 f86 f87 f88 f89 .none .none f92 f93 f94 f95)
def aha:F1:=(.mk f96 f97 f98 f99 f100 .none .none .none f104 .none f106 f107 .none f109 f110 f111)
def ahb:F1:=(.mk f112 f113 f114 f115 f116 f117 f118 .none f120 f121 f122 f123 f124 f125 f126 f127)
def amL:F1:=(.mk f128 f129 f130 f131 f132 f133 f134 f135 f136 f137 f138 f139 f140 f141 f142 f143)
def amM:F1:=(.mk .none .none f146 f147 f148 f149 f150 f151 f152 f153 f154 f155 f156 f157 .none f159)
def RY:F1:=(.mk f160 f161 f162 f163 .none f165 f166 f167 f168 f169 f170 .none .none f173 f174 f175)
def Ez:F1:=(.mk f176 f177 f178 f179 f180 f181 f182 f183 f184 f185 f186 f187 f188 f189 f190 f191)
def RZ:F1:=(.mk f192 f193 f194 f195 f196 f197 f198 f199 f200 f201 f202 f203 f204 f205 f206 f207)
def Sa:F1:=(.mk f208 f209 f210 .none .none f213 f214 f215 f216 f217 f218 f219 f220 f221 f222 f223)
def EA:F1:=(.mk f224 f225 f226 f227 f228 f229 f230 f231 .none .none .none f235 f236 f237 f238 f239)
def EC:F1:=(.mk f240 f241 f242 f243 f244 f245 f246 f247 f248 f249 f250 f251 f252 f253 f254 f255)
def Sb:F1:=(.mk f256 f257 f258 f259 .none .none .none .none .none .none .none .none f268 .none f270 f271)
def Sc:F1:=(.mk f272 f273 f274 f275 f276 f277 f278 .none f280 f281 f282 f283 f284 f285 f286 f287)
def Se:F1:=(.mk f288 f289 f290 f291 f292 f293 f294 f295 f296 f297 f298 f299 f300 f301 f302 f303)
def Sf:F1:=(.mk f304 f305 f306 f307 f308 f309 f310 f311 f312 f313 f314 f315 f316 f317 f318 f319)
def Sh:F1:=(.mk .none .none .none .none .none .none .none .none .none f329 f330 f331 f332 f333 f334 .none)
def ED:F1:=(.mk f336 .none .none f339 f340 f341 f342 f343 f344 f345 f346 f347 .none f349 f350 f351)
def EE:F1:=(.mk f352 f353 f354 f355 f356 f357 f358 f359 f360 f361 f362 f363 f364 .none .none .none)
def EF:F1:=(.mk .none .none .none f371 f372 .none .none .none .none .none f378 .none .none f381 f382 f383)
def Si:F1:=(.mk f384 f385 .none .none f388 f389 .none .none f392 f393 f394 f395 f396 f397 f398 f399)
def Sj:F1:=(.mk f400 f401 f402 f403 f404 f405 f406 f407 f408 f409 .none .none .none f413 f414 f415)
def Sk:F1:=(.mk f416 f417 .none .none f420 f421 f422 f423 f424 f425 .none .none .none .none f430 f431)
def Sl:F1:=(.mk f432 f433 f434 f435 f436 f437 f438 f439 f440 f441 f442 f443 f444 f445 f446 f447)
def Sm:F1:=(.mk .none .none .none .none f452 .none .none f455 f456 f457 f458 f459 .none f461 .none .none)
def EG:F1:=(.mk .none .none f466 f467 f468 .none .none .none .none f473 f474 f475 f476 f477 f478 f479)
def EH:F1:=(.mk .none f481 .none f483 .none .none f486 f487 f488 f489 .none .none .none .none .none .none)
def EI:F1:=(.mk .none .none .none .none .none .none f502 f503 f504 f505 f506 .none f508 .none .none .none)
def Sn:F1:=(.mk .none .none .none f515 f516 .none f518 .none .none .none .none .none .none .none .none .none)
def So:F2:=.mk agU agV agW agX agY agZ aha ahb amL amM RY Ez RZ Sa EA EC
def Sp:F2:=.mk Sb Sc Se Sf Sh ED EE EF Si Sj Sk Sl Sm EG EH EI
def EJ:F2:=.mk Sn .nil .nil .nil .nil .nil .nil .nil .nil .nil .nil .nil .nil .nil .nil .nil
def lZ:Pg:=.mk (.mk So Sp EJ .nil .nil .nil .nil .nil .nil .nil .nil .nil .nil .nil .nil .nil) []
end
end Go.Am.Seat
