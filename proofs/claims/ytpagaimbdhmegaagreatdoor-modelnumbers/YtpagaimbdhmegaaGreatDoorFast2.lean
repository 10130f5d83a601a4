/- The program's code in a form that runs fast, written by program. Nothing is asked. -/
import Derived.Test.YtpagaimbdhmegaaGreatDoorFast1
set_option linter.all false
namespace Go.Am.Seat
set_option maxRecDepth 20000
noncomputable section
def x340:AC:=b340
def f340:AF:=.mk x340 [.t .h0 .h4,.t .h0 .h5]
def x341:AC:=b341
def f341:AF:=.mk x341 [.t .h0 .h4]
def x342:AC:=b342
def f342:AF:=.mk x342 [.t .h0 .h4]
def x343:AC:=b343
def f343:AF:=.mk x343 [.agg 3 .h0 .h8,.t .h0 .h9]
def k344_1:KF:=K3 y5 y6 y27 fun c i x h a b d=>
 I d (.ret (T4 i0 i0 (.bool false)) h) (.nm (T245 a b) h)
def k344_3:KF:=K3 y7 y8 y41 fun c i x h a b d=>
 I d (.ret (T4 i0 i0 (.bool false)) h) (.nm (T403 a b) h)
def k344_4:KF:=K2 y7 y8 fun c i x h a b=>
 .ret (T4 a b (.bool true)) h
def k344_2:KF:=K2 y5 y6 fun c i x h a b=>
 tR (cK (.Um .i64) a h) fun d h=>
 tR (cK (.Um .i64) b h) fun e h=>
 x (T439 a b d e) h
def k344_0:KF:=K1 y0 fun c i x h a=>
 tR (fT false (.c a) .nil h) fun b h=>
 tR (fT true (.c a) .nil h) fun d h=>
 x (T245 b d) h
def x344:AC:=(.ag k344_0 (.seq (.seq (.ops [m d13 r5,
 o d14 (.bin (.DP .geq) r13 (.c (.ji .f64 0))),
 m d15 r14,
 .g .h0 .hf true d16 (.op (.mv r5)),
 .g .h0 .hf true d17 (.op (.bin (.DP .leq) r16 (.c (.ji .f64 4832362400168542208)))),
 o d18 (.pick r15 r17 (.c (.bool false))),
 m d19 r18,
 .g .h1 .h3 true d20 (.op (.mv r6)),
 .g .h1 .h3 true d21 (.op (.bin (.DP .geq) r20 (.c (.ji .f64 0)))),
 o d22 (.pick r19 r21 (.c (.bool false))),
 m d23 r22,
 .g .h1 .h7 true d24 (.op (.mv r6)),
 .g .h1 .h7 true d25 (.op (.bin (.DP .leq) r24 (.c (.ji .f64 4832362400168542208)))),
 o d26 (.pick r23 r25 (.c (.bool false))),
 o d27 (.un .not r26)]) (.ag k344_1 .skip)) (.ag k344_2 (.seq (.seq (.ops [m d32 r7,
 o d33 (.conv (.Om .f64) r32),
 m d34 r5,
 o d35 (.bin (.DP .neq) r33 r34),
 m d36 r35,
 .g .h2 .h4 false d37 (.op (.mv r8)),
 .g .h2 .h4 false d38 (.op (.conv (.Om .f64) r37)),
 .g .h2 .h4 false d39 (.op (.mv r6)),
 .g .h2 .h4 false d40 (.op (.bin (.DP .neq) r38 r39)),
 o d41 (.pick r36 (.c (.bool true)) r40)]) (.ag k344_3 .skip)) (.ag k344_4 .skip)))))
def f344:AF:=.mk x344 [.t .h0 .h2,.t .h0 .h3,.t .h0 .h4]
def k345_2:KF:=K2 y0 y3 fun c i x h a b=>
 G a h fun d h=>
 Y b d h fun e h=>
 I e (X 3 a b h fun f h=>
 M 3 f h fun g h=>
 C c 255 [g] h fun j h=>
 tR (bG j h) fun k h=>
 I k (.ret (T3 (.bool false)) h) (D b i1 h fun l h=>
 .nm (T24 a l) h)) (.ex 0 (T24 a b) h)
def k345_1:KF:=K1 y0 fun c i x h a=>
 x (T24 a i0) h
def k345_0:KF:=K1 y0 fun c i x h a=>
 x (T0 a) h
def x345:AC:=(.ag k345_0 (.seq (.ag k345_1 (.block 0 (.loop (.ag k345_2 .skip)))) (.seq (.ops [m d16 r0,
 o d17 (.len r16),
 o d18 (.bin .ge r17 a1),
 m d19 r18,
 .g .h1 .h3 true d20 (.op (.mv r0)),
 .g .h1 .h3 true d21 (.op (.len r20)),
 .g .h1 .h3 true d22 (.op (.bin .le r21 (.c (pi 6)))),
 o d23 (.pick r19 r22 (.c (.bool false))),
 m d2 r23]) .ret)))
def f345:AF:=.mk x345 [.t .h0 .h2]
def x346:AC:=b346
def f346:AF:=.mk x346 [.t .h0 .h4]
def x347:AC:=b347
def f347:AF:=.mk x347 [.t .h0 .h4,.t .h0 .h5]
def k348_0:KF:=K1 y0 fun c i x h a=>
 C c 257 [a] h fun b h=>
 C c 398 [b] h fun d h=>
 E 0 d h fun e h=>
 E 1 d h fun f h=>
 .ret (T3 e) h
def x348:AC:=(.ag k348_0 .skip)
def f348:AF:=.mk x348 [.t .h0 .h2]
def k349_6:KF:=K6 y1 y2 y8 y37 y38 y39 fun c i x h a b d e f g=>
 D g i1 h fun j h=>
 .nm (T440 a b d e f j) h
def k349_5:KF:=K6 y1 y2 y8 y37 y38 y39 fun c i x h a b d e f g=>
 X 4 e g h fun j h=>
 M 4 j h fun k h=>
 O 299 4 (.k1 (Y4 i0 iS i0 .ah)) h fun l h=>
 S 4 l k h fun m h=>
 M 4 l h fun n h=>
 C c 349 [n,a] h fun o h=>
 E 0 o h fun p h=>
 E 1 o h fun q h=>
 tR (bU q i0 h) fun s h=>
 I s (.ret (T49 i0 q) h) (tR (bs 3 1 1 [i0] [.mk 0 1 (.c p)] h) fun t h=>
 tR (cW 3 1 d t h) fun v h=>
 x (T440 a b v e f g) h)
def k349_4:KF:=K6 y1 y2 y8 y37 y38 y39 fun c i x h a b d e f g=>
 Y g f h fun j h=>
 I j (x (T440 a b d e f g) h) (.ex 1 (T418 b d) h)
def k349_3:KF:=K3 y1 y2 y8 fun c i x h a b d=>
 A 3 b h fun e h=>
 L e h fun f h=>
 G f h fun g h=>
 x (T440 a b d f g i0) h
def k349_7:KF:=K2 y2 y8 fun c i x h a b=>
 A 1 a h fun d h=>
 L d h fun e h=>
 C c 399 [e,b] h fun f h=>
 tR (fH f i0 h) fun g h=>
 I g (.ret (T49 f i0) h) (.ret (T49 i0 (pi 22)) h)
def k349_2:KF:=K2 y1 y2 fun c i x h a b=>
 x (T416 a b .ah) h
def k349_1:KF:=K2 y1 y2 fun c i x h a b=>
 A 0 b h fun d h=>
 L d h fun e h=>
 Q e i1 h fun f h=>
 I f (A 1 b h fun g h=>
 L g h fun j h=>
 C c 120 [a,j] h fun k h=>
 E 0 k h fun l h=>
 E 1 k h fun m h=>
 tR (bG m h) fun n h=>
 I n (.ret (T49 i0 (pi 20)) h) (X 2 a l h fun o h=>
 A 1 o h fun p h=>
 L p h fun q h=>
 .ret (T49 q i0) h)) (Q e (pi 2) h fun g h=>
 I g (.ret (T49 i1 i0) h) (Q e (pi 3) h fun j h=>
 I j (.ret (T49 (pi 2) i0) h) (x (T21 a b) h)))
def k349_0:KF:=K2 y0 y1 fun c i x h a b=>
 B 299 a h fun d h=>
 x (T21 b d) h
def x349:AC:=(.ag k349_0 (.ag k349_1 (.ag k349_2 (.seq (.ag k349_3 (.block 1 (.loop (.ag k349_4 (.ag k349_5 (.ag k349_6 .skip)))))) (.ag k349_7 .skip)))))
def f349:AF:=.mk x349 [.t .h0 .h4,.t .h0 .h5]
def k350_0:KF:=K2 y0 y1 fun c i x h a b=>
 C c 120 [a,b] h fun d h=>
 E 0 d h fun e h=>
 E 1 d h fun f h=>
 .ret (T9 f) h
def x350:AC:=(.ag k350_0 .skip)
def f350:AF:=.mk x350 [.t .h0 .h4]
def k351_1:KF:=K3 y0 y3 y11 fun c i x h a b d=>
 I d (U [i0,iS] [.mk 0 1 (.c (pi 23))] h fun e h=>
 S 2 b e h fun f h=>
 .ret (T2 .ah b) h) (.nm (T24 a b) h)
def k351_2:KF:=K2 y0 y3 fun c i x h a b=>
 U [i0,iS] [] h fun d h=>
 S 2 b d h fun e h=>
 .ret (T2 a b) h
def k351_0:KF:=K1 y0 fun c i x h a=>
 O 263 2 (.k1 (Y2 i0 iS)) h fun b h=>
 x (T24 a b) h
def x351:AC:=(.ag k351_0 (.seq (.seq (.ops [m d4 r0,
 o d5 (.len r4),
 o d6 (.bin .eq r5 a0),
 m d7 r6,
 .g .h0 .h7 false d8 (.op (.mv r0)),
 .g .h0 .h7 false d9 (.op (.len r8)),
 .g .h0 .h7 false d10 (.op (.bin .gt r9 (.c (pi 6)))),
 o d11 (.pick r7 (.c (.bool true)) r10)]) (.ag k351_1 .skip)) (.ag k351_2 .skip)))
def f351:AF:=.mk x351 [.t .h0 .h2,.agg 2 .h0 .h3]
def x352:AC:=b352
def f352:AF:=.mk x352 [.agg 2 .h0 .h8]
def x353:AC:=b353
def f353:AF:=.mk x353 [.agg 3 .h0 .h6,.t .h0 .h7]
def x354:AC:=b354
def f354:AF:=.mk x354 [.agg 2 .h0 .h4]
def x355:AC:=b355
def f355:AF:=.mk x355 [.t .h0 .h4]
def x356:AC:=b356
def f356:AF:=.mk x356 [.t .h0 .h4]
def k357_2:KF:=K5 y0 y5 y9 y10 y11 fun c i x h a b d e f=>
 Y f e h fun g h=>
 I g (X 1 d f h fun j h=>
 L j h fun k h=>
 X 3 a k h fun l h=>
 M 3 l h fun m h=>
 tR (bs 100 3 1 [i0,i0,iS] [.mk 0 3 (.c m)] h) fun n h=>
 tR (cW 100 3 b n h) fun o h=>
 D f i1 h fun p h=>
 .nm (T444 a o d e p) h) (.ex 0 (T444 a b d e f) h)
def k357_1:KF:=K3 y0 y1 y5 fun c i x h a b d=>
 G b h fun e h=>
 x (T444 a d b e i0) h
def k357_3:KF:=K1 y5 fun c i x h a=>
 .ret (T9 a) h
def k357_0:KF:=K2 y0 y1 fun c i x h a b=>
 tR (bs 100 3 0 [] [] h) fun d h=>
 x (T46 a b d) h
def x357:AC:=(.ag k357_0 (.seq (.ag k357_1 (.block 0 (.loop (.ag k357_2 .skip)))) (.ag k357_3 .skip)))
def f357:AF:=.mk x357 [.t .h0 .h4]
def x358:AC:=b358
def f358:AF:=.mk x358 [.t .h0 .h4,.t .h0 .h5]
def x359:AC:=b359
def f359:AF:=.mk x359 [.t .h0 .h6]
def x360:AC:=b360
def f360:AF:=.mk x360 [.t .h0 .h4]
def x361:AC:=b361
def f361:AF:=.mk x361 [.t .h0 .h2]
def x362:AC:=b362
def f362:AF:=.mk x362 [.t .h0 .h5]
def x364:AC:=b364
def f364:AF:=.mk x364 []
def x365:AC:=b365
def f365:AF:=.mk x365 [.t .h0 .h5]
def x366:AC:=b366
def f366:AF:=.mk x366 [.t .h0 .h6,.t .h0 .h7]
def k373_1:KF:=K1 y8 fun c i x h a=>
 .ret (T27 a .kQ) h
def k373_0:KF:=K3 y0 y1 y2 fun c i x h a b d=>
 C c 409 [a,b,d] h fun e h=>
 E 0 e h fun f h=>
 E 1 e h fun g h=>
 tR (bK (.jP .i) g .kQ h) fun j h=>
 I j (C c 410 [(.str [80,97,114,115,101,73,110,116]),a,b,d,g] h fun k h=>
 .ret (T27 f k) h) (x (T31 f) h)
def x373:AC:=(.ag k373_0 (.ag k373_1 .skip))
def f373:AF:=.mk x373 [.t .h0 .h6,.t .h0 .h7]
def k375_0:KF:=K2 y0 y1 fun c i x h a b=>
 C c 412 [a,b] h fun d h=>
 tR (fm d i0 h) fun e h=>
 .ret (T9 e) h
def x375:AC:=(.ag k375_0 .skip)
def f375:AF:=.mk x375 [.t .h0 .h4]
def k376_0:KF:=K2 y0 y1 fun c i x h a b=>
 B 219 a h fun d h=>
 L b h fun e h=>
 M 5 d h fun f h=>
 tT (cd c e [f] h) fun g h=>
 tR (bG g h) fun j h=>
 .ret (T47 j) h
def x376:AC:=(.ag k376_0 .skip)
def f376:AF:=.mk x376 [.t .h0 .h3]
def k377_0:KF:=K1 y0 fun c i x h a=>
 B 219 a h fun b h=>
 A 0 b h fun d h=>
 L d h fun e h=>
 tR (bU e (pi 2) h) fun f h=>
 .ret (T3 f) h
def x377:AC:=(.ag k377_0 .skip)
def f377:AF:=.mk x377 [.t .h0 .h2]
def k378_5:KF:=K5 y2 y5 y54 y55 y56 fun c i x h a b d e f=>
 D f i1 h fun g h=>
 .nm (T448 a b d e g) h
def k378_4:KF:=K5 y2 y5 y54 y55 y56 fun c i x h a b d e f=>
 X 5 d f h fun g h=>
 M 5 g h fun j h=>
 O 219 5 (.k1 (Y5 i0 iS i0 .ah i0)) h fun k h=>
 S 5 k j h fun l h=>
 M 5 k h fun m h=>
 C c 309 [m] h fun n h=>
 E 0 n h fun o h=>
 E 1 n h fun p h=>
 E 2 n h fun q h=>
 O 299 4 (.k1 (Y4 i0 iS i0 .ah)) h fun s h=>
 S 4 s o h fun t h=>
 tR (bU p i0 h) fun v h=>
 I v (U [i0,iS,i0,.ah] [] h fun w h=>
 S 4 a w h fun y h=>
 .ret (T4 a p q) h) (A 3 b h fun w h=>
 L w h fun y h=>
 M 4 s h fun z h=>
 tR (bs 299 4 1 [i0,iS,i0,.ah] [.mk 0 4 (.c z)] h) fun a0 h=>
 tR (cW 299 4 y a0 h) fun a1 h=>
 A 3 b h fun a2 h=>
 W a2 a1 h fun a3 h=>
 x (T448 a b d e f) h)
def k378_3:KF:=K5 y2 y5 y54 y55 y56 fun c i x h a b d e f=>
 Y f e h fun g h=>
 I g (x (T448 a b d e f) h) (.ex 0 (T89 a b) h)
def k378_2:KF:=K3 y1 y2 y5 fun c i x h a b d=>
 A 3 a h fun e h=>
 L e h fun f h=>
 tR (cq 5 (.c f) (.some (.c i1)) .none .none .nil h) fun g h=>
 G g h fun j h=>
 x (T448 b d g j i0) h
def k378_6:KF:=K2 y2 y5 fun c i x h a b=>
 M 4 b h fun d h=>
 S 4 a d h fun e h=>
 .ret (T4 a i0 i0) h
def k378_1:KF:=K2 y1 y2 fun c i x h a b=>
 A 3 a h fun d h=>
 L d h fun e h=>
 X 5 e i0 h fun f h=>
 A 1 f h fun g h=>
 L g h fun j h=>
 U [i0,iS,i0,.ah] [.mk 0 1 (.c (pi 4)),.mk 1 1 (.c j)] h fun k h=>
 O 299 4 (.k1 (Y4 i0 iS i0 .ah)) h fun l h=>
 S 4 l k h fun m h=>
 x (T323 a b l) h
def k378_0:KF:=K1 y0 fun c i x h a=>
 B 219 a h fun b h=>
 O 299 4 (.k1 (Y4 i0 iS i0 .ah)) h fun d h=>
 x (T21 b d) h
def x378:AC:=(.ag k378_0 (.seq (.seq (.ops [of d11 3 r1,
 ol d12 r11,
 o d13 (.len r12),
 o d14 (.bin .eq r13 a0),
 m d15 r14,
 .g .h0 .hf false d16 (.op (.br 3 r1)),
 .g .h0 .hf false d17 (.op (.bq r16)),
 .g .h0 .hf false d18 (.op (.bF 5 r17 a0)),
 .g .h0 .hf false d19 (.op (.br 0 r18)),
 .g .h0 .hf false d20 (.op (.bq r19)),
 .g .h0 .hf false d21 (.op (.bin .ne r20 a2)),
 o d22 (.pick r15 (.c (.bool true)) r21),
 m d23 r22,
 .g .h1 .h7 false d24 (.op (.br 3 r1)),
 .g .h1 .h7 false d25 (.op (.bq r24)),
 .g .h1 .h7 false d26 (.op (.bF 5 r25 a0)),
 .g .h1 .h7 false d27 (.op (.br 1 r26)),
 .g .h1 .h7 false d28 (.op (.bq r27)),
 .g .h1 .h7 false d29 (.call 385 [r28]),
 .g .h1 .h7 false d30 (.op (.bin .eq r29 a0)),
 o d31 (.pick r23 (.c (.bool true)) r30)]) (.cond r31 (.seq (.da [q 0 (o d32 (.build [i0,iS,i0,.ah] [])),
 w (o .no (.gS 4 r2 r32)),
 qf 1 d33 4 r1,
 ql 1 d34 r33,
 q 0 (m d3 (.c (pi 12))),
 q 0 (m d4 r34)]) .ret) .skip)) (.ag k378_1 (.seq (.seq (.da [qf 0 d45 1 r5,
 ql 0 d46 r45,
 w (oc d47 385 [r46]),
 qf 1 d41 3 r1,
 ql 1 d42 r41,
 q 1 (o d43 (.len r42)),
 q 1 (o d44 (.bin .sub r43 a1)),
 q 0 (o d48 (.bin .ne r44 r47))]) (.cond r48 (.seq (.da [q 0 (o d49 (.build [i0,iS,i0,.ah] [])),
 w (o .no (.gS 4 r2 r49)),
 qf 1 d50 4 r1,
 ql 1 d51 r50,
 q 0 (m d3 (.c (pi 23))),
 q 0 (m d4 r51)]) .ret) .skip)) (.seq (.ag k378_2 (.block 0 (.loop (.ag k378_3 (.ag k378_4 (.ag k378_5 .skip)))))) (.ag k378_6 .skip))))))
def f378:AF:=.mk x378 [.agg 4 .h0 .h2,.t .h0 .h3,.t .h0 .h4]
def k379_1:KF:=K1 y0 fun c i x h a=>
 tR (cK .Xx a h) fun b h=>
 C c 413 [b] h fun d h=>
 tR (cK (.FM 391 2) d h) fun e h=>
 J a h fun f h=>
 A 0 f h fun g h=>
 W g e h fun j h=>
 .nm T17 h
def k379_2:KF:=K1 y0 fun c i x h a=>
 J a h fun b h=>
 A 0 b h fun d h=>
 L d h fun e h=>
 tR (bK .WU e a h) fun f h=>
 x (T449 f) h
def k379_0:KF:=K1 y0 fun c i x h a=>
 J a h fun b h=>
 A 0 b h fun d h=>
 L d h fun e h=>
 tR (bK .lO e .dS h) fun f h=>
 x (T53 a f) h
def x379:AC:=(.ag k379_0 (.cond r6 (.ag k379_1 .skip) (.ag k379_2 (.cond r19 (.bad 403) .skip))))
def f379:AF:=.mk x379 []
def k380_0:KF:=K2 y0 y4 fun c i x h a b=>
 J a h fun d h=>
 A 1 d h fun e h=>
 L e h fun f h=>
 tR (BD 1 b f h) fun g h=>
 J a h fun j h=>
 A 1 j h fun k h=>
 W k b h fun l h=>
 .nm T17 h
def x380:AC:=(.seq (.da [q 0 (m d5 r0),
 qj 0 d6 r5,
 qf 0 d7 1 r6,
 ql 0 d8 r7,
 q 0 (o d9 (.cap r8)),
 q 0 (o d10 (.bin .mul a2 r9)),
 q 0 (m d11 r1),
 q 0 (o d12 (.bin .add r10 r11)),
 w (oc d13 414 [r12]),
 q 1 (m d14 r0),
 qj 1 d15 r14,
 qf 1 d16 1 r15,
 ql 1 d17 r16,
 q 1 (o d18 (.len r17)),
 q 0 (o d19 (.JZ 1 r13 .none (.some r18) .none)),
 q 0 (m d4 r19)]) (.ag k380_0 .skip))
def f380:AF:=.mk x380 []
def x381:AC:=b381
def f381:AF:=.mk x381 [.t .h0 .h2]
def k382_0:KF:=K1 y0 fun c i x h a=>
 C c 199 [a] h fun b h=>
 C c 415 [b] h fun d h=>
 tR (AD 20 1 (.ptr (.mk .h0 .h0 .h0 .h1) 0) d h) fun e h=>
 L e h fun f h=>
 tR (fm a f h) fun g h=>
 C c 416 [g] h fun j h=>
 D d j h fun k h=>
 .ret (T3 k) h
def x382:AC:=(.ag k382_0 .skip)
def f382:AF:=.mk x382 [.t .h0 .h2]
def k383_4:KF:=K3 y0 y1 y4 fun c i x h a b d=>
 Z d (pi 8) h fun e h=>
 .nm (T305 a b e) h
def k383_3:KF:=K6 y0 y1 y4 y6 y8 y9 fun c i x h a b d e f g=>
 tR (kX e (.int .u32 (.ofNat 100)) h) fun j h=>
 tR (gu j (.int .u32 (.ofNat 2)) h) fun k h=>
 tR (pH e (.int .u32 (.ofNat 100)) h) fun l h=>
 tR (gu l (.int .u32 (.ofNat 2)) h) fun m h=>
 x (T451 a b d f g k m) h
def k383_2:KF:=K3 y0 y1 y4 fun c i x h a b d=>
 tR (pH b (.int .u64 (.ofNat 100000000)) h) fun e h=>
 tR (cK (.toInt .u32) e h) fun f h=>
 tR (kX b (.int .u64 (.ofNat 100000000)) h) fun g h=>
 tR (kX f (.int .u32 (.ofNat 10000)) h) fun j h=>
 tR (pH f (.int .u32 (.ofNat 10000)) h) fun k h=>
 tR (kX k (.int .u32 (.ofNat 100)) h) fun l h=>
 tR (gu l (.int .u32 (.ofNat 2)) h) fun m h=>
 tR (pH k (.int .u32 (.ofNat 100)) h) fun n h=>
 tR (gu n (.int .u32 (.ofNat 2)) h) fun o h=>
 x (T450 a g d j m o) h
def k383_1:KF:=K3 y0 y1 y4 fun c i x h a b d=>
 tR (fm d (pi 8) h) fun e h=>
 I e (x (T305 a b d) h) (.ex 0 (T305 a b d) h)
def k383_6:KF:=K3 y0 y4 y12 fun c i x h a b d=>
 tR (fm b (pi 4) h) fun e h=>
 x (T453 a b d e) h
def k383_9:KF:=K3 y0 y4 y12 fun c i x h a b d=>
 Z b (pi 2) h fun e h=>
 .nm (T452 a e d) h
def k383_8:KF:=K3 y0 y4 y12 fun c i x h a b d=>
 tR (pH d (.int .u32 (.ofNat 100)) h) fun e h=>
 tR (gu e (.int .u32 (.ofNat 2)) h) fun f h=>
 tR (kX d (.int .u32 (.ofNat 100)) h) fun g h=>
 x (T455 a b g f) h
def k383_7:KF:=K3 y0 y4 y12 fun c i x h a b d=>
 tR (fm b (pi 2) h) fun e h=>
 x (T454 a b d e) h
def k383_10:KF:=K3 y0 y4 y12 fun c i x h a b d=>
 tR (fH b i0 h) fun e h=>
 I e (D (.int .u32 (.ofNat 48)) d h fun f h=>
 tR (cK (.toInt .u8) f h) fun g h=>
 X 1 a i0 h fun j h=>
 W j g h fun k h=>
 .nm T17 h) (.nm T17 h)
def k383_5:KF:=K3 y0 y1 y4 fun c i x h a b d=>
 tR (cK (.toInt .u32) b h) fun e h=>
 x (T452 a d e) h
def k383_0:KF:=K2 y0 y1 fun c i x h a b=>
 G a h fun d h=>
 x (T305 a b d) h
def x383:AC:=(.ag k383_0 (.seq (.block 0 (.loop (.ag k383_1 (.block 1 (.ag k383_2 (.ag k383_3 (.seq (.da [q 0 (m d42 r0),
 q 0 (m d43 r4),
 q 0 (o d44 (.bin .sub r43 a1)),
 q 0 (m d48 r9),
 q 0 (o d49 (.bin .add r48 (.c (.int .u32 (.ofNat 1))))),
 q 0 (o d50 (.idxs (.c (.str [48,48,48,49,48,50,48,51,48,52,48,53,48,54,48,55,48,56,48,57,49,48,49,49,49,50,49,51,49,52,49,53,49,54,49,55,49,56,49,57,50,48,50,49,50,50,50,51,50,52,50,53,50,54,50,55,50,56,50,57,51,48,51,49,51,50,51,51,51,52,51,53,51,54,51,55,51,56,51,57,52,48,52,49,52,50,52,51,52,52,52,53,52,54,52,55,52,56,52,57,53,48,53,49,53,50,53,51,53,52,53,53,53,54,53,55,53,56,53,57,54,48,54,49,54,50,54,51,54,52,54,53,54,54,54,55,54,56,54,57,55,48,55,49,55,50,55,51,55,52,55,53,55,54,55,55,55,56,55,57,56,48,56,49,56,50,56,51,56,52,56,53,56,54,56,55,56,56,56,57,57,48,57,49,57,50,57,51,57,52,57,53,57,54,57,55,57,56,57,57])) r49)),
 q 0 (o d53 (.bF 1 r42 r44)),
 w (os r53 r50),
 q 1 (m d45 r0),
 q 1 (m d46 r4),
 q 1 (o d47 (.bin .sub r46 a2)),
 q 1 (m d51 r9),
 q 1 (o d52 (.idxs (.c (.str [48,48,48,49,48,50,48,51,48,52,48,53,48,54,48,55,48,56,48,57,49,48,49,49,49,50,49,51,49,52,49,53,49,54,49,55,49,56,49,57,50,48,50,49,50,50,50,51,50,52,50,53,50,54,50,55,50,56,50,57,51,48,51,49,51,50,51,51,51,52,51,53,51,54,51,55,51,56,51,57,52,48,52,49,52,50,52,51,52,52,52,53,52,54,52,55,52,56,52,57,53,48,53,49,53,50,53,51,53,52,53,53,53,54,53,55,53,56,53,57,54,48,54,49,54,50,54,51,54,52,54,53,54,54,54,55,54,56,54,57,55,48,55,49,55,50,55,51,55,52,55,53,55,54,55,55,55,56,55,57,56,48,56,49,56,50,56,51,56,52,56,53,56,54,56,55,56,56,56,57,57,48,57,49,57,50,57,51,57,52,57,53,57,54,57,55,57,56,57,57])) r51)),
 q 0 (o d54 (.bF 1 r45 r47)),
 w (os r54 r52)]) (.seq (.da [q 0 (m d55 r0),
 q 0 (m d56 r4),
 q 0 (o d57 (.bin .sub r56 (.c (pi 3)))),
 q 0 (m d61 r8),
 q 0 (o d62 (.bin .add r61 (.c (.int .u32 (.ofNat 1))))),
 q 0 (o d63 (.idxs (.c (.str [48,48,48,49,48,50,48,51,48,52,48,53,48,54,48,55,48,56,48,57,49,48,49,49,49,50,49,51,49,52,49,53,49,54,49,55,49,56,49,57,50,48,50,49,50,50,50,51,50,52,50,53,50,54,50,55,50,56,50,57,51,48,51,49,51,50,51,51,51,52,51,53,51,54,51,55,51,56,51,57,52,48,52,49,52,50,52,51,52,52,52,53,52,54,52,55,52,56,52,57,53,48,53,49,53,50,53,51,53,52,53,53,53,54,53,55,53,56,53,57,54,48,54,49,54,50,54,51,54,52,54,53,54,54,54,55,54,56,54,57,55,48,55,49,55,50,55,51,55,52,55,53,55,54,55,55,55,56,55,57,56,48,56,49,56,50,56,51,56,52,56,53,56,54,56,55,56,56,56,57,57,48,57,49,57,50,57,51,57,52,57,53,57,54,57,55,57,56,57,57])) r62)),
 q 0 (o d66 (.bF 1 r55 r57)),
 w (os r66 r63),
 q 1 (m d58 r0),
 q 1 (m d59 r4),
 q 1 (o d60 (.bin .sub r59 (.c (pi 4)))),
 q 1 (m d64 r8),
 q 1 (o d65 (.idxs (.c (.str [48,48,48,49,48,50,48,51,48,52,48,53,48,54,48,55,48,56,48,57,49,48,49,49,49,50,49,51,49,52,49,53,49,54,49,55,49,56,49,57,50,48,50,49,50,50,50,51,50,52,50,53,50,54,50,55,50,56,50,57,51,48,51,49,51,50,51,51,51,52,51,53,51,54,51,55,51,56,51,57,52,48,52,49,52,50,52,51,52,52,52,53,52,54,52,55,52,56,52,57,53,48,53,49,53,50,53,51,53,52,53,53,53,54,53,55,53,56,53,57,54,48,54,49,54,50,54,51,54,52,54,53,54,54,54,55,54,56,54,57,55,48,55,49,55,50,55,51,55,52,55,53,55,54,55,55,55,56,55,57,56,48,56,49,56,50,56,51,56,52,56,53,56,54,56,55,56,56,56,57,57,48,57,49,57,50,57,51,57,52,57,53,57,54,57,55,57,56,57,57])) r64)),
 q 0 (o d67 (.bF 1 r58 r60)),
 w (os r67 r65)]) (.seq (.da [q 0 (m d68 r0),
 q 0 (m d69 r4),
 q 0 (o d70 (.bin .sub r69 (.c (pi 5)))),
 q 0 (m d74 r11),
 q 0 (o d75 (.bin .add r74 (.c (.int .u32 (.ofNat 1))))),
 q 0 (o d76 (.idxs (.c (.str [48,48,48,49,48,50,48,51,48,52,48,53,48,54,48,55,48,56,48,57,49,48,49,49,49,50,49,51,49,52,49,53,49,54,49,55,49,56,49,57,50,48,50,49,50,50,50,51,50,52,50,53,50,54,50,55,50,56,50,57,51,48,51,49,51,50,51,51,51,52,51,53,51,54,51,55,51,56,51,57,52,48,52,49,52,50,52,51,52,52,52,53,52,54,52,55,52,56,52,57,53,48,53,49,53,50,53,51,53,52,53,53,53,54,53,55,53,56,53,57,54,48,54,49,54,50,54,51,54,52,54,53,54,54,54,55,54,56,54,57,55,48,55,49,55,50,55,51,55,52,55,53,55,54,55,55,55,56,55,57,56,48,56,49,56,50,56,51,56,52,56,53,56,54,56,55,56,56,56,57,57,48,57,49,57,50,57,51,57,52,57,53,57,54,57,55,57,56,57,57])) r75)),
 q 0 (o d79 (.bF 1 r68 r70)),
 w (os r79 r76),
 q 1 (m d71 r0),
 q 1 (m d72 r4),
 q 1 (o d73 (.bin .sub r72 (.c (pi 6)))),
 q 1 (m d77 r11),
 q 1 (o d78 (.idxs (.c (.str [48,48,48,49,48,50,48,51,48,52,48,53,48,54,48,55,48,56,48,57,49,48,49,49,49,50,49,51,49,52,49,53,49,54,49,55,49,56,49,57,50,48,50,49,50,50,50,51,50,52,50,53,50,54,50,55,50,56,50,57,51,48,51,49,51,50,51,51,51,52,51,53,51,54,51,55,51,56,51,57,52,48,52,49,52,50,52,51,52,52,52,53,52,54,52,55,52,56,52,57,53,48,53,49,53,50,53,51,53,52,53,53,53,54,53,55,53,56,53,57,54,48,54,49,54,50,54,51,54,52,54,53,54,54,54,55,54,56,54,57,55,48,55,49,55,50,55,51,55,52,55,53,55,54,55,55,55,56,55,57,56,48,56,49,56,50,56,51,56,52,56,53,56,54,56,55,56,56,56,57,57,48,57,49,57,50,57,51,57,52,57,53,57,54,57,55,57,56,57,57])) r77)),
 q 0 (o d80 (.bF 1 r71 r73)),
 w (os r80 r78)]) (.seq (.da [q 0 (m d81 r0),
 q 0 (m d82 r4),
 q 0 (o d83 (.bin .sub r82 (.c (pi 7)))),
 q 0 (m d87 r10),
 q 0 (o d88 (.bin .add r87 (.c (.int .u32 (.ofNat 1))))),
 q 0 (o d89 (.idxs (.c (.str [48,48,48,49,48,50,48,51,48,52,48,53,48,54,48,55,48,56,48,57,49,48,49,49,49,50,49,51,49,52,49,53,49,54,49,55,49,56,49,57,50,48,50,49,50,50,50,51,50,52,50,53,50,54,50,55,50,56,50,57,51,48,51,49,51,50,51,51,51,52,51,53,51,54,51,55,51,56,51,57,52,48,52,49,52,50,52,51,52,52,52,53,52,54,52,55,52,56,52,57,53,48,53,49,53,50,53,51,53,52,53,53,53,54,53,55,53,56,53,57,54,48,54,49,54,50,54,51,54,52,54,53,54,54,54,55,54,56,54,57,55,48,55,49,55,50,55,51,55,52,55,53,55,54,55,55,55,56,55,57,56,48,56,49,56,50,56,51,56,52,56,53,56,54,56,55,56,56,56,57,57,48,57,49,57,50,57,51,57,52,57,53,57,54,57,55,57,56,57,57])) r88)),
 q 0 (o d92 (.bF 1 r81 r83)),
 w (os r92 r89),
 q 1 (m d84 r0),
 q 1 (m d85 r4),
 q 1 (o d86 (.bin .sub r85 (.c (pi 8)))),
 q 1 (m d90 r10),
 q 1 (o d91 (.idxs (.c (.str [48,48,48,49,48,50,48,51,48,52,48,53,48,54,48,55,48,56,48,57,49,48,49,49,49,50,49,51,49,52,49,53,49,54,49,55,49,56,49,57,50,48,50,49,50,50,50,51,50,52,50,53,50,54,50,55,50,56,50,57,51,48,51,49,51,50,51,51,51,52,51,53,51,54,51,55,51,56,51,57,52,48,52,49,52,50,52,51,52,52,52,53,52,54,52,55,52,56,52,57,53,48,53,49,53,50,53,51,53,52,53,53,53,54,53,55,53,56,53,57,54,48,54,49,54,50,54,51,54,52,54,53,54,54,54,55,54,56,54,57,55,48,55,49,55,50,55,51,55,52,55,53,55,54,55,55,55,56,55,57,56,48,56,49,56,50,56,51,56,52,56,53,56,54,56,55,56,56,56,57,57,48,57,49,57,50,57,51,57,52,57,53,57,54,57,55,57,56,57,57])) r90)),
 q 0 (o d93 (.bF 1 r84 r86)),
 w (os r93 r91)]) (.ag k383_4 .skip))))))))))) (.ag k383_5 (.seq (.ag k383_6 (.cond r99 (.bad 0) .skip)) (.seq (.ag k383_7 (.cond r139 (.ag k383_8 (.seq (.da [q 0 (m d145 r0),
 q 0 (m d146 r4),
 q 0 (o d147 (.bin .sub r146 a1)),
 q 0 (m d151 r16),
 q 0 (o d152 (.bin .add r151 (.c (.int .u32 (.ofNat 1))))),
 q 0 (o d153 (.idxs (.c (.str [48,48,48,49,48,50,48,51,48,52,48,53,48,54,48,55,48,56,48,57,49,48,49,49,49,50,49,51,49,52,49,53,49,54,49,55,49,56,49,57,50,48,50,49,50,50,50,51,50,52,50,53,50,54,50,55,50,56,50,57,51,48,51,49,51,50,51,51,51,52,51,53,51,54,51,55,51,56,51,57,52,48,52,49,52,50,52,51,52,52,52,53,52,54,52,55,52,56,52,57,53,48,53,49,53,50,53,51,53,52,53,53,53,54,53,55,53,56,53,57,54,48,54,49,54,50,54,51,54,52,54,53,54,54,54,55,54,56,54,57,55,48,55,49,55,50,55,51,55,52,55,53,55,54,55,55,55,56,55,57,56,48,56,49,56,50,56,51,56,52,56,53,56,54,56,55,56,56,56,57,57,48,57,49,57,50,57,51,57,52,57,53,57,54,57,55,57,56,57,57])) r152)),
 q 0 (o d156 (.bF 1 r145 r147)),
 w (os r156 r153),
 q 1 (m d148 r0),
 q 1 (m d149 r4),
 q 1 (o d150 (.bin .sub r149 a2)),
 q 1 (m d154 r16),
 q 1 (o d155 (.idxs (.c (.str [48,48,48,49,48,50,48,51,48,52,48,53,48,54,48,55,48,56,48,57,49,48,49,49,49,50,49,51,49,52,49,53,49,54,49,55,49,56,49,57,50,48,50,49,50,50,50,51,50,52,50,53,50,54,50,55,50,56,50,57,51,48,51,49,51,50,51,51,51,52,51,53,51,54,51,55,51,56,51,57,52,48,52,49,52,50,52,51,52,52,52,53,52,54,52,55,52,56,52,57,53,48,53,49,53,50,53,51,53,52,53,53,53,54,53,55,53,56,53,57,54,48,54,49,54,50,54,51,54,52,54,53,54,54,54,55,54,56,54,57,55,48,55,49,55,50,55,51,55,52,55,53,55,54,55,55,55,56,55,57,56,48,56,49,56,50,56,51,56,52,56,53,56,54,56,55,56,56,56,57,57,48,57,49,57,50,57,51,57,52,57,53,57,54,57,55,57,56,57,57])) r154)),
 q 0 (o d157 (.bF 1 r148 r150)),
 w (os r157 r155)]) (.ag k383_9 .skip))) .skip)) (.ag k383_10 .skip))))))
def f383:AF:=.mk x383 []
def k385_3:KF:=K2 y3 y4 fun c i x h a b=>
 I b (.ret (T3 (pi 2)) h) (tR (aC a (.str [110,101,103]) h) fun d h=>
 I d (I d (.ret (T3 i1) h) (tR (aC a (.str [105,102]) h) fun e h=>
 I e (.ret (T3 (pi 3)) h) (.nm T17 h))) (tR (aC a (.str [110,111,116]) h) fun e h=>
 I e (I e (.ret (T3 i1) h) (tR (aC a (.str [105,102]) h) fun f h=>
 I f (.ret (T3 (pi 3)) h) (.nm T17 h))) (tR (aC a (.str [108,101,110]) h) fun f h=>
 I f (.ret (T3 i1) h) (tR (aC a (.str [105,102]) h) fun g h=>
 I g (.ret (T3 (pi 3)) h) (.nm T17 h)))))
def k385_2:KF:=K1 y3 fun c i x h a=>
 tR (aC a (.str [97,100,100]) h) fun b h=>
 I b (x (T314 a b) h) (tR (aC a (.str [115,117,98]) h) fun d h=>
 I d (x (T314 a d) h) (tR (aC a (.str [109,117,108]) h) fun e h=>
 I e (x (T314 a e) h) (tR (aC a (.str [101,113]) h) fun f h=>
 I f (x (T314 a f) h) (tR (aC a (.str [108,116]) h) fun g h=>
 I g (x (T314 a g) h) (tR (aC a (.str [97,110,100]) h) fun j h=>
 I j (x (T314 a j) h) (tR (aC a (.str [111,114]) h) fun k h=>
 I k (x (T314 a k) h) (tR (aC a (.str [99,97,116]) h) fun l h=>
 x (T314 a l) h)))))))
def k385_1:KF:=K1 y0 fun c i x h a=>
 x (T47 a) h
def k385_4:KF:=fun c i x r h=>
 .ret (T3 i0) h
def k385_0:KF:=K1 y0 fun c i x h a=>
 x (T0 a) h
def x385:AC:=(.ag k385_0 (.seq (.ag k385_1 (.block 0 (.ag k385_2 (.ag k385_3 .skip)))) (.ag k385_4 .skip)))
def f385:AF:=.mk x385 [.t .h0 .h2]
def k386_0:KF:=K2 y0 y1 fun c i x h a b=>
 C c 419 [a,b] h fun d h=>
 tR (fm d i0 h) fun e h=>
 .ret (T9 e) h
def x386:AC:=(.ag k386_0 .skip)
def f386:AF:=.mk x386 [.t .h0 .h4]
def k387_0:KF:=K1 y0 fun c i x h a=>
 B 299 a h fun b h=>
 M 4 b h fun d h=>
 C c 314 [d] h fun e h=>
 tR (bG e h) fun f h=>
 .ret (T3 f) h
def x387:AC:=(.ag k387_0 .skip)
def f387:AF:=.mk x387 [.t .h0 .h2]
def k391_1:KF:=K6 y0 y1 y2 y6 y7 y8 fun c i x h a b d e f g=>
 tR (oZ g b h) fun j h=>
 I j (C c 421 [a,f,g,d] h fun k h=>
 D g e h fun l h=>
 .nm (T456 a b d e g l) h) (.ex 0 (T456 a b d e f g) h)
def k391_5:KF:=K6 y0 y1 y2 y6 y7 y8 fun c i x h a b d e f g=>
 tR (oZ g b h) fun j h=>
 I j (D f e h fun k h=>
 C c 422 [a,f,k,g,d] h fun l h=>
 tR (gu (pi 2) e h) fun m h=>
 D g m h fun n h=>
 .nm (T456 a b d e g n) h) (.ex 4 (T456 a b d e f g) h)
def k391_6:KF:=K5 y0 y1 y2 y6 y7 fun c i x h a b d e f=>
 D f e h fun g h=>
 Y g b h fun j h=>
 I j (C c 422 [a,f,g,b,d] h fun k h=>
 tR (gu e (pi 2) h) fun l h=>
 .nm (T412 a b d l) h) (tR (gu e (pi 2) h) fun k h=>
 .nm (T412 a b d k) h)
def k391_4:KF:=K4 y0 y1 y2 y6 fun c i x h a b d e=>
 tR (gu (pi 2) e h) fun f h=>
 x (T456 a b d e i0 f) h
def k391_3:KF:=K4 y0 y1 y2 y6 fun c i x h a b d e=>
 Y e b h fun f h=>
 I f (x (T412 a b d e) h) (.ex 2 T17 h)
def k391_2:KF:=K5 y0 y1 y2 y6 y7 fun c i x h a b d e f=>
 C c 421 [a,f,b,d] h fun g h=>
 x (T412 a b d e) h
def k391_0:KF:=K3 y0 y1 y2 fun c i x h a b d=>
 x (T456 a b d (pi 20) i0 (pi 20)) h
def x391:AC:=(.ag k391_0 (.seq (.block 0 (.loop (.ag k391_1 .skip))) (.ag k391_2 (.block 2 (.loop (.ag k391_3 (.block 3 (.ag k391_4 (.seq (.block 4 (.loop (.ag k391_5 .skip))) (.ag k391_6 .skip))))))))))
def f391:AF:=.mk x391 []
def k392_1:KF:=K2 y0 y16 fun c i x h a b=>
 I b (.ret (T49 (.cG .f64 0 0) (.bool false)) h) (.nm (T0 a) h)
def k392_2:KF:=K1 y0 fun c i x h a=>
 C c 182 [a] h fun b h=>
 .ret (T49 b (.bool true)) h
def k392_0:KF:=K2 y0 y1 fun c i x h a b=>
 x (T20 a b) h
def x392:AC:=(.ag k392_0 (.seq (.seq (.ops [m d6 r1,
 o d7 (.un .not r6),
 m d8 r7,
 .g .h0 .h8 false d9 (.op (.mv r0)),
 .g .h0 .h8 false d10 (.op (.bin .gt r9 (.c (pi 1125899906842624)))),
 o d11 (.pick r8 (.c (.bool true)) r10),
 m d12 r11,
 .g .h0 .hc false d13 (.op (.mv r0)),
 .g .h0 .hc false d14 (.op (.un .neg r13)),
 .g .h0 .hc false d15 (.op (.bin .gt r14 (.c (pi 1125899906842624)))),
 o d16 (.pick r12 (.c (.bool true)) r15)]) (.ag k392_1 .skip)) (.ag k392_2 .skip)))
def f392:AF:=.mk x392 [.t .h0 .h4,.t .h0 .h5]
def k395_3:KF:=K5 y1 y2 y3 y6 y10 fun c i x h a b d e f=>
 A 1 d h fun g h=>
 L g h fun j h=>
 tR (aC j (.str [105,102]) h) fun k h=>
 x (T458 a b d e f k) h
def k395_9:KF:=K3 y6 y10 y12 fun c i x h a b d=>
 M 3 b h fun e h=>
 M 3 d h fun f h=>
 C c 396 [e,f] h fun g h=>
 C c 425 [g] h fun j h=>
 S 3 a j h fun k h=>
 .ret (T27 a i0) h
def k395_13:KF:=K6 y3 y6 y10 y12 y97 y139 fun c i x h a b d e f g=>
 I g (A 1 d h fun j h=>
 L j h fun k h=>
 Q k i0 h fun l h=>
 C c 425 [l] h fun m h=>
 S 3 b m h fun n h=>
 .ret (T27 b i0) h) (tR (aC f (.str [108,101,110]) h) fun j h=>
 I j (A 2 d h fun k h=>
 L k h fun l h=>
 tR (dI l h) fun m h=>
 C c 424 [m] h fun n h=>
 S 3 b n h fun o h=>
 .ret (T27 b i0) h) (tR (aC f (.str [99,97,116]) h) fun k h=>
 I k (A 2 d h fun l h=>
 L l h fun m h=>
 tR (dI m h) fun n h=>
 A 2 e h fun o h=>
 L o h fun p h=>
 tR (dI p h) fun q h=>
 D n q h fun s h=>
 tR (fH s (pi 40) h) fun t h=>
 I t (U [i0,i0,iS] [] h fun v h=>
 S 3 b v h fun w h=>
 .ret (T27 b (pi 3)) h) (A 2 d h fun v h=>
 L v h fun w h=>
 A 2 e h fun y h=>
 L y h fun z h=>
 tR (cA w z h) fun a0 h=>
 U [i0,i0,iS] [.mk 0 1 (.c (pi 2)),.mk 2 1 (.c a0)] h fun a1 h=>
 S 3 b a1 h fun a2 h=>
 .ret (T27 b i0) h)) (.nm (T460 a b d e) h)))
def k395_12:KF:=K5 y3 y6 y10 y12 y97 fun c i x h a b d e f=>
 tR (aC f (.str [110,111,116]) h) fun g h=>
 x (T466 a b d e f g) h
def k395_11:KF:=K5 y3 y6 y10 y12 y97 fun c i x h a b d e f=>
 tR (aC f (.str [111,114]) h) fun g h=>
 x (T465 a b d e f g) h
def k395_10:KF:=K5 y3 y6 y10 y12 y97 fun c i x h a b d e f=>
 tR (aC f (.str [97,110,100]) h) fun g h=>
 x (T464 a b d e f g) h
def k395_8:KF:=K5 y3 y6 y10 y12 y97 fun c i x h a b d e f=>
 tR (aC f (.str [108,116]) h) fun g h=>
 x (T463 a b d e f g) h
def k395_7:KF:=K5 y3 y6 y10 y12 y97 fun c i x h a b d e f=>
 tR (aC f (.str [101,113]) h) fun g h=>
 x (T462 a b d e f g) h
def k395_6:KF:=K4 y3 y6 y10 y12 fun c i x h a b d e=>
 A 1 a h fun f h=>
 L f h fun g h=>
 x (T461 a b d e g) h
def k395_14:KF:=K4 y3 y6 y10 y12 fun c i x h a b d e=>
 A 1 a h fun f h=>
 L f h fun g h=>
 A 1 d h fun j h=>
 L j h fun k h=>
 A 1 e h fun l h=>
 L l h fun m h=>
 C c 426 [g,k,m] h fun n h=>
 E 0 n h fun o h=>
 E 1 n h fun p h=>
 tR (bG p h) fun q h=>
 I q (U [i0,i0,iS] [] h fun s h=>
 S 3 b s h fun t h=>
 .ret (T27 b (pi 26)) h) (C c 424 [o] h fun s h=>
 S 3 b s h fun t h=>
 .ret (T27 b i0) h)
def k395_5:KF:=K6 y1 y2 y3 y6 y10 y12 fun c i x h a b d e f g=>
 A 3 d h fun j h=>
 L j h fun k h=>
 G k h fun l h=>
 tR (fH l i1 h) fun m h=>
 I m (A 3 d h fun n h=>
 L n h fun o h=>
 X 4 o i1 h fun p h=>
 M 4 p h fun q h=>
 C c 395 [q,a,b] h fun s h=>
 E 0 s h fun t h=>
 E 1 s h fun v h=>
 S 3 g t h fun w h=>
 tR (bU v i0 h) fun y h=>
 I y (U [i0,i0,iS] [] h fun z h=>
 S 3 e z h fun a0 h=>
 .ret (T27 e v) h) (x (T460 d e f g) h)) (x (T460 d e f g) h)
def k395_4:KF:=K5 y1 y2 y3 y6 y10 fun c i x h a b d e f=>
 O 100 3 (.k1 (Y3 i0 i0 iS)) h fun g h=>
 x (T459 a b d e f g) h
def k395_2:KF:=K4 y1 y2 y3 y6 fun c i x h a b d e=>
 A 3 d h fun f h=>
 L f h fun g h=>
 X 4 g i0 h fun j h=>
 M 4 j h fun k h=>
 C c 395 [k,a,b] h fun l h=>
 E 0 l h fun m h=>
 E 1 l h fun n h=>
 O 100 3 (.k1 (Y3 i0 i0 iS)) h fun o h=>
 S 3 o m h fun p h=>
 tR (bU n i0 h) fun q h=>
 I q (U [i0,i0,iS] [] h fun s h=>
 S 3 e s h fun t h=>
 .ret (T27 e n) h) (x (T457 a b d e o) h)
def k395_1:KF:=K4 y1 y2 y3 y6 fun c i x h a b d e=>
 A 0 d h fun f h=>
 L f h fun g h=>
 Q g i1 h fun j h=>
 I j (A 1 d h fun k h=>
 L k h fun l h=>
 C c 151 [a,l] h fun m h=>
 E 0 m h fun n h=>
 E 1 m h fun o h=>
 X 3 b n h fun p h=>
 M 3 p h fun q h=>
 S 3 e q h fun s h=>
 .ret (T27 e i0) h) (Q g (pi 2) h fun k h=>
 I k (A 2 d h fun l h=>
 L l h fun m h=>
 C c 424 [m] h fun n h=>
 S 3 e n h fun o h=>
 .ret (T27 e i0) h) (Q g (pi 3) h fun l h=>
 I l (A 1 d h fun m h=>
 L m h fun n h=>
 U [i0,i0,iS] [.mk 0 1 (.c (pi 2)),.mk 2 1 (.c n)] h fun o h=>
 S 3 e o h fun p h=>
 .ret (T27 e i0) h) (x (T246 a b d e) h)))
def k395_0:KF:=K3 y0 y1 y2 fun c i x h a b d=>
 B 299 a h fun e h=>
 O 100 3 (.k1 (Y3 i0 i0 iS)) h fun f h=>
 x (T246 b d e f) h
def x395:AC:=(.ag k395_0 (.ag k395_1 (.ag k395_2 (.seq (.ag k395_3 (.cond r56 (.bad 0) .skip)) (.ag k395_4 (.ag k395_5 (.seq (.ag k395_6 (.block 1 (.ag k395_7 (.cond r98 (.seq (.ops [o d100 (.cV 3 r10),
 o d101 (.cV 3 r12),
 oc d102 396 [r100,r101],
 o d103 (.un .not r102),
 m d104 r103,
 .g .h6 .h8 true d105 (.op (.cV 3 r12)),
 .g .h6 .h8 true d106 (.op (.cV 3 r10)),
 .g .h6 .h8 true d107 (.call 396 [r105,r106]),
 .g .h6 .h8 true d108 (.op (.un .not r107)),
 o d109 (.pick r104 r108 (.c (.bool false))),
 oc d110 425 [r109],
 o .no (.gS 3 r6 r110),
 m d7 a0]) .ret) (.ag k395_8 (.cond r111 (.ag k395_9 .skip) (.ag k395_10 (.cond r117 (.seq (.ops [of d119 1 r10,
 ol d120 r119,
 o d121 (.bin .ne r120 a0),
 m d122 r121,
 .g .h7 .ha true d123 (.op (.br 1 r12)),
 .g .h7 .ha true d124 (.op (.bq r123)),
 .g .h7 .ha true d125 (.op (.bin .ne r124 a0)),
 o d126 (.pick r122 r125 (.c (.bool false))),
 oc d127 425 [r126],
 o .no (.gS 3 r6 r127),
 m d7 a0]) .ret) (.ag k395_11 (.cond r128 (.seq (.ops [of d130 1 r10,
 ol d131 r130,
 o d132 (.bin .ne r131 a0),
 m d133 r132,
 .g .h8 .h5 false d134 (.op (.br 1 r12)),
 .g .h8 .h5 false d135 (.op (.bq r134)),
 .g .h8 .h5 false d136 (.op (.bin .ne r135 a0)),
 o d137 (.pick r133 (.c (.bool true)) r136),
 oc d138 425 [r137],
 o .no (.gS 3 r6 r138),
 m d7 a0]) .ret) (.ag k395_12 (.ag k395_13 .skip)))))))))))) (.ag k395_14 .skip))))))))
def f395:AF:=.mk x395 [.agg 3 .h0 .h6,.t .h0 .h7]
def k396_1:KF:=K3 y2 y3 y12 fun c i x h a b d=>
 I d (.ret (T9 (.bool false)) h) (.nm (T2 a b) h)
def k396_3:KF:=K2 y2 y3 fun c i x h a b=>
 A 2 a h fun d h=>
 L d h fun e h=>
 A 2 b h fun f h=>
 L f h fun g h=>
 tR (zR e g h) fun j h=>
 .ret (T9 j) h
def k396_2:KF:=K2 y2 y3 fun c i x h a b=>
 A 0 a h fun d h=>
 L d h fun e h=>
 A 0 b h fun f h=>
 L f h fun g h=>
 tR (bU e g h) fun j h=>
 I j (A 0 a h fun k h=>
 L k h fun l h=>
 Q l i1 h fun m h=>
 .ret (T9 m) h) (A 0 a h fun k h=>
 L k h fun l h=>
 Q l i1 h fun m h=>
 I m (A 1 a h fun n h=>
 L n h fun o h=>
 A 1 b h fun p h=>
 L p h fun q h=>
 Y o q h fun s h=>
 .ret (T9 s) h) (x (T2 a b) h))
def k396_0:KF:=K2 y0 y1 fun c i x h a b=>
 B 100 a h fun d h=>
 B 100 b h fun e h=>
 x (T2 d e) h
def x396:AC:=(.ag k396_0 (.seq (.seq (.ops [o d5 (.cV 3 r2),
 oc d6 255 [r5],
 o d7 (.un .not r6),
 m d8 r7,
 .g .h0 .h8 false d9 (.op (.cV 3 r3)),
 .g .h0 .h8 false d10 (.call 255 [r9]),
 .g .h0 .h8 false d11 (.op (.un .not r10)),
 o d12 (.pick r8 (.c (.bool true)) r11)]) (.ag k396_1 .skip)) (.ag k396_2 (.ag k396_3 .skip))))
def f396:AF:=.mk x396 [.t .h0 .h4]
def x397:AC:=b397
def f397:AF:=.mk x397 [.t .h0 .h2]
def k398_1:KF:=K1 y0 fun c i x h a=>
 Y a i0 h fun b h=>
 I b (tR (mV a h) fun d h=>
 C c 163 [i0,d] h fun e h=>
 .ret (T2 e (.bool true)) h) (C c 163 [a,i0] h fun d h=>
 .ret (T2 d (.bool true)) h)
def k398_0:KF:=K1 y0 fun c i x h a=>
 tR (fH a (pi 1125899906842624) h) fun b h=>
 gD b false (fun d=>d a h) h fun d h=>
 gD b false (fun e=>Y d (ni 1125899906842623) h fun f h=>
 e f h) h fun e h=>
 tR (bQ (.c b) (.c (.bool true)) (.c e) .nil h) fun f h=>
 I f (.ret (T2 (.cG .f64 0 0) (.bool false)) h) (x (T0 a) h)
def x398:AC:=(.ag k398_0 (.ag k398_1 .skip))
def f398:AF:=.mk x398 [.t .h0 .h2,.t .h0 .h3]
def x399:AC:=b399
def f399:AF:=.mk x399 [.t .h0 .h4]
def k400_3:KF:=K5 y1 y2 y3 y6 y10 fun c i x h a b d e f=>
 A 1 d h fun g h=>
 L g h fun j h=>
 tR (aC j (.str [105,102]) h) fun k h=>
 x (T471 a b d e f k) h
def k400_8:KF:=K8 y1 y2 y3 y6 y13 y82 y83 y84 fun c i x h a b d e f g j k=>
 D k i1 h fun l h=>
 .nm (T473 a b d e f g j l) h
def k400_7:KF:=K8 y1 y2 y3 y6 y13 y82 y83 y84 fun c i x h a b d e f g j k=>
 X 4 g k h fun l h=>
 M 4 l h fun m h=>
 O 299 4 (.k1 (Y4 i0 iS i0 .ah)) h fun n h=>
 S 4 n m h fun o h=>
 M 4 n h fun p h=>
 C c 400 [p,a,b] h fun q h=>
 E 0 q h fun s h=>
 E 1 q h fun t h=>
 O 100 3 (.k1 (Y3 i0 i0 iS)) h fun v h=>
 S 3 v s h fun w h=>
 tR (bU t i0 h) fun y h=>
 I y (U [i0,i0,iS] [] h fun z h=>
 S 3 e z h fun a0 h=>
 .ret (T27 e t) h) (M 3 v h fun z h=>
 tR (bs 100 3 1 [i0,i0,iS] [.mk 0 3 (.c z)] h) fun a0 h=>
 tR (cW 100 3 f a0 h) fun a1 h=>
 x (T473 a b d e a1 g j k) h)
def k400_6:KF:=K8 y1 y2 y3 y6 y13 y82 y83 y84 fun c i x h a b d e f g j k=>
 Y k j h fun l h=>
 I l (x (T473 a b d e f g j k) h) (.ex 2 (T474 d e f) h)
def k400_5:KF:=K6 y1 y2 y3 y6 y10 y13 fun c i x h a b d e f g=>
 G f h fun j h=>
 x (T473 a b d e g f j i0) h
def k400_9:KF:=K3 y3 y6 y13 fun c i x h a b d=>
 A 1 a h fun e h=>
 L e h fun f h=>
 C c 429 [f,d] h fun g h=>
 E 0 g h fun j h=>
 E 1 g h fun k h=>
 S 3 b j h fun l h=>
 .ret (T27 b k) h
def k400_4:KF:=K5 y1 y2 y3 y6 y10 fun c i x h a b d e f=>
 x (T472 a b d e f .ah) h
def k400_2:KF:=K4 y1 y2 y3 y6 fun c i x h a b d e=>
 A 3 d h fun f h=>
 L f h fun g h=>
 x (T457 a b d e g) h
def k400_1:KF:=K4 y1 y2 y3 y6 fun c i x h a b d e=>
 A 0 d h fun f h=>
 L f h fun g h=>
 Q g i1 h fun j h=>
 I j (A 1 d h fun k h=>
 L k h fun l h=>
 C c 120 [a,l] h fun m h=>
 E 0 m h fun n h=>
 E 1 m h fun o h=>
 X 3 b n h fun p h=>
 M 3 p h fun q h=>
 S 3 e q h fun s h=>
 .ret (T27 e i0) h) (Q g (pi 2) h fun k h=>
 I k (A 2 d h fun l h=>
 L l h fun m h=>
 C c 428 [m] h fun n h=>
 S 3 e n h fun o h=>
 .ret (T27 e i0) h) (Q g (pi 3) h fun l h=>
 I l (A 1 d h fun m h=>
 L m h fun n h=>
 C c 216 [n] h fun o h=>
 S 3 e o h fun p h=>
 .ret (T27 e i0) h) (x (T246 a b d e) h)))
def k400_0:KF:=K3 y0 y1 y2 fun c i x h a b d=>
 B 299 a h fun e h=>
 O 100 3 (.k1 (Y3 i0 i0 iS)) h fun f h=>
 x (T246 b d e f) h
def x400:AC:=(.ag k400_0 (.ag k400_1 (.ag k400_2 (.seq (.ag k400_3 (.cond r47 (.bad 0) .skip)) (.ag k400_4 (.seq (.ag k400_5 (.block 2 (.loop (.ag k400_6 (.ag k400_7 (.ag k400_8 .skip)))))) (.ag k400_9 .skip)))))))
def f400:AF:=.mk x400 [.agg 3 .h0 .h6,.t .h0 .h7]
def x401:AC:=b401
def f401:AF:=.mk x401 [.t .h0 .h4,.t .h0 .h5]
def x402:AC:=b402
def f402:AF:=.mk x402 [.t .h0 .h4]
def x403:AC:=b403
def f403:AF:=.mk x403 [.agg 3 .h0 .h4,.t .h0 .h5]
def k409_3:KF:=K5 y2 y7 y8 y9 y38 fun c i x h a b d e f=>
 I f (.ret (T27 i0 b) h) (.nm (T90 a d e) h)
def k409_5:KF:=K4 y8 y9 y10 y52 fun c i x h a b d e=>
 I e (Z d (.int .u64 (.ofNat 1)) h fun f h=>
 tR (cK (.toInt .i64) f h) fun g h=>
 .ret (T27 g (.iface 489 i1)) h) (.nm (T484 a b d) h)
def k409_6:KF:=K4 y8 y9 y10 y62 fun c i x h a b d e=>
 I e (tR (cK (.toInt .i64) d h) fun f h=>
 tR (mV f h) fun g h=>
 .ret (T27 g (.iface 489 i1)) h) (.nm (T437 a b) h)
def k409_7:KF:=K2 y8 y9 fun c i x h a b=>
 tR (cK (.toInt .i64) b h) fun d h=>
 I a (tR (mV d h) fun e h=>
 .ret (T27 e .kQ) h) (.ret (T27 d .kQ) h)
def k409_4:KF:=K3 y2 y8 y9 fun c i x h a b d=>
 Q a i0 h fun e h=>
 I e (Z (pi 64) i1 h fun f h=>
 tR (cK (.toInt .u64) f h) fun g h=>
 tR (bK .shl (.int .u64 (.ofNat 1)) g h) fun j h=>
 x (T484 b d j) h) (Z a i1 h fun f h=>
 tR (cK (.toInt .u64) f h) fun g h=>
 tR (bK .shl (.int .u64 (.ofNat 1)) g h) fun j h=>
 x (T484 b d j) h)
def k409_2:KF:=K4 y0 y1 y2 y8 fun c i x h a b d e=>
 C c 433 [a,b,d] h fun f h=>
 E 0 f h fun g h=>
 E 1 f h fun j h=>
 x (T483 d j e g) h
def k409_1:KF:=K4 y0 y1 y2 y8 fun c i x h a b d e=>
 tR (eh (.c a) (.c i0) .nil h) fun f h=>
 Q f (.int .u8 (.ofNat 43)) h fun g h=>
 I g (tR (fS (.c a) (.some (.c i1)) .none .nil h) fun j h=>
 x (T60 j b d e) h) (Q f (.int .u8 (.ofNat 45)) h fun j h=>
 I j (tR (fS (.c a) (.some (.c i1)) .none .nil h) fun k h=>
 x (T60 k b d (.bool true)) h) (x (T60 a b d e) h))
def k409_0:KF:=K3 y0 y1 y2 fun c i x h a b d=>
 tR (aC a iS h) fun e h=>
 I e (.ret (T27 i0 (.iface 489 (pi 2))) h) (x (T60 a b d (.bool false)) h)
def x409:AC:=(.ag k409_0 (.ag k409_1 (.ag k409_2 (.seq (.seq (.ops [m d32 r7,
 o d33 (.bin (.jP .i) r32 (.c .kQ)),
 m d34 r33,
 .g .h2 .h2 true d35 (.op (.mv r7)),
 .g .h2 .h2 true d36 (.op (.Ie 489 a1)),
 .g .h2 .h2 true d37 (.op (.bad 405)),
 o d38 (.pick r34 r37 (.c (.bool false)))]) (.ag k409_3 .skip)) (.ag k409_4 (.seq (.seq (.ops [m d46 r8,
 o d47 (.un .not r46),
 m d48 r47,
 .g .h3 .h0 true d49 (.op (.mv r9)),
 .g .h3 .h0 true d50 (.op (.mv r10)),
 .g .h3 .h0 true d51 (.op (.bin .ge r49 r50)),
 o d52 (.pick r48 r51 (.c (.bool false)))]) (.ag k409_5 .skip)) (.seq (.seq (.ops [m d57 r8,
 m d58 r57,
 .g .h3 .ha true d59 (.op (.mv r9)),
 .g .h3 .ha true d60 (.op (.mv r10)),
 .g .h3 .ha true d61 (.op (.bin .gt r59 r60)),
 o d62 (.pick r58 r61 (.c (.bool false)))]) (.ag k409_6 .skip)) (.ag k409_7 .skip))))))))
def f409:AF:=.mk x409 [.t .h0 .h6,.t .h0 .h7]
def k412_2:KF:=K4 y0 y1 y7 y8 fun c i x h a b d e=>
 Y e d h fun f h=>
 I f (X 5 a e h fun g h=>
 M 5 g h fun j h=>
 tT (cd c b [j] h) fun k h=>
 I k (.ret (T9 e) h) (D e i1 h fun l h=>
 .nm (T62 a b d l) h)) (.ex 0 (T62 a b d e) h)
def k412_1:KF:=K2 y0 y1 fun c i x h a b=>
 G a h fun d h=>
 x (T62 a b d i0) h
def k412_3:KF:=fun c i x r h=>
 .ret (T9 (ni 0)) h
def k412_0:KF:=K2 y0 y1 fun c i x h a b=>
 x (T20 a b) h
def x412:AC:=(.ag k412_0 (.seq (.ag k412_1 (.block 0 (.loop (.ag k412_2 .skip)))) (.ag k412_3 .skip)))
def f412:AF:=.mk x412 [.t .h0 .h4]
def k415_0:KF:=K1 y0 fun c i x h a=>
 tR (gu a (pi 78913) h) fun b h=>
 tR (bK .shr b (.int .u64 (.ofNat 18)) h) fun d h=>
 .ret (T3 d) h
def x415:AC:=(.ag k415_0 .skip)
def f415:AF:=.mk x415 [.t .h0 .h2]
def k416_0:KF:=K1 y0 fun c i x h a=>
 I a (.ret (T3 i1) h) (.ret (T3 i0) h)
def x416:AC:=(.ag k416_0 .skip)
def f416:AF:=.mk x416 [.t .h0 .h2]
def k419_2:KF:=K4 y0 y1 y7 y8 fun c i x h a b d e=>
 Y e d h fun f h=>
 I f (X 4 a e h fun g h=>
 M 4 g h fun j h=>
 tT (cd c b [j] h) fun k h=>
 I k (.ret (T9 e) h) (D e i1 h fun l h=>
 .nm (T62 a b d l) h)) (.ex 0 (T62 a b d e) h)
def k419_1:KF:=K2 y0 y1 fun c i x h a b=>
 G a h fun d h=>
 x (T62 a b d i0) h
def k419_3:KF:=fun c i x r h=>
 .ret (T9 (ni 0)) h
def k419_0:KF:=K2 y0 y1 fun c i x h a b=>
 x (T20 a b) h
def x419:AC:=(.ag k419_0 (.seq (.ag k419_1 (.block 0 (.loop (.ag k419_2 .skip)))) (.ag k419_3 .skip)))
def f419:AF:=.mk x419 [.t .h0 .h4]
def k421_3:KF:=K7 y0 y1 y2 y3 y8 y9 y34 fun c i x h a b d e f g j=>
 I j (.nm (T262 a b d e f g) h) (.ex 2 (T262 a b d e f g) h)
def k421_4:KF:=K6 y0 y1 y2 y3 y8 y9 fun c i x h a b d e f g=>
 Z g i1 h fun j h=>
 .nm (T262 a b d e f j) h
def k421_2:KF:=K5 y0 y1 y2 y3 y8 fun c i x h a b d e f=>
 x (T262 a b d e f f) h
def k421_5:KF:=K5 y0 y1 y2 y3 y8 fun c i x h a b d e f=>
 D f i1 h fun g h=>
 .nm (T261 a b d e g) h
def k421_1:KF:=K5 y0 y1 y2 y3 y8 fun c i x h a b d e f=>
 Y f d h fun g h=>
 I g (x (T261 a b d e f) h) (.ex 0 T17 h)
def k421_0:KF:=K4 y0 y1 y2 y3 fun c i x h a b d e=>
 D b i1 h fun f h=>
 x (T261 a b d e f) h
def x421:AC:=(.ag k421_0 (.block 0 (.loop (.ag k421_1 (.seq (.block 1 (.ag k421_2 (.block 2 (.loop (.seq (.seq (.da [q 0 (m d18 r9),
 q 0 (m d19 r1),
 q 0 (o d20 (.bin .gt r18 r19)),
 q 0 (m d21 r20),
 q 0 (.g .h1 .h5 true d22 (.op (.mv r3))),
 q 0 (.g .h1 .h5 true d23 (.op (.mv r0))),
 q 0 (.g .h1 .h5 true d24 (.op (.mv r9))),
 q 0 (.g .h1 .h5 true d25 (.op (.bF 2 r23 r24))),
 q 0 (.g .h1 .h5 true d26 (.op (.cV 2 r25))),
 q 0 (.g .h1 .h5 true d27 (.op (.mv r0))),
 q 0 (.g .h1 .h5 true d28 (.op (.mv r9))),
 q 0 (.g .h1 .h5 true d29 (.op (.bin .sub r28 a1))),
 q 0 (.g .h1 .h5 true d30 (.op (.bF 2 r27 r29))),
 q 0 (.g .h1 .h5 true d31 (.op (.cV 2 r30))),
 w (.g .h1 .h5 true d32 (.jb r22 [r26,r31])),
 q 0 (.g .h1 .h5 true d33 (.op (.bin .lt r32 a0))),
 q 0 (o d34 (.pick r21 r33 (.c (.bool false))))]) (.ag k421_3 .skip)) (.seq (.block 3 (.da [q 0 (m d37 r0),
 q 0 (m d38 r9),
 q 0 (m d42 r0),
 q 0 (m d43 r9),
 q 0 (o d44 (.bin .sub r43 a1)),
 q 0 (o d45 (.bF 2 r42 r44)),
 q 0 (o d46 (.cV 2 r45)),
 q 0 (m d47 r0),
 q 0 (m d48 r9),
 q 0 (o d49 (.bF 2 r47 r48)),
 q 0 (o d50 (.cV 2 r49)),
 q 0 (o d51 (.bF 2 r37 r38)),
 w (o .no (.gS 2 r51 r46)),
 q 1 (m d39 r0),
 q 1 (m d40 r9),
 q 1 (o d41 (.bin .sub r40 a1)),
 q 0 (o d52 (.bF 2 r39 r41)),
 w (o .no (.gS 2 r52 r50))])) (.ag k421_4 .skip))))))) (.ag k421_5 .skip))))))
def f421:AF:=.mk x421 []
def x424:AC:=b424
def f424:AF:=.mk x424 [.agg 3 .h0 .h2]
def x426:AC:=b426
def f426:AF:=.mk x426 [.t .h0 .h6,.t .h0 .h7]
def x427:AC:=b427
def f427:AF:=.mk x427 [.t .h0 .h4]
def x428:AC:=b428
def f428:AF:=.mk x428 [.agg 3 .h0 .h2]
def x429:AC:=b429
def f429:AF:=.mk x429 [.agg 3 .h0 .h4,.t .h0 .h5]
def x430:AC:=b430
def f430:AF:=.mk x430 [.t .h0 .h4]
def x431:AC:=b431
def f431:AF:=.mk x431 [.agg 2 .h0 .h6]
def x432:AC:=b432
def f432:AF:=.mk x432 [.t .h0 .h2,.t .h0 .h3]
def k433_1:KF:=K5 y0 y1 y2 y8 y9 fun c i x h a b d e f=>
 tR (oZ (pi 2) b h) fun g h=>
 gD g true (fun j=>j b h) h fun j h=>
 gD g true (fun k=>tR (oZ j (pi 36) h) fun l h=>
 k l h) h fun k h=>
 tR (bQ (.c g) (.c k) (.c (.bool false)) .nil h) fun l h=>
 x (T494 a b d e f l) h
def k433_9:KF:=K9 y1 y8 y9 y10 y11 y13 y99 y100 y101 fun c i x h a b d e f g j k l=>
 .ex 4 (T501 a b d e f (.bool true) g u j k l) h
def k433_11:KF:=K11 y1 y8 y9 y10 y11 y12 y13 y15 y99 y100 y101 fun c i x h a b d e f g j k l m n=>
 Z k (.int .u8 (.ofNat 48)) h fun o h=>
 .nm (T501 a b d e f g j o l m n) h
def k433_12:KF:=K12 y1 y8 y9 y10 y11 y12 y13 y15 y99 y100 y101 y121 fun c i x h a b d e f g j k l m n o=>
 I o (C c 449 [k] h fun p h=>
 Z p (.int .u8 (.ofNat 97)) h fun q h=>
 D q (.int .u8 (.ofNat 10)) h fun s h=>
 .nm (T501 a b d e f g j s l m n) h) (.ret (T27 (.int .u64 (.ofNat 0)) (.iface 489 (pi 2))) h)
def k433_10:KF:=K11 y1 y8 y9 y10 y11 y12 y13 y15 y99 y100 y101 fun c i x h a b d e f g j k l m n=>
 tR (oZ (.int .u8 (.ofNat 48)) k h) fun o h=>
 gD o true (fun p=>p k h) h fun p h=>
 gD o true (fun q=>tR (oZ p (.int .u8 (.ofNat 57)) h) fun s h=>
 q s h) h fun q h=>
 tR (bQ (.c o) (.c q) (.c (.bool false)) .nil h) fun s h=>
 x (T502 a b d e f g j k l m n s) h
def k433_8:KF:=K11 y1 y8 y9 y10 y11 y12 y13 y15 y99 y100 y101 fun c i x h a b d e f g j k l m n=>
 Q k (.int .u8 (.ofNat 95)) h fun o h=>
 gD o true (fun p=>p b h) h fun p h=>
 tR (bQ (.c o) (.c p) (.c (.bool false)) .nil h) fun q h=>
 x (T500 a b d e f g j k l m n q) h
def k433_15:KF:=K11 y1 y8 y9 y10 y11 y12 y17 y99 y100 y101 y159 fun c i x h a b d e f g j k l m n=>
 I n (.ret (T27 f (.iface 489 i1)) h) (.nm (T504 a b d e f g j k l m) h)
def k433_16:KF:=K10 y1 y8 y9 y10 y11 y12 y17 y99 y100 y101 fun c i x h a b d e f g j k l m=>
 .nm (T497 a b d e f g j k l m) h
def k433_14:KF:=K11 y1 y8 y9 y10 y11 y12 y13 y16 y99 y100 y101 fun c i x h a b d e f g j k l m n=>
 tR (cK (.toInt .u64) k h) fun o h=>
 D j o h fun p h=>
 x (T503 a b d e f g j p l m n) h
def k433_13:KF:=K11 y1 y8 y9 y10 y11 y12 y13 y16 y99 y100 y101 fun c i x h a b d e f g j k l m n=>
 tR (cK (.toInt .u8) a h) fun o h=>
 tR (fm k o h) fun p h=>
 I p (.ret (T27 (.int .u64 (.ofNat 0)) (.iface 489 (pi 2))) h) (tR (fm j e h) fun q h=>
 I q (.ret (T27 f (.iface 489 i1)) h) (tR (cK (.toInt .u64) a h) fun s h=>
 tR (gu j s h) fun t h=>
 x (T501 a b d e f g t k l m n) h))
def k433_7:KF:=K10 y1 y8 y9 y10 y11 y12 y13 y99 y100 y101 fun c i x h a b d e f g j k l m=>
 X 1 k m h fun n h=>
 L n h fun o h=>
 x (T499 a b d e f g j o k l m) h
def k433_17:KF:=K10 y1 y8 y9 y10 y11 y12 y13 y99 y100 y101 fun c i x h a b d e f g j k l m=>
 D m i1 h fun n h=>
 .nm (T497 a b d e f g j k l n) h
def k433_6:KF:=K10 y1 y8 y9 y10 y11 y12 y13 y99 y100 y101 fun c i x h a b d e f g j k l m=>
 Y m l h fun n h=>
 I n (x (T497 a b d e f g j k l m) h) (.ex 3 (T498 d g j) h)
def k433_5:KF:=K8 y0 y1 y8 y9 y10 y11 y12 y13 fun c i x h a b d e f g j k=>
 tR (cK (.Xy 5) a h) fun l h=>
 G l h fun m h=>
 x (T497 b d e f g j k l m i0) h
def k433_18:KF:=K2 y13 y169 fun c i x h a b=>
 I b (.ret (T27 (.int .u64 (.ofNat 0)) (.iface 489 (pi 2))) h) (.nm (T334 a) h)
def k433_19:KF:=K1 y13 fun c i x h a=>
 .ret (T27 a .kQ) h
def k433_4:KF:=K6 y0 y1 y2 y8 y9 y10 fun c i x h a b d e f g=>
 tR (cK (.toInt .u64) d h) fun j h=>
 tR (bK .shl (.int .u64 (.ofNat 1)) j h) fun k h=>
 Z k (.int .u64 (.ofNat 1)) h fun l h=>
 x (T496 a b e f g l (.bool false) (.int .u64 (.ofNat 0))) h
def k433_3:KF:=K5 y0 y1 y2 y8 y9 fun c i x h a b d e f=>
 Q b (pi 10) h fun g h=>
 I g (x (T495 a b d e f (.int .u64 (.ofNat 1844674407370955162))) h) (Q b (pi 16) h fun j h=>
 I j (x (T495 a b d e f (.int .u64 (.ofNat 1152921504606846976))) h) (tR (cK (.toInt .u64) b h) fun k h=>
 tR (kX (.int .u64 (.ofNat 18446744073709551615)) k h) fun l h=>
 D l (.int .u64 (.ofNat 1)) h fun m h=>
 x (T495 a b d e f m) h))
def k433_2:KF:=K5 y0 y1 y2 y8 y9 fun c i x h a b d e f=>
 Q d i0 h fun g h=>
 I g (x (T352 a b (pi 64) e f) h) (Y d i0 h fun j h=>
 gD j false (fun k=>k d h) h fun k h=>
 gD j false (fun l=>tR (fH k (pi 64) h) fun m h=>
 l m h) h fun l h=>
 tR (bQ (.c j) (.c (.bool true)) (.c l) .nil h) fun m h=>
 I m (.ret (T27 (.int .u64 (.ofNat 0)) (.iface 489 (pi 4))) h) (x (T352 a b d e f) h))
def k433_0:KF:=K3 y0 y1 y2 fun c i x h a b d=>
 tR (aC a iS h) fun e h=>
 I e (.ret (T27 (.int .u64 (.ofNat 0)) (.iface 489 (pi 2))) h) (Q b i0 h fun f h=>
 x (T352 a b d f a) h)
def x433:AC:=(.ag k433_0 (.seq (.block 0 (.ag k433_1 (.cond r25 .skip (.bad 0)))) (.ag k433_2 (.ag k433_3 (.ag k433_4 (.seq (.ag k433_5 (.block 3 (.loop (.ag k433_6 (.seq (.block 4 (.ag k433_7 (.seq (.block 5 (.ag k433_8 (.cond r106 (.ag k433_9 .skip) (.ag k433_10 (.cond r112 (.ag k433_11 .skip) (.seq (.ops [m d122 r15,
 oc d123 449 [r122],
 o d124 (.bin .le (.c (.int .u8 (.ofNat 97))) r123),
 m d125 r124,
 .g .h7 .hd true d126 (.op (.mv r15)),
 .g .h7 .hd true d127 (.call 449 [r126]),
 .g .h7 .hd true d128 (.op (.bin .le r127 (.c (.int .u8 (.ofNat 122))))),
 o d129 (.pick r125 r128 (.c (.bool false))),
 m d121 r129]) (.ag k433_12 .skip))))))) (.ag k433_13 (.ag k433_14 (.seq (.seq (.ops [m d152 r17,
 m d153 r13,
 o d154 (.bin .lt r152 r153),
 m d155 r154,
 .g .h9 .hb false d156 (.op (.mv r17)),
 .g .h9 .hb false d157 (.op (.mv r11)),
 .g .h9 .hb false d158 (.op (.bin .gt r156 r157)),
 o d159 (.pick r155 (.c (.bool true)) r158)]) (.ag k433_15 .skip)) (.ag k433_16 .skip))))))) (.ag k433_17 .skip)))))) (.seq (.seq (.ops [m d164 r12,
 m d165 r164,
 .g .ha .h5 true d166 (.op (.mv r9)),
 .g .ha .h5 true d167 (.call 450 [r166]),
 .g .ha .h5 true d168 (.op (.un .not r167)),
 o d169 (.pick r165 r168 (.c (.bool false)))]) (.ag k433_18 .skip)) (.ag k433_19 .skip))))))))
def f433:AF:=.mk x433 [.t .h0 .h6,.t .h0 .h7]
def x442:AC:=b442
def f442:AF:=.mk x442 [.t .h0 .h4]
def k443_0:KF:=K2 y0 y1 fun c i x h a b=>
 L b h fun d h=>
 tR (bU a d h) fun e h=>
 .ret (T47 e) h
def x443:AC:=(.ag k443_0 .skip)
def f443:AF:=.mk x443 [.t .h0 .h3]
def x445:AC:=b445
def f445:AF:=.mk x445 [.t .h0 .h6,.t .h0 .h7]
def x446:AC:=b446
def f446:AF:=.mk x446 [.t .h0 .h2]
def x456:AC:=b456
def f456:AF:=.mk x456 [.t .h0 .h4]
def x457:AC:=b457
def f457:AF:=.mk x457 [.t .h0 .h2]
def k3_0:KF:=fun c i x r h=>
 .nm T17 h
def k3_1:KF:=fun c i x r h=>
 C c 4 [] h fun a h=>
 .nm (T1 a) h
def k3_2:KF:=K1 y1 fun c i x h a=>
 C c 5 [] h fun b h=>
 .nm (T21 a b) h
def k3_3:KF:=K2 y1 y2 fun c i x h a b=>
 tR (bK .lO a .dS h) fun d h=>
 I d (.ret (T0 (.bool false)) h) (.nm (T21 a b) h)
def k3_4:KF:=K2 y1 y2 fun c i x h a b=>
 C c 6 [] h fun d h=>
 .nm (T150 a b d) h
def k3_5:KF:=K3 y1 y2 y3 fun c i x h a b d=>
 .nm (T328 a b d i0) h
def k3_8:KF:=K5 y1 y2 y3 y4 y39 fun c i x h a b d e f=>
 I f (.ret (T0 (.bool false)) h) (.nm (T328 a b d e) h)
def k3_7:KF:=K4 y1 y2 y3 y4 fun c i x h a b d e=>
 X 7 d e h fun f h=>
 M 7 f h fun g h=>
 D e i1 h fun j h=>
 C c 7 [g,(pi 3),j] h fun k h=>
 O 31 7 (.k1 (Y7 i0 i0 i0 iS iS .ah .ah)) h fun l h=>
 S 7 l k h fun m h=>
 x (T22 a b d e l) h
def k3_9:KF:=K4 y1 y2 y3 y4 fun c i x h a b d e=>
 D e i1 h fun f h=>
 .nm (T328 a b d f) h
def k3_6:KF:=K4 y1 y2 y3 y4 fun c i x h a b d e=>
 G d h fun f h=>
 Y e f h fun g h=>
 I g (x (T328 a b d e) h) (.ex 0 (T150 a b d) h)
def k3_11:KF:=K5 y1 y2 y3 y6 y7 fun c i x h a b d e f=>
 X 7 d i1 h fun g h=>
 M 7 g h fun j h=>
 G d h fun k h=>
 C c 7 [j,(pi 3),k] h fun l h=>
 C c 8 [a,l] h fun m h=>
 O 35 3 (.k1 (Y3 i0 i0 iS)) h fun n h=>
 S 3 n m h fun o h=>
 x (T493 a b d e f n) h
def k3_10:KF:=K3 y1 y2 y3 fun c i x h a b d=>
 X 7 d i1 h fun e h=>
 M 7 e h fun f h=>
 C c 7 [f,(pi 16),i1] h fun g h=>
 C c 8 [a,g] h fun j h=>
 O 35 3 (.k1 (Y3 i0 i0 iS)) h fun k h=>
 S 3 k j h fun l h=>
 X 7 d i1 h fun m h=>
 M 7 m h fun n h=>
 C c 7 [n,(pi 3),i1] h fun o h=>
 C c 8 [a,o] h fun p h=>
 O 35 3 (.k1 (Y3 i0 i0 iS)) h fun q h=>
 S 3 q p h fun s h=>
 x (T506 a b d k q) h
def Yd:AC:=(.ag k3_0 .skip)
def Ye:AC:=(.ag k3_1 .skip)
def Yf:AC:=(.ag k3_2 .skip)
def Yg:AC:=(.ag k3_3 .skip)
def Yh:AC:=(.ag k3_4 .skip)
def Yi:AC:=(.ag k3_5 .skip)
def oA:AC:=(.ag k3_6 (.seq (.block 1 (.ag k3_7 (.seq (.da [q 0 (m d27 r1),
 q 0 (o d28 (.cV 7 r5)),
 w (oc d29 8 [r27,r28]),
 q 1 (m d30 r2),
 q 1 (o d31 (.cV 7 r5)),
 w (oc d32 9 [r30,r31]),
 q 0 (o d33 (.bin (.Ru [.i,.i,.s]) r29 r32)),
 q 0 (m d34 r33),
 q 0 (.g .h2 .h2 false d35 (.op (.mv r1))),
 q 0 (.g .h2 .h2 false d36 (.op (.mv r2))),
 w (.g .h2 .h2 false d37 (.call 10 [r35,r36])),
 q 0 (.g .h2 .h2 false d38 (.op (.un .not r37))),
 q 0 (o d39 (.pick r34 (.c (.bool true)) r38))]) (.ag k3_8 .skip)))) (.ag k3_9 .skip)))
def UL:AC:=(.ag k3_10 (.ag k3_11 (.seq (.da [qf 0 d60 0 r6,
 ql 0 d61 r60,
 q 0 (o d62 (.bin .eq r61 a1)),
 q 0 (m d63 r62),
 q 0 (.g .h3 .hf true d64 (.op (.br 0 r7))),
 q 0 (.g .h3 .hf true d65 (.op (.bq r64))),
 q 0 (.g .h3 .hf true d66 (.op (.bin .eq r65 (.c (pi 28))))),
 q 0 (o d67 (.pick r63 r66 (.c (.bool false)))),
 q 0 (m d68 r67),
 q 0 (.g .h4 .h4 true d71 (.op (.mv r3))),
 q 0 (.g .h4 .h4 true d72 (.op (.bF 7 r71 a1))),
 q 0 (.g .h4 .h4 true d73 (.op (.cV 7 r72))),
 q 0 (.g .h4 .h4 true d74 (.op (.mv r3))),
 q 0 (.g .h4 .h4 true d75 (.op (.len r74))),
 w (.g .h4 .h4 true d76 (.call 7 [r73,(.c (pi 3)),r75])),
 q 1 (.g .h4 .h4 true d70 (.op (.mv r2))),
 w (.g .h4 .h4 true d77 (.call 9 [r70,r76])),
 q 2 (.g .h4 .h4 true d69 (.op (.cV 3 r8))),
 q 0 (.g .h4 .h4 true d78 (.op (.bin (.WV [.i,.i,.s]) r69 r77))),
 q 0 (o d79 (.pick r68 r78 (.c (.bool false)))),
 q 0 (m d80 r79),
 q 0 (.g .h5 .h0 true d81 (.op (.mv r1))),
 w (.g .h5 .h0 true d82 (.call 11 [r81,(.c .dS)])),
 q 0 (.g .h5 .h0 true d83 (.op (.un .not r82))),
 q 0 (o d84 (.pick r80 r83 (.c (.bool false)))),
 q 0 (m d85 r84),
 q 0 (.g .h5 .h5 true d86 (.op (.mv r1))),
 w (.g .h5 .h5 true d87 (.call 12 [r86,(.c (pi 3))])),
 q 1 (.g .h5 .h5 true d88 (.op (.mv r3))),
 q 1 (.g .h5 .h5 true d89 (.op (.len r88))),
 q 0 (.g .h5 .h5 true d90 (.op (.bin .eq r87 r89))),
 q 0 (o d91 (.pick r85 r90 (.c (.bool false)))),
 q 0 (m d92 r91),
 q 0 (.g .h5 .hc true d93 (.op (.mv r1))),
 w (.g .h5 .hc true d94 (.call 12 [r93,(.c (pi 4))])),
 q 0 (.g .h5 .hc true d95 (.op (.bin .eq r94 a0))),
 q 0 (o d96 (.pick r92 r95 (.c (.bool false)))),
 q 0 (m d97 r96),
 w (.g .h6 .h1 true d98 (.call 13 [])),
 q 0 (o d99 (.pick r97 r98 (.c (.bool false)))),
 q 0 (m d0 r99)]) .ret)))
def Vj:F1:=(.mk .none .none .none .none f4 f5 f6 f7 f8 f9 f10 f11 f12 f13 f14 f15)
def Vk:F1:=(.mk f16 f17 f18 f19 f20 f21 f22 f23 f24 f25 f26 f27 f28 f29 f30 f31)
def Vl:F1:=(.mk f32 f33 f34 f35 f36 f37 f38 f39 .none .none .none .none .none f45 f46 f47)
def Vm:F1:=(.mk f48 f49 f50 f51 f52 f53 f54 f55 f56 f57 f58 f59 f60 f61 f62 f63)
def Vn:F1:=(.mk f64 f65 f66 f67 .none .none .none .none f72 .none .none f75 f76 f77 f78 f79)
def Vo:F1:=(.mk f80 f81 f82 f83 f84 f85 f86 f87 f88 f89 f90 f91 f92 f93 f94 f95)
def Vp:F1:=(.mk f96 f97 f98 f99 f100 f101 f102 f103 f104 f105 f106 f107 f108 f109 f110 .none)
def Vq:F1:=(.mk .none .none f114 f115 f116 f117 f118 f119 f120 f121 f122 f123 .none .none f126 f127)
def Vr:F1:=(.mk f128 f129 f130 f131 f132 f133 f134 f135 f136 f137 f138 .none f140 f141 f142 f143)
def Vs:F1:=(.mk f144 f145 f146 f147 f148 f149 f150 f151 f152 f153 f154 f155 f156 f157 f158 f159)
def KD:F1:=(.mk f160 f161 f162 f163 f164 f165 f166 f167 f168 f169 f170 f171 f172 f173 f174 f175)
def KE:F1:=(.mk f176 f177 f178 f179 f180 f181 f182 f183 f184 f185 f186 f187 f188 f189 f190 .none)
def KG:F1:=(.mk .none .none .none .none .none .none .none f199 .none f201 f202 f203 f204 f205 f206 f207)
def KH:F1:=(.mk f208 f209 f210 f211 f212 f213 f214 .none .none f217 f218 f219 f220 f221 f222 f223)
def KI:F1:=(.mk f224 f225 f226 f227 f228 f229 f230 f231 f232 f233 f234 f235 f236 f237 f238 f239)
def KJ:F1:=(.mk f240 f241 f242 f243 f244 f245 f246 f247 f248 f249 f250 f251 f252 f253 f254 f255)
def KL:F1:=(.mk f256 f257 f258 f259 f260 f261 f262 f263 f264 f265 f266 f267 .none f269 f270 .none)
def KM:F1:=(.mk f272 f273 f274 f275 .none f277 f278 f279 .none .none .none .none .none .none f286 f287)
def KN:F1:=(.mk f288 f289 f290 f291 .none .none .none .none .none .none .none f299 f300 f301 f302 .none)
def KP:F1:=(.mk f304 f305 f306 f307 f308 f309 f310 f311 f312 f313 f314 f315 .none .none .none .none)
def KQ:F1:=(.mk .none f321 .none .none f324 f325 f326 f327 f328 .none f330 f331 f332 f333 .none f335)
def KR:F1:=(.mk f336 f337 f338 f339 f340 f341 f342 f343 f344 f345 f346 f347 f348 f349 f350 f351)
def KS:F1:=(.mk f352 f353 f354 f355 f356 f357 f358 f359 f360 f361 f362 .none f364 f365 f366 f367)
def KU:F1:=(.mk .none .none .none .none .none f373 .none f375 f376 f377 f378 f379 f380 f381 f382 f383)
def KW:F1:=(.mk .none f385 f386 f387 .none .none .none f391 f392 .none .none f395 f396 f397 f398 f399)
def KX:F1:=(.mk f400 f401 f402 f403 .none .none .none .none .none f409 .none .none f412 f413 f414 f415)
def KY:F1:=(.mk f416 .none .none f419 .none f421 .none .none f424 .none f426 f427 f428 f429 f430 f431)
def KZ:F1:=(.mk f432 f433 .none .none .none .none .none .none .none .none f442 f443 .none f445 f446 .none)
def La:F1:=(.mk f448 .none .none .none .none .none .none .none f456 f457 .none .none .none .none .none .none)
def Lb:F2:=.mk Vj Vk Vl Vm Vn Vo Vp Vq Vr Vs KD KE KG KH KI KJ
def Lc:F2:=.mk KL KM KN KP KQ KR KS KU KW KX KY KZ La .nil .nil .nil
def pg:Pg:=.mk (.mk Lb Lc .nil .nil .nil .nil .nil .nil .nil .nil .nil .nil .nil .nil .nil .nil) []
end
end Go.Am.Seat
