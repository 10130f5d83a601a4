/- The program's code in a form that runs fast, written by program. Nothing is asked. -/
import Derived.Test.YtphjcbegmaekbaaGreatDoorFast0
set_option linter.all false
namespace Go.Am.Seat
set_option maxRecDepth 20000
noncomputable section
def k192_1:KF:=K2 y1 y2 fun c i x h a b=>
 M 5 a h fun d h=>
 C c 281 [d] h fun e h=>
 tR (cZ e h) fun f h=>
 x (T227 a b f) h
def k192_5:KF:=K4 y2 y5 y6 y9 fun c i x h a b d e=>
 A 0 b h fun f h=>
 W f i1 h fun g h=>
 X 5 d i1 h fun j h=>
 M 5 j h fun k h=>
 C c 283 [k] h fun l h=>
 E 0 l h fun m h=>
 E 1 l h fun n h=>
 E 2 l h fun o h=>
 A 1 b h fun p h=>
 W p m h fun q h=>
 .nm (T231 a b n o e) h
def k192_7:KF:=K3 y2 y5 y6 fun c i x h a b d=>
 A 0 b h fun e h=>
 W e (pi 2) h fun f h=>
 O 336 4 (.k1 (Y4 i0 iS i0 .aj)) h fun g h=>
 X 5 d i1 h fun j h=>
 M 5 j h fun k h=>
 C c 284 [k] h fun l h=>
 E 0 l h fun m h=>
 E 1 l h fun n h=>
 E 2 l h fun o h=>
 S 4 g m h fun p h=>
 M 4 g h fun q h=>
 tR (bs 336 4 1 [i0,iS,i0,.aj] [.mk 0 4 (.c q)] h) fun s h=>
 A 2 b h fun t h=>
 W t s h fun v h=>
 tR (da 5 (.c d) (.some (.c (pi 2))) .none .none .nil h) fun w h=>
 .nm (T231 a b n o w) h
def k192_13:KF:=K6 y2 y5 y6 y7 y8 y11 fun c i x h a b d e f g=>
 D g i1 h fun j h=>
 .nm (T235 a b d e f j) h
def k192_12:KF:=K4 y2 y5 y6 y11 fun c i x h a b d e=>
 X 5 d e h fun f h=>
 A 3 f h fun g h=>
 L g h fun j h=>
 X 5 j i0 h fun k h=>
 M 5 k h fun l h=>
 C c 283 [l] h fun m h=>
 E 0 m h fun n h=>
 E 1 m h fun o h=>
 E 2 m h fun p h=>
 tR (dH o i0 h) fun q h=>
 I q (.ex 1 (T234 a b d o p) h) (O 336 4 (.k1 (Y4 i0 iS i0 .aj)) h fun s h=>
 X 5 d e h fun t h=>
 A 3 t h fun v h=>
 L v h fun w h=>
 X 5 w i1 h fun y h=>
 M 5 y h fun z h=>
 C c 284 [z] h fun a0 h=>
 E 0 a0 h fun a1 h=>
 E 1 a0 h fun a2 h=>
 E 2 a0 h fun a3 h=>
 S 4 s a1 h fun a4 h=>
 A 3 b h fun a5 h=>
 L a5 h fun a6 h=>
 tR (bs 9 1 1 [iS] [.mk 0 1 (.c n)] h) fun a7 h=>
 tR (eI 9 1 a6 a7 h) fun a8 h=>
 A 3 b h fun a9 h=>
 W a9 a8 h fun b0 h=>
 A 2 b h fun b1 h=>
 L b1 h fun b2 h=>
 M 4 s h fun b3 h=>
 tR (bs 336 4 1 [i0,iS,i0,.aj] [.mk 0 4 (.c b3)] h) fun b4 h=>
 tR (eI 336 4 b2 b4 h) fun b5 h=>
 A 2 b h fun b6 h=>
 W b6 b5 h fun b7 h=>
 x (T235 a b d a2 a3 e) h)
def k192_11:KF:=K6 y2 y5 y6 y7 y8 y11 fun c i x h a b d e f g=>
 G d h fun j h=>
 Z j i1 h fun k h=>
 Y g k h fun l h=>
 gD l true (fun m=>m e h) h fun m h=>
 gD l true (fun n=>Q m i0 h fun o h=>
 n o h) h fun n h=>
 tR (eJ (.c l) (.c n) (.c (.bool false)) .nil h) fun o h=>
 I o (x (T236 a b d g) h) (.ex 1 (T234 a b d e f) h)
def k192_10:KF:=K5 y2 y5 y6 y7 y8 fun c i x h a b d e f=>
 x (T235 a b d e f i1) h
def k192_14:KF:=K5 y2 y5 y6 y7 y8 fun c i x h a b d e f=>
 G d h fun g h=>
 Z g i1 h fun j h=>
 tR (da 5 (.c d) (.some (.c j)) .none .none .nil h) fun k h=>
 .nm (T231 a b e f k) h
def k192_9:KF:=K5 y2 y5 y6 y7 y8 fun c i x h a b d e f=>
 A 0 b h fun g h=>
 W g (pi 3) h fun j h=>
 x (T234 a b d e f) h
def k192_17:KF:=K5 y2 y5 y6 y7 y8 fun c i x h a b d e f=>
 Q e i0 h fun g h=>
 I g (X 5 d (pi 2) h fun j h=>
 A 3 j h fun k h=>
 L k h fun l h=>
 C c 285 [l] h fun m h=>
 E 0 m h fun n h=>
 E 1 m h fun o h=>
 E 2 m h fun p h=>
 A 5 b h fun q h=>
 W q n h fun s h=>
 tR (da 5 (.c d) (.some (.c (pi 3))) .none .none .nil h) fun t h=>
 .nm (T231 a b o p t) h) (tR (da 5 (.c d) (.some (.c (pi 3))) .none .none .nil h) fun j h=>
 .nm (T231 a b e f j) h)
def k192_16:KF:=K3 y2 y5 y6 fun c i x h a b d=>
 A 0 b h fun e h=>
 W e (pi 4) h fun f h=>
 X 5 d i1 h fun g h=>
 A 3 g h fun j h=>
 L j h fun k h=>
 C c 285 [k] h fun l h=>
 E 0 l h fun m h=>
 E 1 l h fun n h=>
 E 2 l h fun o h=>
 A 4 b h fun p h=>
 W p m h fun q h=>
 x (T234 a b d n o) h
def k192_19:KF:=K5 y2 y5 y6 y7 y8 fun c i x h a b d e f=>
 A 0 b h fun g h=>
 W g (pi 5) h fun j h=>
 tR (da 5 (.c d) (.some (.c i1)) .none .none .nil h) fun k h=>
 .nm (T231 a b e f k) h
def k192_21:KF:=K5 y2 y5 y6 y7 y8 fun c i x h a b d e f=>
 A 0 b h fun g h=>
 W g (pi 6) h fun j h=>
 tR (da 5 (.c d) (.some (.c i1)) .none .none .nil h) fun k h=>
 .nm (T231 a b e f k) h
def k192_27:KF:=K6 y2 y5 y6 y7 y8 y14 fun c i x h a b d e f g=>
 D g i1 h fun j h=>
 .nm (T241 a b d e f j) h
def k192_26:KF:=K4 y2 y5 y6 y14 fun c i x h a b d e=>
 O 340 3 (.k1 (Y3 iS iS iS)) h fun f h=>
 X 5 d e h fun g h=>
 A 3 g h fun j h=>
 L j h fun k h=>
 C c 286 [k] h fun l h=>
 E 0 l h fun m h=>
 E 1 l h fun n h=>
 E 2 l h fun o h=>
 S 3 f m h fun p h=>
 A 6 b h fun q h=>
 L q h fun s h=>
 M 3 f h fun t h=>
 tR (bs 340 3 1 [iS,iS,iS] [.mk 0 3 (.c t)] h) fun v h=>
 tR (eI 340 3 s v h) fun w h=>
 A 6 b h fun y h=>
 W y w h fun z h=>
 x (T241 a b d n o e) h
def k192_25:KF:=K6 y2 y5 y6 y7 y8 y14 fun c i x h a b d e f g=>
 G d h fun j h=>
 Z j i1 h fun k h=>
 Y g k h fun l h=>
 gD l true (fun m=>m e h) h fun m h=>
 gD l true (fun n=>Q m i0 h fun o h=>
 n o h) h fun n h=>
 tR (eJ (.c l) (.c n) (.c (.bool false)) .nil h) fun o h=>
 I o (x (T242 a b d g) h) (.ex 3 (T234 a b d e f) h)
def k192_24:KF:=K5 y2 y5 y6 y7 y8 fun c i x h a b d e f=>
 x (T241 a b d e f (pi 2)) h
def k192_28:KF:=K5 y2 y5 y6 y7 y8 fun c i x h a b d e f=>
 G d h fun g h=>
 Z g i1 h fun j h=>
 tR (da 5 (.c d) (.some (.c j)) .none .none .nil h) fun k h=>
 .nm (T231 a b e f k) h
def k192_23:KF:=K3 y2 y5 y6 fun c i x h a b d=>
 A 0 b h fun e h=>
 W e (pi 7) h fun f h=>
 X 5 d i1 h fun g h=>
 A 3 g h fun j h=>
 L j h fun k h=>
 C c 285 [k] h fun l h=>
 E 0 l h fun m h=>
 E 1 l h fun n h=>
 E 2 l h fun o h=>
 A 4 b h fun p h=>
 W p m h fun q h=>
 x (T234 a b d n o) h
def k192_22:KF:=K7 y2 y5 y6 y7 y8 y9 y28 fun c i x h a b d e f g j=>
 tR (bN j (.str [103,114,111,117,112]) h) fun k h=>
 x (T240 a b d e f g k) h
def k192_20:KF:=K7 y2 y5 y6 y7 y8 y9 y28 fun c i x h a b d e f g j=>
 tR (bN j (.str [100,105,115,116,105,110,99,116]) h) fun k h=>
 x (T239 a b d e f g j k) h
def k192_18:KF:=K7 y2 y5 y6 y7 y8 y9 y28 fun c i x h a b d e f g j=>
 tR (bN j (.str [117,110,105,111,110]) h) fun k h=>
 x (T238 a b d e f g j k) h
def k192_15:KF:=K7 y2 y5 y6 y7 y8 y9 y28 fun c i x h a b d e f g j=>
 tR (bN j (.str [106,111,105,110]) h) fun k h=>
 x (T237 a b d e f g j k) h
def k192_8:KF:=K7 y2 y5 y6 y7 y8 y9 y28 fun c i x h a b d e f g j=>
 tR (bN j (.str [112,114,111,106,101,99,116]) h) fun k h=>
 x (T233 a b d e f g j k) h
def k192_6:KF:=K7 y2 y5 y6 y7 y8 y9 y28 fun c i x h a b d e f g j=>
 tR (bN j (.str [102,105,108,116,101,114]) h) fun k h=>
 x (T232 a b d e f g j k) h
def k192_4:KF:=K7 y2 y5 y6 y7 y8 y9 y28 fun c i x h a b d e f g j=>
 tR (bN j (.str [116,97,98,108,101]) h) fun k h=>
 x (T230 a b d e f g j k) h
def k192_3:KF:=K7 y1 y2 y5 y6 y7 y8 y9 fun c i x h a b d e f g j=>
 M 5 a h fun k h=>
 C c 282 [k] h fun l h=>
 x (T229 b d e f g j l) h
def k192_32:KF:=K6 y2 y5 y7 y8 y9 y16 fun c i x h a b d e f g=>
 D g i1 h fun j h=>
 .nm (T243 a b d e f j) h
def k192_31:KF:=K4 y2 y5 y9 y16 fun c i x h a b d e=>
 O 108 8 (.k1 (Y8 i0 iS .aj .aj .aj .aj .aj .aj)) h fun f h=>
 X 5 d e h fun g h=>
 M 5 g h fun j h=>
 C c 192 [j] h fun k h=>
 E 0 k h fun l h=>
 E 1 k h fun m h=>
 E 2 k h fun n h=>
 S 8 f l h fun o h=>
 A 7 b h fun p h=>
 L p h fun q h=>
 M 8 f h fun s h=>
 tR (bs 108 8 1 [i0,iS,.aj,.aj,.aj,.aj,.aj,.aj] [.mk 0 8 (.c s)] h) fun t h=>
 tR (eI 108 8 q t h) fun v h=>
 A 7 b h fun w h=>
 W w v h fun y h=>
 x (T243 a b m n d e) h
def k192_30:KF:=K6 y2 y5 y7 y8 y9 y16 fun c i x h a b d e f g=>
 G f h fun j h=>
 Y g j h fun k h=>
 gD k true (fun l=>l d h) h fun l h=>
 gD k true (fun m=>Q l i0 h fun n h=>
 m n h) h fun m h=>
 tR (eJ (.c k) (.c m) (.c (.bool false)) .nil h) fun n h=>
 I n (x (T244 a b f g) h) (.ex 5 (T245 a b d e) h)
def k192_29:KF:=K5 y2 y5 y7 y8 y9 fun c i x h a b d e f=>
 x (T243 a b d e f i0) h
def k192_33:KF:=K4 y2 y5 y7 y8 fun c i x h a b d e=>
 tR (dH d i0 h) fun f h=>
 I f (U [i0,iS,.aj,.aj,.aj,.aj,.aj,.aj] [] h fun g h=>
 S 8 a g h fun j h=>
 .ret (T101 a d e) h) (M 8 b h fun g h=>
 S 8 a g h fun j h=>
 .ret (T101 a i0 i0) h)
def k192_2:KF:=K2 y1 y2 fun c i x h a b=>
 U [i0,iS,.aj,.aj,.aj,.aj,.aj,.aj] [] h fun d h=>
 O 108 8 (.k1 (Y8 i0 iS .aj .aj .aj .aj .aj .aj)) h fun e h=>
 S 8 e d h fun f h=>
 A 3 a h fun g h=>
 L g h fun j h=>
 x (T228 a b e j i0 i0 .aj) h
def k192_0:KF:=K1 y0 fun c i x h a=>
 B 299 a h fun b h=>
 O 108 8 (.k1 (Y8 i0 iS .aj .aj .aj .aj .aj .aj)) h fun d h=>
 x (T104 b d) h
def x192:AC:=(.ah k192_0 (.seq (.ah k192_1 (.cond r20 (.seq (.jQ [q 0 (o d21 (.build [i0,iS,.aj,.aj,.aj,.aj,.aj,.aj] [])),
 w (o .no (.vg 8 r2 r21)),
 qf 1 d22 4 r1,
 ql 1 d23 r22,
 q 0 (m d3 (.c (pi 12))),
 q 0 (m d4 r23)]) .ret) .skip)) (.ah k192_2 (.seq (.ah k192_3 (.block 0 (.ah k192_4 (.cond r29 (.ah k192_5 .skip) (.ah k192_6 (.cond r41 (.ah k192_7 .skip) (.ah k192_8 (.cond r57 (.ah k192_9 (.seq (.ah k192_10 (.block 1 (.loop (.ah k192_11 (.ah k192_12 (.ah k192_13 .skip)))))) (.ah k192_14 .skip))) (.ah k192_15 (.cond r114 (.ah k192_16 (.ah k192_17 .skip)) (.ah k192_18 (.cond r141 (.ah k192_19 .skip) (.ah k192_20 (.cond r146 (.ah k192_21 .skip) (.ah k192_22 (.cond r151 (.ah k192_23 (.seq (.ah k192_24 (.block 3 (.loop (.ah k192_25 (.ah k192_26 (.ah k192_27 .skip)))))) (.ah k192_28 .skip))) .skip)))))))))))))))) (.seq (.ah k192_29 (.block 5 (.loop (.ah k192_30 (.ah k192_31 (.ah k192_32 .skip)))))) (.ah k192_33 .skip))))))
def f192:AF:=.mk x192 [.agg 8 .h0 .h2,.t .h0 .h3,.t .h0 .h4]
def k193_3:KF:=K1 y1 fun c i x h a=>
 A 1 a h fun b h=>
 L b h fun d h=>
 tR (db (.str [40,116,97,98,108,101,32]) d h) fun e h=>
 tR (db e (.str [41]) h) fun f h=>
 .ret (T1 f) h
def k193_5:KF:=K1 y1 fun c i x h a=>
 A 2 a h fun b h=>
 L b h fun d h=>
 G d h fun e h=>
 Q e i1 h fun f h=>
 I f (tR (db (.str [40,102,105,108,116,101,114]) (.str [32]) h) fun g h=>
 A 2 a h fun j h=>
 L j h fun k h=>
 X 4 k i0 h fun l h=>
 M 4 l h fun m h=>
 C c 288 [m] h fun n h=>
 C c 287 [n] h fun o h=>
 tR (db g o h) fun p h=>
 .nm (T165 a p) h) (.nm (T165 a (.str [40,102,105,108,116,101,114])) h)
def k193_8:KF:=K4 y1 y3 y4 y44 fun c i x h a b d e=>
 I e (.nm (T220 a b d) h) (.ex 1 (T220 a b d) h)
def k193_9:KF:=K3 y1 y3 y4 fun c i x h a b d=>
 D d i1 h fun e h=>
 .nm (T220 a b e) h
def k193_7:KF:=K1 y1 fun c i x h a=>
 x (T220 a (.str [40,112,114,111,106,101,99,116]) i0) h
def k193_12:KF:=K1 y1 fun c i x h a=>
 .nm (T165 a (.str [40,117,110,105,111,110])) h
def k193_14:KF:=K1 y1 fun c i x h a=>
 .nm (T165 a (.str [40,100,105,115,116,105,110,99,116])) h
def k193_19:KF:=K3 y1 y3 y5 fun c i x h a b d=>
 D d i1 h fun e h=>
 .nm (T254 a b e) h
def k193_18:KF:=K3 y1 y3 y5 fun c i x h a b d=>
 A 6 a h fun e h=>
 L e h fun f h=>
 X 3 f d h fun g h=>
 M 3 g h fun j h=>
 O 340 3 (.k1 (Y3 iS iS iS)) h fun k h=>
 S 3 k j h fun l h=>
 tR (db b (.str [32,40]) h) fun m h=>
 A 0 k h fun n h=>
 L n h fun o h=>
 tR (db m o h) fun p h=>
 tR (db p (.str [32]) h) fun q h=>
 A 1 k h fun s h=>
 L s h fun t h=>
 tR (db q t h) fun v h=>
 A 1 k h fun w h=>
 L w h fun y h=>
 tR (Bq y (.str [99,111,117,110,116]) h) fun z h=>
 I z (tR (db v (.str [32]) h) fun a0 h=>
 A 2 k h fun a1 h=>
 L a1 h fun a2 h=>
 tR (db a0 a2 h) fun a3 h=>
 tR (db a3 (.str [41]) h) fun a4 h=>
 x (T254 a a4 d) h) (tR (db v (.str [41]) h) fun a0 h=>
 x (T254 a a0 d) h)
def k193_17:KF:=K3 y1 y3 y5 fun c i x h a b d=>
 A 6 a h fun e h=>
 L e h fun f h=>
 G f h fun g h=>
 Y d g h fun j h=>
 I j (x (T254 a b d) h) (.ex 3 (T165 a b) h)
def k193_16:KF:=K1 y1 fun c i x h a=>
 A 4 a h fun b h=>
 L b h fun d h=>
 C c 289 [d] h fun e h=>
 tR (db (.str [40,103,114,111,117,112,32]) e h) fun f h=>
 x (T254 a f i0) h
def k193_20:KF:=fun c i x r h=>
 .ret (T1 iS) h
def k193_15:KF:=K2 y1 y9 fun c i x h a b=>
 Q b (pi 7) h fun d h=>
 x (T253 a d) h
def k193_13:KF:=K2 y1 y9 fun c i x h a b=>
 Q b (pi 6) h fun d h=>
 x (T252 a b d) h
def k193_11:KF:=K2 y1 y9 fun c i x h a b=>
 Q b (pi 5) h fun d h=>
 x (T251 a b d) h
def k193_10:KF:=K2 y1 y9 fun c i x h a b=>
 Q b (pi 4) h fun d h=>
 x (T250 a b d) h
def k193_6:KF:=K2 y1 y9 fun c i x h a b=>
 Q b (pi 3) h fun d h=>
 x (T249 a b d) h
def k193_4:KF:=K2 y1 y9 fun c i x h a b=>
 Q b (pi 2) h fun d h=>
 x (T248 a b d) h
def k193_2:KF:=K2 y1 y9 fun c i x h a b=>
 Q b i1 h fun d h=>
 x (T247 a b d) h
def k193_1:KF:=K1 y1 fun c i x h a=>
 A 0 a h fun b h=>
 L b h fun d h=>
 x (T246 a d) h
def k193_22:KF:=K3 y1 y3 y7 fun c i x h a b d=>
 A 7 a h fun e h=>
 L e h fun f h=>
 G f h fun g h=>
 Y d g h fun j h=>
 I j (tR (db b (.str [32]) h) fun k h=>
 A 7 a h fun l h=>
 L l h fun m h=>
 X 8 m d h fun n h=>
 M 8 n h fun o h=>
 C c 193 [o] h fun p h=>
 tR (db k p h) fun q h=>
 D d i1 h fun s h=>
 .nm (T255 a q s) h) (.ex 5 (T255 a b d) h)
def k193_21:KF:=K2 y1 y3 fun c i x h a b=>
 x (T255 a b i0) h
def k193_23:KF:=K1 y3 fun c i x h a=>
 tR (db a (.str [41]) h) fun b h=>
 .ret (T1 b) h
def k193_0:KF:=K1 y0 fun c i x h a=>
 B 108 a h fun b h=>
 x (T162 b) h
def x193:AC:=(.ah k193_0 (.seq (.ah k193_1 (.block 0 (.ah k193_2 (.cond r10 (.ah k193_3 .skip) (.ah k193_4 (.cond r16 (.ah k193_5 .skip) (.ah k193_6 (.cond r31 (.ah k193_7 (.block 1 (.loop (.seq (.seq (.ops [m d33 r4,
 of d34 3 r1,
 ol d35 r34,
 o d36 (.len r35),
 o d37 (.bin .lt r33 r36),
 m d38 r37,
 .g .h2 .h6 true d39 (.op (.mv r4)),
 .g .h2 .h6 true d40 (.op (.dh 2 r1)),
 .g .h2 .h6 true d41 (.op (.cY r40)),
 .g .h2 .h6 true d42 (.op (.len r41)),
 .g .h2 .h6 true d43 (.op (.bin .lt r39 r42)),
 o d44 (.pick r38 r43 (.c (.bool false)))]) (.ah k193_8 .skip)) (.seq (.block 2 (.jQ [qf 0 d56 2 r1,
 ql 0 d57 r56,
 q 0 (m d58 r4),
 q 0 (o d59 (.dn 4 r57 r58)),
 q 0 (o d60 (.kY 4 r59)),
 w (oc d61 288 [r60]),
 w (oc d62 287 [r61]),
 q 2 (m d47 r3),
 q 2 (o d48 (.bin .cat r47 (.c (.str [32,40])))),
 qf 2 d49 3 r1,
 ql 2 d50 r49,
 q 2 (m d51 r4),
 q 2 (o d52 (.dn 1 r50 r51)),
 ql 2 d53 r52,
 q 2 (o d54 (.bin .cat r48 r53)),
 q 2 (o d55 (.bin .cat r54 (.c (.str [32])))),
 q 0 (o d63 (.bin .cat r55 r62)),
 q 0 (o d64 (.bin .cat r63 (.c (.str [41])))),
 q 0 (m d3 r64)])) (.ah k193_9 .skip)))))) (.ah k193_10 (.cond r65 (.jQ [qf 0 d67 4 r1,
 ql 0 d68 r67,
 w (oc d69 289 [r68]),
 qf 1 d72 5 r1,
 ql 1 d73 r72,
 w (oc d74 289 [r73]),
 q 1 (o d70 (.bin .cat (.c (.str [40,106,111,105,110,32])) r69)),
 q 1 (o d71 (.bin .cat r70 (.c (.str [32])))),
 q 0 (o d75 (.bin .cat r71 r74)),
 q 0 (m d3 r75)]) (.ah k193_11 (.cond r76 (.ah k193_12 .skip) (.ah k193_13 (.cond r78 (.ah k193_14 .skip) (.ah k193_15 (.cond r80 (.ah k193_16 (.block 3 (.loop (.ah k193_17 (.ah k193_18 (.ah k193_19 .skip)))))) (.ah k193_20 .skip))))))))))))))))) (.seq (.ah k193_21 (.block 5 (.loop (.ah k193_22 .skip)))) (.ah k193_23 .skip))))
def f193:AF:=.mk x193 [.t .h0 .h2]
def k194_6:KF:=K3 y0 y3 y4 fun c i x h a b d=>
 D d i1 h fun e h=>
 .nm (T4 a b e) h
def k194_5:KF:=K3 y0 y3 y4 fun c i x h a b d=>
 Y d b h fun e h=>
 I e (X 2 a d h fun f h=>
 A 0 f h fun g h=>
 L g h fun j h=>
 X 2 a b h fun k h=>
 A 0 k h fun l h=>
 L l h fun m h=>
 tR (bN j m h) fun n h=>
 I n (.ret (T1 (pi 21)) h) (x (T4 a b d) h)) (.ex 2 (T3 a b) h)
def k194_4:KF:=K2 y0 y3 fun c i x h a b=>
 x (T4 a b i0) h
def k194_7:KF:=K2 y0 y3 fun c i x h a b=>
 X 2 a b h fun d h=>
 A 1 d h fun e h=>
 L e h fun f h=>
 C c 132 [f] h fun g h=>
 tR (dH g i0 h) fun j h=>
 I j (.ret (T1 g) h) (.nm (T3 a b) h)
def k194_3:KF:=K2 y0 y3 fun c i x h a b=>
 X 2 a b h fun d h=>
 A 0 d h fun e h=>
 L e h fun f h=>
 C c 129 [f] h fun g h=>
 tR (cZ g h) fun j h=>
 I j (.ret (T1 (pi 20)) h) (x (T3 a b) h)
def k194_8:KF:=K2 y0 y3 fun c i x h a b=>
 D b i1 h fun d h=>
 .nm (T3 a d) h
def k194_2:KF:=K2 y0 y3 fun c i x h a b=>
 G a h fun d h=>
 Y b d h fun e h=>
 I e (x (T3 a b) h) (.ex 0 T15 h)
def k194_1:KF:=K1 y0 fun c i x h a=>
 x (T3 a i0) h
def k194_9:KF:=fun c i x r h=>
 .ret (T1 i0) h
def k194_0:KF:=K1 y0 fun c i x h a=>
 x (T0 a) h
def x194:AC:=(.ah k194_0 (.seq (.ah k194_1 (.block 0 (.loop (.ah k194_2 (.seq (.block 1 (.ah k194_3 (.seq (.ah k194_4 (.block 2 (.loop (.ah k194_5 (.ah k194_6 .skip))))) (.ah k194_7 .skip)))) (.ah k194_8 .skip)))))) (.ah k194_9 .skip)))
def f194:AF:=.mk x194 [.t .h0 .h2]
def k195_4:KF:=K4 y1 y2 y7 y8 fun c i x h a b d e=>
 D e i1 h fun f h=>
 .nm (T257 a b d f) h
def k195_3:KF:=K4 y1 y2 y7 y8 fun c i x h a b d e=>
 A 7 b h fun f h=>
 L f h fun g h=>
 X 8 g e h fun j h=>
 M 8 j h fun k h=>
 C c 195 [k,a] h fun l h=>
 E 0 l h fun m h=>
 E 1 l h fun n h=>
 E 2 l h fun o h=>
 tR (dH n i0 h) fun p h=>
 I p (.ret (T126 .aj n o) h) (tR (bs 28 1 1 [.aj] [.mk 0 1 (.c m)] h) fun q h=>
 tR (eI 28 1 d q h) fun s h=>
 x (T257 a b s e) h)
def k195_2:KF:=K4 y1 y2 y7 y8 fun c i x h a b d e=>
 A 7 b h fun f h=>
 L f h fun g h=>
 G g h fun j h=>
 Y e j h fun k h=>
 I k (x (T257 a b d e) h) (.ex 0 (T256 a b d) h)
def k195_1:KF:=K3 y1 y2 y7 fun c i x h a b d=>
 x (T257 a b d i0) h
def k195_10:KF:=K3 y1 y2 y12 fun c i x h a b d=>
 D d i1 h fun e h=>
 .nm (T260 a b e) h
def k195_9:KF:=K3 y1 y2 y12 fun c i x h a b d=>
 X 2 a d h fun e h=>
 A 0 e h fun f h=>
 L f h fun g h=>
 A 1 b h fun j h=>
 L j h fun k h=>
 tR (bN g k h) fun l h=>
 I l (tR (bs 119 2 0 [] [] h) fun m h=>
 X 2 a d h fun n h=>
 A 1 n h fun o h=>
 L o h fun p h=>
 tR (eI 119 2 m p h) fun q h=>
 .ret (T126 q i0 iS) h) (x (T260 a b d) h)
def k195_8:KF:=K3 y1 y2 y12 fun c i x h a b d=>
 G a h fun e h=>
 Y d e h fun f h=>
 I f (x (T260 a b d) h) (.ex 3 (T1 b) h)
def k195_7:KF:=K2 y1 y2 fun c i x h a b=>
 x (T260 a b i0) h
def k195_11:KF:=K1 y2 fun c i x h a=>
 A 1 a h fun b h=>
 L b h fun d h=>
 .ret (T126 .aj (pi 20) d) h
def k195_14:KF:=K2 y7 y13 fun c i x h a b=>
 tR (dH b i1 h) fun d h=>
 I d (.ret (T126 .aj (pi 22) iS) h) (X 1 a i0 h fun e h=>
 L e h fun f h=>
 .ret (T126 f i0 iS) h)
def k195_13:KF:=K2 y2 y7 fun c i x h a b=>
 A 2 a h fun d h=>
 L d h fun e h=>
 X 4 e i0 h fun f h=>
 M 4 f h fun g h=>
 X 1 b i0 h fun j h=>
 L j h fun k h=>
 C c 290 [g,k] h fun l h=>
 E 0 l h fun m h=>
 E 1 l h fun n h=>
 tR (dH n i0 h) fun o h=>
 I o (.ret (T126 .aj n iS) h) (x (T262 b m) h)
def k195_16:KF:=K2 y2 y7 fun c i x h a b=>
 M 8 a h fun d h=>
 X 1 b i0 h fun e h=>
 L e h fun f h=>
 C c 291 [d,f] h fun g h=>
 E 0 g h fun j h=>
 E 1 g h fun k h=>
 E 2 g h fun l h=>
 .ret (T126 j k l) h
def k195_18:KF:=K2 y2 y7 fun c i x h a b=>
 M 8 a h fun d h=>
 X 1 b i0 h fun e h=>
 L e h fun f h=>
 X 1 b i1 h fun g h=>
 L g h fun j h=>
 C c 292 [d,f,j] h fun k h=>
 E 0 k h fun l h=>
 E 1 k h fun m h=>
 E 2 k h fun n h=>
 .ret (T126 l m n) h
def k195_24:KF:=K2 y7 y15 fun c i x h a b=>
 D b i1 h fun d h=>
 .nm (T266 a d) h
def k195_23:KF:=K2 y7 y15 fun c i x h a b=>
 X 1 a i0 h fun d h=>
 L d h fun e h=>
 X 2 e b h fun f h=>
 A 1 f h fun g h=>
 L g h fun j h=>
 X 1 a i1 h fun k h=>
 L k h fun l h=>
 X 2 l b h fun m h=>
 A 1 m h fun n h=>
 L n h fun o h=>
 tR (dH j o h) fun p h=>
 I p (X 1 a i0 h fun q h=>
 L q h fun s h=>
 X 2 s b h fun t h=>
 A 0 t h fun v h=>
 L v h fun w h=>
 .ret (T126 .aj (pi 22) w) h) (x (T266 a b) h)
def k195_22:KF:=K2 y7 y15 fun c i x h a b=>
 X 1 a i0 h fun d h=>
 L d h fun e h=>
 G e h fun f h=>
 Y b f h fun g h=>
 I g (x (T266 a b) h) (.ex 5 (T32 a) h)
def k195_21:KF:=K1 y7 fun c i x h a=>
 x (T266 a i0) h
def k195_25:KF:=K1 y7 fun c i x h a=>
 X 1 a i0 h fun b h=>
 L b h fun d h=>
 .ret (T126 d i0 iS) h
def k195_20:KF:=K1 y7 fun c i x h a=>
 X 1 a i0 h fun b h=>
 L b h fun d h=>
 G d h fun e h=>
 X 1 a i1 h fun f h=>
 L f h fun g h=>
 G g h fun j h=>
 tR (dH e j h) fun k h=>
 I k (.ret (T126 .aj (pi 23) iS) h) (x (T32 a) h)
def k195_26:KF:=K3 y2 y7 y43 fun c i x h a b d=>
 Q d (pi 7) h fun e h=>
 I e (M 8 a h fun f h=>
 X 1 b i0 h fun g h=>
 L g h fun j h=>
 C c 293 [f,j] h fun k h=>
 E 0 k h fun l h=>
 E 1 k h fun m h=>
 E 2 k h fun n h=>
 .ret (T126 l m n) h) (.nm (T32 b) h)
def k195_19:KF:=K3 y2 y7 y43 fun c i x h a b d=>
 Q d (pi 5) h fun e h=>
 x (T265 a b d e) h
def k195_17:KF:=K3 y2 y7 y43 fun c i x h a b d=>
 Q d (pi 4) h fun e h=>
 x (T264 a b d e) h
def k195_15:KF:=K3 y2 y7 y43 fun c i x h a b d=>
 Q d (pi 3) h fun e h=>
 x (T263 a b d e) h
def k195_12:KF:=K3 y2 y7 y43 fun c i x h a b d=>
 Q d (pi 2) h fun e h=>
 x (T261 a b d e) h
def k195_6:KF:=K4 y1 y2 y7 y43 fun c i x h a b d e=>
 Q e i1 h fun f h=>
 x (T259 a b d e f) h
def k195_5:KF:=K3 y1 y2 y7 fun c i x h a b d=>
 A 0 b h fun e h=>
 L e h fun f h=>
 x (T258 a b d f) h
def k195_27:KF:=K1 y7 fun c i x h a=>
 X 1 a i0 h fun b h=>
 L b h fun d h=>
 .ret (T126 d i0 iS) h
def k195_0:KF:=K2 y0 y1 fun c i x h a b=>
 B 108 a h fun d h=>
 x (T256 b d .aj) h
def x195:AC:=(.ah k195_0 (.seq (.ah k195_1 (.block 0 (.loop (.ah k195_2 (.ah k195_3 (.ah k195_4 .skip)))))) (.seq (.ah k195_5 (.block 2 (.ah k195_6 (.cond r44 (.seq (.ah k195_7 (.block 3 (.loop (.ah k195_8 (.ah k195_9 (.ah k195_10 .skip)))))) (.ah k195_11 .skip)) (.ah k195_12 (.cond r69 (.ah k195_13 (.ah k195_14 .skip)) (.ah k195_15 (.cond r90 (.ah k195_16 .skip) (.ah k195_17 (.cond r100 (.ah k195_18 .skip) (.ah k195_19 (.cond r113 (.ah k195_20 (.seq (.ah k195_21 (.block 5 (.loop (.ah k195_22 (.ah k195_23 (.ah k195_24 .skip)))))) (.ah k195_25 .skip))) (.ah k195_26 .skip))))))))))))) (.ah k195_27 .skip))))
def f195:AF:=.mk x195 [.t .h0 .h4,.t .h0 .h5,.t .h0 .h6]
def k196_1:KF:=K3 y2 y3 y68 fun c i x h a b d=>
 I d (.ret (T2 (.bool false)) h) (.nm (T18 a b) h)
def k196_4:KF:=K3 y2 y3 y5 fun c i x h a b d=>
 D d i1 h fun e h=>
 .nm (T267 a b e) h
def k196_3:KF:=K3 y2 y3 y5 fun c i x h a b d=>
 A 6 a h fun e h=>
 L e h fun f h=>
 G f h fun g h=>
 Y d g h fun j h=>
 I j (A 6 a h fun k h=>
 L k h fun l h=>
 X 3 l d h fun m h=>
 M 3 m h fun n h=>
 A 6 b h fun o h=>
 L o h fun p h=>
 X 3 p d h fun q h=>
 M 3 q h fun s h=>
 tR (bK (.ane [.s,.s,.s]) n s h) fun t h=>
 I t (.ret (T2 (.bool false)) h) (x (T267 a b d) h)) (.ex 0 (T18 a b) h)
def k196_2:KF:=K2 y2 y3 fun c i x h a b=>
 x (T267 a b i0) h
def k196_7:KF:=K3 y2 y3 y6 fun c i x h a b d=>
 D d i1 h fun e h=>
 .nm (T268 a b e) h
def k196_6:KF:=K3 y2 y3 y6 fun c i x h a b d=>
 A 7 a h fun e h=>
 L e h fun f h=>
 G f h fun g h=>
 Y d g h fun j h=>
 I j (A 7 a h fun k h=>
 L k h fun l h=>
 X 8 l d h fun m h=>
 M 8 m h fun n h=>
 A 7 b h fun o h=>
 L o h fun p h=>
 X 8 p d h fun q h=>
 M 8 q h fun s h=>
 C c 196 [n,s] h fun t h=>
 tR (cZ t h) fun v h=>
 I v (.ret (T2 (.bool false)) h) (x (T268 a b d) h)) (.ex 2 T15 h)
def k196_5:KF:=K2 y2 y3 fun c i x h a b=>
 x (T268 a b i0) h
def k196_8:KF:=fun c i x r h=>
 .ret (T2 (.bool true)) h
def k196_0:KF:=K2 y0 y1 fun c i x h a b=>
 B 108 a h fun d h=>
 B 108 b h fun e h=>
 x (T18 d e) h
def x196:AC:=(.ah k196_0 (.seq (.seq (.ops [of d7 0 r2,
 ol d8 r7,
 of d9 0 r3,
 ol d10 r9,
 o d11 (.bin .ne r8 r10),
 m d12 r11,
 .g .h0 .hc false d13 (.op (.dh 1 r2)),
 .g .h0 .hc false d14 (.op (.cY r13)),
 .g .h0 .hc false d15 (.op (.dh 1 r3)),
 .g .h0 .hc false d16 (.op (.cY r15)),
 .g .h0 .hc false d17 (.op (.bin .sne r14 r16)),
 o d18 (.pick r12 (.c (.bool true)) r17),
 m d19 r18,
 .g .h1 .h3 false d20 (.op (.dh 2 r2)),
 .g .h1 .h3 false d21 (.op (.cY r20)),
 .g .h1 .h3 false d22 (.op (.dh 2 r3)),
 .g .h1 .h3 false d23 (.op (.cY r22)),
 .g .h1 .h3 false d24 (.call 294 [r21,r23]),
 .g .h1 .h3 false d25 (.op (.un .not r24)),
 o d26 (.pick r19 (.c (.bool true)) r25),
 m d27 r26,
 .g .h1 .hb false d28 (.op (.dh 3 r2)),
 .g .h1 .hb false d29 (.op (.cY r28)),
 .g .h1 .hb false d30 (.op (.dh 3 r3)),
 .g .h1 .hb false d31 (.op (.cY r30)),
 .g .h1 .hb false d32 (.call 295 [r29,r31]),
 .g .h1 .hb false d33 (.op (.un .not r32)),
 o d34 (.pick r27 (.c (.bool true)) r33),
 m d35 r34,
 .g .h2 .h3 false d36 (.op (.dh 4 r2)),
 .g .h2 .h3 false d37 (.op (.cY r36)),
 .g .h2 .h3 false d38 (.op (.dh 4 r3)),
 .g .h2 .h3 false d39 (.op (.cY r38)),
 .g .h2 .h3 false d40 (.call 295 [r37,r39]),
 .g .h2 .h3 false d41 (.op (.un .not r40)),
 o d42 (.pick r35 (.c (.bool true)) r41),
 m d43 r42,
 .g .h2 .hb false d44 (.op (.dh 5 r2)),
 .g .h2 .hb false d45 (.op (.cY r44)),
 .g .h2 .hb false d46 (.op (.dh 5 r3)),
 .g .h2 .hb false d47 (.op (.cY r46)),
 .g .h2 .hb false d48 (.call 295 [r45,r47]),
 .g .h2 .hb false d49 (.op (.un .not r48)),
 o d50 (.pick r43 (.c (.bool true)) r49),
 m d51 r50,
 .g .h3 .h3 false d52 (.op (.dh 6 r2)),
 .g .h3 .h3 false d53 (.op (.cY r52)),
 .g .h3 .h3 false d54 (.op (.len r53)),
 .g .h3 .h3 false d55 (.op (.dh 6 r3)),
 .g .h3 .h3 false d56 (.op (.cY r55)),
 .g .h3 .h3 false d57 (.op (.len r56)),
 .g .h3 .h3 false d58 (.op (.bin .ne r54 r57)),
 o d59 (.pick r51 (.c (.bool true)) r58),
 m d60 r59,
 .g .h3 .hc false d61 (.op (.dh 7 r2)),
 .g .h3 .hc false d62 (.op (.cY r61)),
 .g .h3 .hc false d63 (.op (.len r62)),
 .g .h3 .hc false d64 (.op (.dh 7 r3)),
 .g .h3 .hc false d65 (.op (.cY r64)),
 .g .h3 .hc false d66 (.op (.len r65)),
 .g .h3 .hc false d67 (.op (.bin .ne r63 r66)),
 o d68 (.pick r60 (.c (.bool true)) r67)]) (.ah k196_1 .skip)) (.seq (.ah k196_2 (.block 0 (.loop (.ah k196_3 (.ah k196_4 .skip))))) (.seq (.ah k196_5 (.block 2 (.loop (.ah k196_6 (.ah k196_7 .skip))))) (.ah k196_8 .skip)))))
def f196:AF:=.mk x196 [.t .h0 .h4]
def k197_6:KF:=K3 y0 y3 y4 fun c i x h a b d=>
 D d i1 h fun e h=>
 .nm (T4 a b e) h
def k197_5:KF:=K3 y0 y3 y4 fun c i x h a b d=>
 X 3 a b h fun e h=>
 A 1 e h fun f h=>
 L f h fun g h=>
 X 3 a b h fun j h=>
 A 2 j h fun k h=>
 L k h fun l h=>
 X 2 l d h fun m h=>
 A 0 m h fun n h=>
 L n h fun o h=>
 C c 200 [g,o] h fun p h=>
 tR (cZ p h) fun q h=>
 I q (.ret (T1 (.bool false)) h) (x (T4 a b d) h)
def k197_4:KF:=K3 y0 y3 y4 fun c i x h a b d=>
 X 3 a b h fun e h=>
 A 2 e h fun f h=>
 L f h fun g h=>
 G g h fun j h=>
 Y d j h fun k h=>
 I k (x (T4 a b d) h) (.ex 2 (T3 a b) h)
def k197_3:KF:=K2 y0 y3 fun c i x h a b=>
 X 3 a b h fun d h=>
 A 2 d h fun e h=>
 L e h fun f h=>
 C c 296 [f] h fun g h=>
 tR (cZ g h) fun j h=>
 I j (.ret (T1 (.bool false)) h) (x (T4 a b i0) h)
def k197_7:KF:=K2 y0 y3 fun c i x h a b=>
 D b i1 h fun d h=>
 .nm (T3 a d) h
def k197_2:KF:=K2 y0 y3 fun c i x h a b=>
 G a h fun d h=>
 Y b d h fun e h=>
 I e (x (T3 a b) h) (.ex 0 T15 h)
def k197_1:KF:=K1 y0 fun c i x h a=>
 x (T3 a i0) h
def k197_8:KF:=fun c i x r h=>
 .ret (T1 (.bool true)) h
def k197_0:KF:=K1 y0 fun c i x h a=>
 C c 198 [a] h fun b h=>
 C c 194 [b] h fun d h=>
 tR (dH d i0 h) fun e h=>
 I e (.ret (T1 (.bool false)) h) (x (T0 a) h)
def x197:AC:=(.ah k197_0 (.seq (.ah k197_1 (.block 0 (.loop (.ah k197_2 (.seq (.block 1 (.ah k197_3 (.block 2 (.loop (.ah k197_4 (.ah k197_5 (.ah k197_6 .skip))))))) (.ah k197_7 .skip)))))) (.ah k197_8 .skip)))
def f197:AF:=.mk x197 [.t .h0 .h2]
def k198_3:KF:=K3 y0 y3 y4 fun c i x h a b d=>
 D d i1 h fun e h=>
 .nm (T4 a b e) h
def k198_2:KF:=K3 y0 y3 y4 fun c i x h a b d=>
 G a h fun e h=>
 Y d e h fun f h=>
 I f (x (T4 a b d) h) (.ex 0 (T49 b) h)
def k198_1:KF:=K2 y0 y3 fun c i x h a b=>
 x (T4 a b i0) h
def k198_4:KF:=K1 y3 fun c i x h a=>
 .ret (T1 a) h
def k198_0:KF:=K1 y0 fun c i x h a=>
 x (T3 a .aj) h
def x198:AC:=(.ah k198_0 (.seq (.ah k198_1 (.block 0 (.loop (.ah k198_2 (.seq (.block 1 (.jQ [q 0 (m d12 r0),
 q 0 (m d13 r4),
 q 0 (o d14 (.dn 3 r12 r13)),
 qf 0 d15 0 r14,
 ql 0 d16 r15,
 q 0 (m d17 r0),
 q 0 (m d18 r4),
 q 0 (o d19 (.dn 3 r17 r18)),
 qf 0 d20 1 r19,
 ql 0 d21 r20,
 q 0 (o d22 (.build [iS,.aj] [.mk 0 1 r16,.mk 1 1 r21])),
 w (o d23 (.bD 161 2 1 [iS,.aj] [.mk 0 2 r22])),
 q 1 (m d11 r3),
 w (o d24 (.app 161 2 r11 r23)),
 q 0 (m d3 r24)])) (.ah k198_3 .skip)))))) (.ah k198_4 .skip)))
def f198:AF:=.mk x198 [.t .h0 .h2]
def k199_5:KF:=K6 y1 y2 y7 y10 y11 y12 fun c i x h a b d e f g=>
 D g i1 h fun j h=>
 .nm (T270 a b d e f j) h
def k199_4:KF:=K6 y1 y2 y7 y10 y11 y12 fun c i x h a b d e f g=>
 A 7 b h fun j h=>
 L j h fun k h=>
 X 8 k g h fun l h=>
 M 8 l h fun m h=>
 C c 199 [m,a] h fun n h=>
 E 0 n h fun o h=>
 E 1 n h fun p h=>
 E 2 n h fun q h=>
 tR (dH q i0 h) fun s h=>
 I s (.ret (T126 .aj .aj q) h) (tR (bs 87 1 1 [.aj] [.mk 0 1 (.c o)] h) fun t h=>
 tR (eI 87 1 e t h) fun v h=>
 tR (bs 28 1 1 [.aj] [.mk 0 1 (.c p)] h) fun w h=>
 tR (eI 28 1 f w h) fun y h=>
 x (T270 a b d v y g) h)
def k199_3:KF:=K6 y1 y2 y7 y10 y11 y12 fun c i x h a b d e f g=>
 A 7 b h fun j h=>
 L j h fun k h=>
 G k h fun l h=>
 Y g l h fun m h=>
 I m (x (T270 a b d e f g) h) (.ex 0 (T269 a b d e f) h)
def k199_2:KF:=K5 y1 y2 y7 y10 y11 fun c i x h a b d e f=>
 x (T270 a b d e f i0) h
def k199_11:KF:=K6 y1 y2 y7 y16 y17 y18 fun c i x h a b d e f g=>
 D g i1 h fun j h=>
 .nm (T274 a b d e f j) h
def k199_10:KF:=K6 y1 y2 y7 y16 y17 y18 fun c i x h a b d e f g=>
 G a h fun j h=>
 Y g j h fun k h=>
 I k (X 3 a g h fun l h=>
 A 0 l h fun m h=>
 L m h fun n h=>
 A 1 b h fun o h=>
 L o h fun p h=>
 tR (bN n p h) fun q h=>
 I q (X 3 a g h fun s h=>
 A 2 s h fun t h=>
 L t h fun v h=>
 x (T274 a b d v f g) h) (x (T274 a b d e f g) h)) (.ex 3 (T275 d e f) h)
def k199_9:KF:=K5 y1 y2 y7 y16 y17 fun c i x h a b d e f=>
 x (T274 a b d e f i0) h
def k199_16:KF:=K7 y2 y7 y10 y11 y16 y17 y19 fun c i x h a b d e f g j=>
 D j i1 h fun k h=>
 .nm (T277 a b d e f g k) h
def k199_15:KF:=K6 y2 y7 y10 y11 y16 y19 fun c i x h a b d e f g=>
 M 8 a h fun j h=>
 X 1 e i0 h fun k h=>
 L k h fun l h=>
 X 1 d i0 h fun m h=>
 L m h fun n h=>
 X 2 n g h fun o h=>
 A 0 o h fun p h=>
 L p h fun q h=>
 C c 297 [j,l,q] h fun s h=>
 E 0 s h fun t h=>
 E 1 s h fun v h=>
 E 2 s h fun w h=>
 gD v true (fun y=>y w h) h fun y h=>
 gD v true (fun z=>Q y i0 h fun a0 h=>
 z a0 h) h fun z h=>
 tR (eJ (.c v) (.c z) (.c (.bool false)) .nil h) fun a0 h=>
 I a0 (X 1 d i0 h fun a1 h=>
 L a1 h fun a2 h=>
 X 2 a2 g h fun a3 h=>
 A 1 a3 h fun a4 h=>
 L a4 h fun a5 h=>
 U [.aj,(.aM .f64 0 0)] [.mk 0 1 (.c t),.mk 1 1 (.c a5)] h fun a6 h=>
 tR (bs 167 2 1 [.aj,(.aM .f64 0 0)] [.mk 0 2 (.c a6)] h) fun a7 h=>
 tR (eI 167 2 f a7 h) fun a8 h=>
 x (T277 a b d e a8 w g) h) (x (T277 a b d e f w g) h)
def k199_14:KF:=K7 y2 y7 y10 y11 y16 y17 y19 fun c i x h a b d e f g j=>
 X 1 d i0 h fun k h=>
 L k h fun l h=>
 G l h fun m h=>
 Y j m h fun n h=>
 gD n true (fun o=>o g h) h fun o h=>
 gD n true (fun p=>Q o i0 h fun q h=>
 p q h) h fun p h=>
 tR (eJ (.c n) (.c p) (.c (.bool false)) .nil h) fun q h=>
 I q (x (T278 a b d e f j) h) (.ex 5 (T275 b f g) h)
def k199_13:KF:=K6 y2 y7 y10 y11 y16 y17 fun c i x h a b d e f g=>
 x (T277 a b d e f g i0) h
def k199_21:KF:=K5 y7 y10 y16 y17 y22 fun c i x h a b d e f=>
 D f i1 h fun g h=>
 .nm (T281 a b d e g) h
def k199_20:KF:=K5 y7 y10 y16 y17 y22 fun c i x h a b d e f=>
 X 1 b i0 h fun g h=>
 L g h fun j h=>
 G j h fun k h=>
 Y f k h fun l h=>
 I l (X 1 b i0 h fun m h=>
 L m h fun n h=>
 X 2 n f h fun o h=>
 A 0 o h fun p h=>
 L p h fun q h=>
 U [.aj,(.aM .f64 0 0)] [.mk 0 1 (.c q),.mk 1 1 (.c (.aM .f64 4607182418800017408 0))] h fun s h=>
 tR (bs 167 2 1 [.aj,(.aM .f64 0 0)] [.mk 0 2 (.c s)] h) fun t h=>
 tR (eI 167 2 d t h) fun v h=>
 x (T281 a b v e f) h) (.ex 7 (T275 a d e) h)
def k199_19:KF:=K4 y7 y10 y16 y17 fun c i x h a b d e=>
 x (T281 a b d e i0) h
def k199_23:KF:=K4 y2 y7 y10 y11 fun c i x h a b d e=>
 M 8 a h fun f h=>
 X 1 e i0 h fun g h=>
 L g h fun j h=>
 X 1 e i1 h fun k h=>
 L k h fun l h=>
 X 1 d i0 h fun m h=>
 L m h fun n h=>
 X 1 d i1 h fun o h=>
 L o h fun p h=>
 C c 298 [f,j,l,n,p] h fun q h=>
 E 0 q h fun s h=>
 E 1 q h fun t h=>
 .nm (T275 b s t) h
def k199_24:KF:=K7 y2 y7 y10 y11 y16 y17 y65 fun c i x h a b d e f g j=>
 Q j (pi 7) h fun k h=>
 x (T283 a b d e f g k) h
def k199_22:KF:=K7 y2 y7 y10 y11 y16 y17 y65 fun c i x h a b d e f g j=>
 Q j (pi 4) h fun k h=>
 x (T282 a b d e f g j k) h
def k199_18:KF:=K7 y2 y7 y10 y11 y16 y17 y65 fun c i x h a b d e f g j=>
 Q j (pi 6) h fun k h=>
 x (T280 a b d e f g j k) h
def k199_17:KF:=K7 y2 y7 y10 y11 y16 y17 y65 fun c i x h a b d e f g j=>
 Q j (pi 5) h fun k h=>
 x (T279 a b d e f g j k) h
def k199_12:KF:=K7 y2 y7 y10 y11 y16 y17 y65 fun c i x h a b d e f g j=>
 Q j (pi 2) h fun k h=>
 I k (x (T276 a b d e f g j k) h) (Q j (pi 3) h fun l h=>
 x (T276 a b d e f g j l) h)
def k199_8:KF:=K8 y1 y2 y7 y10 y11 y16 y17 y65 fun c i x h a b d e f g j k=>
 Q k i1 h fun l h=>
 x (T273 a b d e f g j k l) h
def k199_7:KF:=K7 y1 y2 y7 y10 y11 y16 y17 fun c i x h a b d e f g j=>
 A 0 b h fun k h=>
 L k h fun l h=>
 x (T272 a b d e f g j l) h
def k199_26:KF:=K3 y7 y23 y229 fun c i x h a b d=>
 I d (.ret (T126 .aj .aj (pi 13)) h) (.nm (T285 a b) h)
def k199_27:KF:=K2 y7 y23 fun c i x h a b=>
 .ret (T126 b a i0) h
def k199_25:KF:=K3 y7 y16 y17 fun c i x h a b d=>
 tR (dH d i0 h) fun e h=>
 I e (.ret (T126 .aj .aj d) h) (C c 302 [b] h fun f h=>
 E 0 f h fun g h=>
 E 1 f h fun j h=>
 C c 202 [g] h fun k h=>
 E 0 k h fun l h=>
 E 1 k h fun m h=>
 x (T284 a g j l m) h)
def k199_6:KF:=K5 y1 y2 y7 y10 y11 fun c i x h a b d e f=>
 x (T271 a b d e f .aj i0) h
def k199_1:KF:=K3 y1 y2 y7 fun c i x h a b d=>
 x (T269 a b d .aj .aj) h
def k199_0:KF:=K2 y0 y1 fun c i x h a b=>
 B 108 a h fun d h=>
 x (T104 b d) h
def x199:AC:=(.ah k199_0 (.seq (.jQ [q 0 (m d29 r1),
 w (oc d30 198 [r29]),
 q 1 (o d28 (.kY 8 r2)),
 w (oc d31 135 [r28,r30]),
 q 0 (m d27 r31),
 q 0 (oe d32 0 r27),
 q 0 (oe d33 1 r27),
 q 0 (oe d34 2 r27),
 q 0 (m d7 r32),
 q 0 (m d8 r33),
 q 0 (m d9 r34)]) (.ah k199_1 (.seq (.ah k199_2 (.block 0 (.loop (.ah k199_3 (.ah k199_4 (.ah k199_5 .skip)))))) (.ah k199_6 (.seq (.ah k199_7 (.block 2 (.ah k199_8 (.cond r66 (.ah k199_9 (.block 3 (.loop (.ah k199_10 (.ah k199_11 .skip))))) (.ah k199_12 (.cond r87 (.ah k199_13 (.block 5 (.loop (.ah k199_14 (.ah k199_15 (.ah k199_16 .skip)))))) (.ah k199_17 (.cond r135 (.jQ [w (o d137 (.bD 167 2 0 [] [])),
 q 1 (m d138 r10),
 q 1 (o d139 (.dn 1 r138 a0)),
 ql 1 d140 r139,
 w (o d141 (.app 167 2 r137 r140)),
 q 2 (m d142 r10),
 q 2 (o d143 (.dn 1 r142 a1)),
 ql 2 d144 r143,
 w (o d145 (.app 167 2 r141 r144)),
 q 0 (m d16 r145)]) (.ah k199_18 (.cond r146 (.ah k199_19 (.block 7 (.loop (.ah k199_20 (.ah k199_21 .skip))))) (.ah k199_22 (.cond r167 (.ah k199_23 .skip) (.ah k199_24 (.cond r186 (.jQ [q 0 (m d189 r11),
 q 0 (o d190 (.dn 1 r189 a0)),
 ql 0 d191 r190,
 qf 0 d192 4 r2,
 ql 0 d193 r192,
 w (oc d194 300 [r191,r193]),
 q 1 (m d195 r11),
 q 1 (o d196 (.dn 1 r195 a0)),
 ql 1 d197 r196,
 qf 1 d198 6 r2,
 ql 1 d199 r198,
 w (oc d200 301 [r197,r199]),
 q 2 (m d201 r10),
 q 2 (o d202 (.dn 1 r201 a0)),
 ql 2 d203 r202,
 w (oc d204 299 [r194,r200,r203]),
 q 0 (m d188 r204),
 q 0 (oe d205 0 r188),
 q 0 (oe d206 1 r188),
 q 0 (m d16 r205),
 q 0 (m d17 r206)]) .skip)))))))))))))) (.ah k199_25 (.seq (.seq (.ops [m d220 r24,
 o d221 (.bin .ne r220 a0),
 m d222 r221,
 .g .hd .he false d223 (.op (.mv r26)),
 .g .hd .he false d224 (.op (.un .not r223)),
 o d225 (.pick r222 (.c (.bool true)) r224),
 m d226 r225,
 .g .he .h2 false d227 (.op (.mv r25)),
 .g .he .h2 false d228 (.op (.bin .gt r227 (.c (pi 512)))),
 o d229 (.pick r226 (.c (.bool true)) r228)]) (.ah k199_26 .skip)) (.ah k199_27 .skip)))))))))
def f199:AF:=.mk x199 [.t .h0 .h4,.t .h0 .h5,.t .h0 .h6]
def k200_3:KF:=K4 y0 y1 y5 y35 fun c i x h a b d e=>
 I e (.ret (T2 (.bool false)) h) (.nm (T48 a b d) h)
def k200_4:KF:=K3 y0 y1 y5 fun c i x h a b d=>
 D d i1 h fun e h=>
 .nm (T48 a b e) h
def k200_2:KF:=K3 y0 y1 y5 fun c i x h a b d=>
 G b h fun e h=>
 Y d e h fun f h=>
 I f (x (T48 a b d) h) (.ex 0 T15 h)
def k200_1:KF:=K2 y0 y1 fun c i x h a b=>
 x (T48 a b i0) h
def k200_5:KF:=fun c i x r h=>
 .ret (T2 (.bool true)) h
def k200_0:KF:=K2 y0 y1 fun c i x h a b=>
 G a h fun d h=>
 G b h fun e h=>
 tR (dH d e h) fun f h=>
 I f (.ret (T2 (.bool false)) h) (x (T13 a b) h)
def x200:AC:=(.ah k200_0 (.seq (.ah k200_1 (.block 0 (.loop (.ah k200_2 (.seq (.block 1 (.seq (.ops [m d17 r1,
 m d18 r5,
 o d19 (.dn 3 r17 r18),
 o d20 (.kY 3 r19),
 oc d21 303 [r20],
 o d22 (.un .not r21),
 m d23 r22,
 .g .h1 .h7 false d24 (.op (.mv r1)),
 .g .h1 .h7 false d25 (.op (.mv r5)),
 .g .h1 .h7 false d26 (.op (.dn 3 r24 r25)),
 .g .h1 .h7 false d27 (.op (.dh 0 r26)),
 .g .h1 .h7 false d28 (.op (.cY r27)),
 .g .h1 .h7 false d29 (.op (.mv r0)),
 .g .h1 .h7 false d30 (.op (.mv r5)),
 .g .h1 .h7 false d31 (.op (.dn 2 r29 r30)),
 .g .h1 .h7 false d32 (.op (.dh 1 r31)),
 .g .h1 .h7 false d33 (.op (.cY r32)),
 .g .h1 .h7 false d34 (.op (.bin .ne r28 r33)),
 o d35 (.pick r23 (.c (.bool true)) r34)]) (.ah k200_3 .skip))) (.ah k200_4 .skip)))))) (.ah k200_5 .skip)))
def f200:AF:=.mk x200 [.t .h0 .h4]
def f201:AF:=.mk b201 [.t .h0 .h4]
def k202_4:KF:=K3 y0 y4 y5 fun c i x h a b d=>
 D d i1 h fun e h=>
 .nm (T19 a b e) h
def k202_3:KF:=K3 y0 y4 y5 fun c i x h a b d=>
 X 2 a d h fun e h=>
 A 1 e h fun f h=>
 L f h fun g h=>
 C c 305 [g] h fun j h=>
 D b j h fun k h=>
 tR (lK k (pi 1125899906842624) h) fun l h=>
 gD l false (fun m=>m k h) h fun m h=>
 gD l false (fun n=>Y m (ni 1125899906842623) h fun o h=>
 n o h) h fun n h=>
 tR (eJ (.c l) (.c (.bool true)) (.c n) .nil h) fun o h=>
 I o (.ret (T18 i0 (.bool false)) h) (x (T19 a k d) h)
def k202_2:KF:=K3 y0 y4 y5 fun c i x h a b d=>
 G a h fun e h=>
 Y d e h fun f h=>
 I f (x (T19 a b d) h) (.ex 0 (T2 b) h)
def k202_1:KF:=K2 y0 y4 fun c i x h a b=>
 x (T19 a b i0) h
def k202_5:KF:=K1 y4 fun c i x h a=>
 .ret (T18 a (.bool true)) h
def k202_0:KF:=K1 y0 fun c i x h a=>
 C c 304 [a] h fun b h=>
 tR (cZ b h) fun d h=>
 I d (.ret (T18 i0 (.bool false)) h) (x (T286 a i0) h)
def x202:AC:=(.ah k202_0 (.seq (.ah k202_1 (.block 0 (.loop (.ah k202_2 (.ah k202_3 (.ah k202_4 .skip)))))) (.ah k202_5 .skip)))
def f202:AF:=.mk x202 [.t .h0 .h2,.t .h0 .h3]
def f203:AF:=.mk b203 [.t .h0 .h4]
def f204:AF:=.mk b204 [.t .h0 .h4,.t .h0 .h5]
def f205:AF:=.mk b205 [.t .h0 .h4]
def f206:AF:=.mk b206 [.t .h0 .h2]
def k207_0:KF:=K1 y0 fun c i x h a=>
 tR (bK (.jR .s) a .aj h) fun b h=>
 I b (.ret (T1 .aj) h) (tR (bs 39 3 0 [] [] h) fun d h=>
 tR (eI 39 3 d a h) fun e h=>
 .ret (T1 e) h)
def x207:AC:=(.ah k207_0 .skip)
def f207:AF:=.mk x207 [.t .h0 .h2]
def f208:AF:=.mk b208 [.t .h0 .h4,.agg 2 .h0 .h5]
def f209:AF:=.mk b209 [.t .h0 .h4]
def f210:AF:=.mk b210 []
def f213:AF:=.mk b213 [.t .h0 .h2]
def f214:AF:=.mk b214 [.t .h0 .h2]
def f215:AF:=.mk b215 [.t .h0 .h2]
def f216:AF:=.mk b216 [.t .h0 .h4]
def f217:AF:=.mk b217 [.t .h0 .h2,.t .h0 .h3,.t .h0 .h4]
def f218:AF:=.mk b218 [.t .h0 .h4]
def f219:AF:=.mk b219 [.t .h0 .h3]
def f220:AF:=.mk b220 [.t .h0 .h2]
def k221_2:KF:=K4 y0 y1 y7 y8 fun c i x h a b d e=>
 Y e d h fun f h=>
 I f (X 2 a e h fun g h=>
 M 2 g h fun j h=>
 tT (cd c b [j] h) fun k h=>
 I k (.ret (T2 e) h) (D e i1 h fun l h=>
 .nm (T82 a b d l) h)) (.ex 0 (T82 a b d e) h)
def k221_1:KF:=K2 y0 y1 fun c i x h a b=>
 G a h fun d h=>
 x (T82 a b d i0) h
def k221_3:KF:=fun c i x r h=>
 .ret (T2 (ni 0)) h
def k221_0:KF:=K2 y0 y1 fun c i x h a b=>
 x (T13 a b) h
def x221:AC:=(.ah k221_0 (.seq (.ah k221_1 (.block 0 (.loop (.ah k221_2 .skip)))) (.ah k221_3 .skip)))
def f221:AF:=.mk x221 [.t .h0 .h4]
def f222:AF:=.mk b222 [.t .h0 .h2]
def f223:AF:=.mk b223 [.agg 5 .h0 .h4,.t .h0 .h5,.t .h0 .h6,.t .h0 .h7]
def k224_2:KF:=K3 y29 y30 y32 fun c i x h a b d=>
 X 5 d b h fun e h=>
 S 5 e a h fun f h=>
 .nm T15 h
def k224_1:KF:=K2 y0 y3 fun c i x h a b=>
 J a h fun d h=>
 A 1 d h fun e h=>
 L e h fun f h=>
 G f h fun g h=>
 tR (lK g i0 h) fun j h=>
 x (T305 a b g j) h
def k224_0:KF:=K2 y0 y1 fun c i x h a b=>
 B 258 b h fun d h=>
 x (T3 a d) h
def x224:AC:=(.ah k224_0 (.seq (.ah k224_1 (.cond r11 (.seq (.seq (.alt (.ops [o d12 (.alloc 4 1 (.k1 (Y1 (.bool false)))),
 os r12 (.c (.bool true)),
 os r12 (.c (.bool false)),
 ol d13 r12])
 (.ops [o d12 (.alloc 4 1 (.k1 (Y1 (.bool false)))),
 os r12 (.c (.bool false)),
 os r12 (.c (.bool true)),
 ol d13 r12])) (.cond r13 (.seq (.jQ [w (o d31 (.bD 258 5 1 [i0,iS,i0,.aj,i0] [.mk 0 5 (.c (.agg [i0,iS,i0,.aj,i0]))])),
 q 1 (m d14 r0),
 qj 1 d15 r14,
 qf 1 d16 1 r15,
 ql 1 d17 r16,
 q 1 (m d18 r4),
 q 1 (o d19 (.bin .sub r18 a1)),
 q 1 (m d20 r0),
 qj 1 d21 r20,
 qf 1 d22 1 r21,
 ql 1 d23 r22,
 q 1 (m d24 r4),
 q 1 (o d25 (.bin .sub r24 a1)),
 q 1 (o d26 (.dn 5 r23 r25)),
 qf 1 d27 3 r26,
 ql 1 d28 r27,
 q 1 (o d29 (.kY 5 r3)),
 q 1 (o d30 (.len r28)),
 w (o d32 (.app 258 5 r28 r31)),
 q 0 (o d33 (.dn 5 r17 r19)),
 qf 0 d34 3 r33,
 w (os r34 r32)]) (.ah k224_2 .skip)) (.jQ [q 0 (o d51 (.kY 5 r3)),
 w (o d52 (.bD 258 5 1 [i0,iS,i0,.aj,i0] [.mk 0 5 r51])),
 q 1 (m d42 r0),
 qj 1 d43 r42,
 qf 1 d44 1 r43,
 ql 1 d45 r44,
 q 1 (m d46 r4),
 q 1 (o d47 (.bin .sub r46 a1)),
 q 1 (o d48 (.dn 5 r45 r47)),
 qf 1 d49 3 r48,
 ql 1 d50 r49,
 w (o d53 (.app 258 5 r50 r52)),
 q 2 (m d36 r0),
 qj 2 d37 r36,
 qf 2 d38 1 r37,
 ql 2 d39 r38,
 q 2 (m d40 r4),
 q 2 (o d41 (.bin .sub r40 a1)),
 q 0 (o d54 (.dn 5 r39 r41)),
 qf 0 d55 3 r54,
 w (os r55 r53)]))) .ret) .skip)) (.alt (.jQ [w (o d62 (.bD 258 5 1 [i0,iS,i0,.aj,i0] [.mk 0 5 (.c (.agg [i0,iS,i0,.aj,i0]))])),
 q 1 (m d56 r0),
 qj 1 d57 r56,
 qf 1 d58 2 r57,
 ql 1 d59 r58,
 q 1 (o d60 (.kY 5 r3)),
 q 1 (o d61 (.len r59)),
 w (o d63 (.app 258 5 r59 r62)),
 q 0 (o d64 (.dn 5 r63 r61)),
 w (o .no (.vg 5 r64 r60)),
 qj 1 d65 r56,
 qf 1 d66 2 r65,
 w (os r66 r63)])
 (.jQ [w (o d62 (.bD 258 5 1 [i0,iS,i0,.aj,i0] [.mk 0 5 (.c (.agg [i0,iS,i0,.aj,i0]))])),
 q 1 (m d56 r0),
 qj 1 d57 r56,
 qf 1 d58 2 r57,
 ql 1 d59 r58,
 q 1 (o d60 (.kY 5 r3)),
 q 1 (o d61 (.len r59)),
 w (o d63 (.app 258 5 r59 r62)),
 qj 0 d65 r56,
 qf 0 d66 2 r65,
 w (os r66 r63),
 q 1 (o d64 (.dn 5 r63 r61)),
 w (o .no (.vg 5 r64 r60))]))))
def f224:AF:=.Es x224 []
def f225:AF:=.mk b225 [.t .h0 .h2]
def f226:AF:=.mk b226 [.t .h0 .h2]
def f227:AF:=.mk b227 [.t .h0 .h4]
def f228:AF:=.mk b228 [.agg 4 .h0 .h4]
def f229:AF:=.mk b229 [.t .h0 .h4]
def f230:AF:=.mk b230 [.agg 3 .h0 .h4]
def f231:AF:=.mk b231 [.t .h0 .h4]
def f235:AF:=.mk b235 [.agg 5 .h0 .h2]
def f236:AF:=.mk b236 [.agg 5 .h0 .h2]
def f237:AF:=.mk b237 [.agg 5 .h0 .h2]
def f238:AF:=.mk b238 [.agg 5 .h0 .h2]
def f239:AF:=.mk b239 [.t .h0 .h3]
def f240:AF:=.mk b240 [.t .h0 .h2,.t .h0 .h3]
def f241:AF:=.mk b241 [.t .h0 .h4]
def f242:AF:=.mk b242 [.t .h0 .h4]
def f243:AF:=.mk b243 [.t .h0 .h4,.t .h0 .h5]
def f244:AF:=.mk b244 [.t .h0 .h4]
def f245:AF:=.mk b245 [.t .h0 .h3]
def f246:AF:=.mk b246 [.t .h0 .h4]
def f247:AF:=.mk b247 [.t .h0 .h2]
def f248:AF:=.mk b248 [.t .h0 .h2]
def f249:AF:=.mk b249 [.t .h0 .h6,.t .h0 .h7]
def f250:AF:=.mk b250 [.t .h0 .h6,.t .h0 .h7]
def f251:AF:=.mk b251 [.t .h0 .h6,.t .h0 .h7]
def k252_5:KF:=K5 y0 y9 y10 y11 y31 fun c i x h a b d e f=>
 J a h fun g h=>
 A 2 g h fun j h=>
 L j h fun k h=>
 tR (zH (.one .s) (.agg [.aj,.aj,.aj]) false k d h) fun l h=>
 O 458 3 (.k1 (Y3 .aj .aj .aj)) h fun m h=>
 S 3 m l h fun n h=>
 A 1 m h fun o h=>
 L o h fun p h=>
 G p h fun q h=>
 tR (lK q i0 h) fun s h=>
 x (T358 a b d e m f s) h
def k252_6:KF:=K5 y0 y9 y10 y11 y31 fun c i x h a b d e f=>
 A 1 e h fun g h=>
 L g h fun j h=>
 G j h fun k h=>
 Q k i0 h fun l h=>
 I l (J a h fun m h=>
 A 2 m h fun n h=>
 L n h fun o h=>
 tR (del (.one .s) o d h) fun p h=>
 .ex 1 (T356 a b f) h) (J a h fun m h=>
 A 2 m h fun n h=>
 L n h fun o h=>
 M 3 e h fun p h=>
 tR (Bj (.one .s) o d p h) fun q h=>
 x (T359 a b e f) h)
def k252_4:KF:=K3 y0 y9 y31 fun c i x h a b d=>
 tR (mU (.c d) .nil h) fun e h=>
 E 0 e h fun f h=>
 E 1 e h fun g h=>
 O 458 3 (.k1 (Y3 .aj .aj .aj)) h fun j h=>
 S 3 j g h fun k h=>
 x (T357 a b f j d) h
def k252_3:KF:=K4 y0 y9 y31 y33 fun c i x h a b d e=>
 I e (x (T356 a b d) h) (.ex 0 (T107 b) h)
def k252_2:KF:=K3 y0 y6 y9 fun c i x h a b d=>
 tR (jh (.c b) .nil h) fun e h=>
 x (T356 a d e) h
def k252_7:KF:=K1 y9 fun c i x h a=>
 C c 275 [a] h fun b h=>
 E 0 b h fun d h=>
 E 1 b h fun e h=>
 .ret (T35 d e) h
def k252_1:KF:=K2 y0 y6 fun c i x h a b=>
 C c 364 [a,b] h fun d h=>
 tR (dH d i0 h) fun e h=>
 I e (.ret (T35 .aj d) h) (x (T355 a b .aj) h)
def k252_0:KF:=K2 y0 y1 fun c i x h a b=>
 C c 146 [b] h fun d h=>
 tR (cZ d h) fun e h=>
 I e (.ret (T35 .aj i1) h) (C c 363 [a,b] h fun f h=>
 E 0 f h fun g h=>
 E 1 f h fun j h=>
 tR (cZ j h) fun k h=>
 I k (.ret (T35 .aj i1) h) (x (T64 a g) h))
def x252:AC:=(.ah k252_0 (.ah k252_1 (.seq (.ah k252_2 (.block 0 (.loop (.seq (.ops [.o d32 (.xO false r31),
 oe d33 0 r32]) (.ah k252_3 (.block 1 (.ah k252_4 (.seq (.ah k252_5 (.cond r46 (.jQ [w (oc d50 270 [a0,a1]),
 qf 1 d48 2 r12,
 ql 1 d49 r48,
 q 0 (o d51 (.build [.aj,(.aM .f64 0 0)] [.mk 0 1 r49,.mk 1 1 r50])),
 w (o d52 (.bD 167 2 1 [.aj,(.aM .f64 0 0)] [.mk 0 2 r51])),
 q 2 (m d47 r9),
 w (o d53 (.app 167 2 r47 r52)),
 q 0 (m d9 r53)]) .skip)) (.ah k252_6 (.jQ [w (oc d72 270 [a1,a0]),
 qf 1 d70 2 r11,
 ql 1 d71 r70,
 q 0 (o d73 (.build [.aj,(.aM .f64 0 0)] [.mk 0 1 r71,.mk 1 1 r72])),
 w (o d74 (.bD 167 2 1 [.aj,(.aM .f64 0 0)] [.mk 0 2 r73])),
 q 2 (m d69 r9),
 w (o d75 (.app 167 2 r69 r74)),
 q 0 (m d9 r75)])))))))))) (.ah k252_7 .skip))))
def f252:AF:=.mk x252 [.t .h0 .h4,.t .h0 .h5]
def f253:AF:=.mk b253 [.t .h0 .h4]
def f254:AF:=.mk b254 [.t .h0 .h2]
def f255:AF:=.mk b255 []
def f256:AF:=.mk b256 [.t .h0 .h2]
def k257_2:KF:=K4 y0 y1 y7 y8 fun c i x h a b d e=>
 Y e d h fun f h=>
 I f (X 2 a e h fun g h=>
 M 2 g h fun j h=>
 tT (cd c b [j] h) fun k h=>
 I k (.ret (T2 e) h) (D e i1 h fun l h=>
 .nm (T82 a b d l) h)) (.ex 0 (T82 a b d e) h)
def k257_1:KF:=K2 y0 y1 fun c i x h a b=>
 G a h fun d h=>
 x (T82 a b d i0) h
def k257_3:KF:=fun c i x r h=>
 .ret (T2 (ni 0)) h
def k257_0:KF:=K2 y0 y1 fun c i x h a b=>
 x (T13 a b) h
def x257:AC:=(.ah k257_0 (.seq (.ah k257_1 (.block 0 (.loop (.ah k257_2 .skip)))) (.ah k257_3 .skip)))
def f257:AF:=.mk x257 [.t .h0 .h4]
def k258_0:KF:=K2 y0 y1 fun c i x h a b=>
 B 119 a h fun d h=>
 A 0 d h fun e h=>
 L e h fun f h=>
 L b h fun g h=>
 tR (bN f g h) fun j h=>
 .ret (T49 j) h
def x258:AC:=(.ah k258_0 .skip)
def f258:AF:=.mk x258 [.t .h0 .h3]
def f259:AF:=.mk b259 []
def k268_2:KF:=K2 y0 y2 fun c i x h a b=>
 tR (qW a (.int .u64 (.ofNat 256)) h) fun d h=>
 I d (tR (bK .shr a (.int .u64 (.ofNat 8)) h) fun e h=>
 D b (pi 8) h fun f h=>
 tR (cK (.toInt .u8) e h) fun g h=>
 tR (gj (.c (.str [0,1,2,2,3,3,3,3,4,4,4,4,4,4,4,4,5,5,5,5,5,5,5,5,5,5,5,5,5,5,5,5,6,6,6,6,6,6,6,6,6,6,6,6,6,6,6,6,6,6,6,6,6,6,6,6,6,6,6,6,6,6,6,6,7,7,7,7,7,7,7,7,7,7,7,7,7,7,7,7,7,7,7,7,7,7,7,7,7,7,7,7,7,7,7,7,7,7,7,7,7,7,7,7,7,7,7,7,7,7,7,7,7,7,7,7,7,7,7,7,7,7,7,7,7,7,7,7,8,8,8,8,8,8,8,8,8,8,8,8,8,8,8,8,8,8,8,8,8,8,8,8,8,8,8,8,8,8,8,8,8,8,8,8,8,8,8,8,8,8,8,8,8,8,8,8,8,8,8,8,8,8,8,8,8,8,8,8,8,8,8,8,8,8,8,8,8,8,8,8,8,8,8,8,8,8,8,8,8,8,8,8,8,8,8,8,8,8,8,8,8,8,8,8,8,8,8,8,8,8,8,8,8,8,8,8,8,8,8,8,8,8,8,8,8,8,8,8,8,8,8,8,8,8,8,8])) (.c g) .nil h) fun j h=>
 tR (cK (.toInt .i64) j h) fun k h=>
 D f k h fun l h=>
 x (T1 l) h) (tR (cK (.toInt .u8) a h) fun e h=>
 tR (gj (.c (.str [0,1,2,2,3,3,3,3,4,4,4,4,4,4,4,4,5,5,5,5,5,5,5,5,5,5,5,5,5,5,5,5,6,6,6,6,6,6,6,6,6,6,6,6,6,6,6,6,6,6,6,6,6,6,6,6,6,6,6,6,6,6,6,6,7,7,7,7,7,7,7,7,7,7,7,7,7,7,7,7,7,7,7,7,7,7,7,7,7,7,7,7,7,7,7,7,7,7,7,7,7,7,7,7,7,7,7,7,7,7,7,7,7,7,7,7,7,7,7,7,7,7,7,7,7,7,7,7,8,8,8,8,8,8,8,8,8,8,8,8,8,8,8,8,8,8,8,8,8,8,8,8,8,8,8,8,8,8,8,8,8,8,8,8,8,8,8,8,8,8,8,8,8,8,8,8,8,8,8,8,8,8,8,8,8,8,8,8,8,8,8,8,8,8,8,8,8,8,8,8,8,8,8,8,8,8,8,8,8,8,8,8,8,8,8,8,8,8,8,8,8,8,8,8,8,8,8,8,8,8,8,8,8,8,8,8,8,8,8,8,8,8,8,8,8,8,8,8,8,8,8,8,8,8,8,8])) (.c e) .nil h) fun f h=>
 tR (cK (.toInt .i64) f h) fun g h=>
 D b g h fun j h=>
 x (T1 j) h)
def k268_1:KF:=K2 y0 y2 fun c i x h a b=>
 tR (qW a (.int .u64 (.ofNat 65536)) h) fun d h=>
 I d (tR (bK .shr a (.int .u64 (.ofNat 16)) h) fun e h=>
 D b (pi 16) h fun f h=>
 x (T144 e f) h) (x (T144 a b) h)
def k268_0:KF:=K1 y0 fun c i x h a=>
 tR (qW a (.int .u64 (.ofNat 4294967296)) h) fun b h=>
 I b (tR (bK .shr a (.int .u64 (.ofNat 32)) h) fun d h=>
 x (T144 d (pi 32)) h) (x (T144 a i0) h)
def x268:AC:=(.ah k268_0 (.ah k268_1 (.ah k268_2 .ret)))
def f268:AF:=.mk x268 [.t .h0 .h2]
def f270:AF:=.mk b270 [.t .h0 .h4]
def f271:AF:=.mk b271 [.t .h0 .h4]
def f272:AF:=.mk b272 [.t .h0 .h2]
def f273:AF:=.mk b273 []
def f274:AF:=.mk b274 [.t .h0 .h3]
def k275_4:KF:=K5 y0 y11 y12 y13 y26 fun c i x h a b d e f=>
 I f (.ret (T18 .aj i1) h) (.nm (T372 a b d e) h)
def k275_3:KF:=K4 y0 y11 y12 y13 fun c i x h a b d e=>
 X 2 b e h fun f h=>
 M 2 f h fun g h=>
 O 167 2 (.k1 (Y2 .aj (.aM .f64 0 0))) h fun j h=>
 S 2 j g h fun k h=>
 x (T373 a j b d e) h
def k275_5:KF:=K4 y0 y11 y12 y13 fun c i x h a b d e=>
 D e i1 h fun f h=>
 .nm (T372 a b d f) h
def k275_2:KF:=K4 y0 y11 y12 y13 fun c i x h a b d e=>
 Y e d h fun f h=>
 I f (x (T372 a b d e) h) (.ex 0 (T0 a) h)
def k275_1:KF:=K1 y0 fun c i x h a=>
 G a h fun b h=>
 x (T372 a a b i0) h
def k275_10:KF:=K6 y0 y6 y7 y8 y9 y53 fun c i x h a b d e f g=>
 I g (.nm (T374 a b d e f) h) (.ex 4 (T374 a b d e f) h)
def k275_12:KF:=K5 y0 y6 y7 y8 y9 fun c i x h a b d e f=>
 D d i1 h fun g h=>
 .nm (T374 a b g e f) h
def k275_11:KF:=K5 y0 y6 y7 y8 y9 fun c i x h a b d e f=>
 X 2 a d h fun g h=>
 A 1 g h fun j h=>
 L j h fun k h=>
 C c 384 [f,k] h fun l h=>
 E 0 l h fun m h=>
 E 1 l h fun n h=>
 tR (cZ n h) fun o h=>
 I o (.ret (T18 .aj (pi 27)) h) (x (T374 a b d e m) h)
def k275_13:KF:=K5 y0 y6 y7 y8 y9 fun c i x h a b d e f=>
 tR (bK (.cop .neq) f (.aM .f64 0 0) h) fun g h=>
 I g (C c 139 [e,f] h fun j h=>
 tR (bs 167 2 1 [.aj,(.aM .f64 0 0)] [.mk 0 2 (.c j)] h) fun k h=>
 tR (eI 167 2 b k h) fun l h=>
 .nm (T109 a l d) h) (.nm (T109 a b d) h)
def k275_9:KF:=K3 y0 y6 y7 fun c i x h a b d=>
 X 2 a d h fun e h=>
 A 0 e h fun f h=>
 L f h fun g h=>
 x (T374 a b d g (.aM .f64 0 0)) h
def k275_8:KF:=K3 y0 y6 y7 fun c i x h a b d=>
 G a h fun e h=>
 Y d e h fun f h=>
 I f (x (T109 a b d) h) (.ex 2 (T5 b) h)
def k275_7:KF:=K2 y0 y6 fun c i x h a b=>
 x (T109 a b i0) h
def k275_14:KF:=K1 y6 fun c i x h a=>
 .ret (T18 a i0) h
def k275_6:KF:=K1 y0 fun c i x h a=>
 C c 381 [a] h fun b h=>
 C c 382 [b,(.fn 383 [])] h fun d h=>
 x (T64 b .aj) h
def k275_0:KF:=K1 y0 fun c i x h a=>
 x (T0 a) h
def x275:AC:=(.ah k275_0 (.seq (.ah k275_1 (.block 0 (.loop (.ah k275_2 (.seq (.block 1 (.ah k275_3 (.seq (.ops [of d17 0 r5,
 ol d18 r17,
 oc d19 213 [r18],
 o d20 (.un .not r19),
 m d21 r20,
 .g .h1 .h5 false d22 (.op (.dh 1 r5)),
 .g .h1 .h5 false d23 (.op (.cY r22)),
 .g .h1 .h5 false d24 (.call 214 [r23]),
 .g .h1 .h5 false d25 (.op (.un .not r24)),
 o d26 (.pick r21 (.c (.bool true)) r25)]) (.ah k275_4 .skip)))) (.ah k275_5 .skip)))))) (.ah k275_6 (.seq (.ah k275_7 (.block 2 (.loop (.ah k275_8 (.block 3 (.ah k275_9 (.seq (.block 4 (.loop (.seq (.seq (.ops [m d41 r7,
 m d42 r0,
 o d43 (.len r42),
 o d44 (.bin .lt r41 r43),
 m d45 r44,
 .g .h2 .hd true d46 (.op (.mv r0)),
 .g .h2 .hd true d47 (.op (.mv r7)),
 .g .h2 .hd true d48 (.op (.dn 2 r46 r47)),
 .g .h2 .hd true d49 (.op (.dh 0 r48)),
 .g .h2 .hd true d50 (.op (.cY r49)),
 .g .h2 .hd true d51 (.op (.mv r8)),
 .g .h2 .hd true d52 (.call 371 [r50,r51]),
 o d53 (.pick r45 r52 (.c (.bool false)))]) (.ah k275_10 .skip)) (.ah k275_11 (.ah k275_12 .skip))))) (.ah k275_13 .skip)))))))) (.ah k275_14 .skip)))))
def f275:AF:=.mk x275 [.t .h0 .h2,.t .h0 .h3]
def k276_3:KF:=K5 y0 y3 y9 y10 y11 fun c i x h a b d e f=>
 X 1 d f h fun g h=>
 L g h fun j h=>
 G j h fun k h=>
 D b k h fun l h=>
 Y l i0 h fun m h=>
 x (T376 a l d e f m) h
def k276_4:KF:=K5 y0 y3 y9 y10 y11 fun c i x h a b d e f=>
 D f i1 h fun g h=>
 .nm (T375 a b d e g) h
def k276_2:KF:=K5 y0 y3 y9 y10 y11 fun c i x h a b d e f=>
 Y f e h fun g h=>
 I g (x (T375 a b d e f) h) (.ex 0 (T3 a b) h)
def k276_1:KF:=K2 y0 y3 fun c i x h a b=>
 G a h fun d h=>
 x (T375 a b a d i0) h
def k276_7:KF:=K4 y6 y25 y26 y27 fun c i x h a b d e=>
 Y e d h fun f h=>
 I f (X 1 b e h fun g h=>
 L g h fun j h=>
 tR (eI 167 2 a j h) fun k h=>
 D e i1 h fun l h=>
 .nm (T377 k b d l) h) (.ex 2 (T377 a b d e) h)
def k276_6:KF:=K2 y0 y6 fun c i x h a b=>
 G a h fun d h=>
 x (T377 b a d i0) h
def k276_8:KF:=K1 y6 fun c i x h a=>
 .ret (T1 a) h
def k276_5:KF:=K2 y0 y3 fun c i x h a b=>
 C c 385 [.aj,b] h fun d h=>
 x (T64 a d) h
def k276_0:KF:=K1 y0 fun c i x h a=>
 x (T3 a i0) h
def x276:AC:=(.ah k276_0 (.seq (.ah k276_1 (.block 0 (.loop (.ah k276_2 (.seq (.block 1 (.ah k276_3 (.cond r20 (.ops [o d21 (.mki 9 (.c (.str [108,101,110,32,111,117,116,32,111,102,32,114,97,110,103,101]))),
 o .no (.bad 400)]) .skip))) (.ah k276_4 .skip)))))) (.ah k276_5 (.seq (.ah k276_6 (.block 2 (.loop (.ah k276_7 .skip)))) (.ah k276_8 .skip)))))
def f276:AF:=.mk x276 [.t .h0 .h2]
def f277:AF:=.mk b277 [.t .h0 .h2]
def k278_0:KF:=K1 y0 fun c i x h a=>
 tR (qW a (.int .u8 (.ofNat 97)) h) fun b h=>
 gD b true (fun d=>d a h) h fun d h=>
 gD b true (fun e=>tR (Ev d (.int .u8 (.ofNat 122)) h) fun f h=>
 e f h) h fun e h=>
 tR (eJ (.c b) (.c e) (.c (.bool false)) .nil h) fun f h=>
 .ret (T1 f) h
def x278:AC:=(.ah k278_0 .skip)
def f278:AF:=.mk x278 [.t .h0 .h2]
def k280_4:KF:=K5 y0 y1 y4 y12 y48 fun c i x h a b d e f=>
 I f (.nm (T380 a b d e) h) (.ex 0 (T380 a b d e) h)
def k280_5:KF:=K4 y0 y1 y4 y12 fun c i x h a b d e=>
 D e i1 h fun f h=>
 .nm (T380 a b d f) h
def k280_6:KF:=K4 y0 y1 y4 y12 fun c i x h a b d e=>
 tR (ma (.c a) (.some (.c b)) (.some (.c e)) .nil h) fun f h=>
 U [i0,iS,i0,.aj,i0] [.mk 0 1 (.c (pi 2)),.mk 1 1 (.c f),.mk 4 1 (.c b)] h fun g h=>
 S 5 d g h fun j h=>
 .ret (T112 d e i0 i0) h
def k280_3:KF:=K3 y0 y1 y4 fun c i x h a b d=>
 x (T380 a b d b) h
def k280_2:KF:=K3 y0 y1 y4 fun c i x h a b d=>
 tR (gj (.c a) (.c b) .nil h) fun e h=>
 C c 278 [e] h fun f h=>
 x (T379 a b d f) h
def k280_8:KF:=K4 y1 y4 y13 y14 fun c i x h a b d e=>
 U [i0,iS,i0,.aj,i0] [.mk 0 1 (.c (pi 3)),.mk 2 1 (.c d),.mk 4 1 (.c a)] h fun f h=>
 S 5 b f h fun g h=>
 .ret (T112 b e i0 i0) h
def k280_7:KF:=K3 y0 y1 y4 fun c i x h a b d=>
 C c 387 [a,b] h fun e h=>
 E 0 e h fun f h=>
 E 1 e h fun g h=>
 E 2 e h fun j h=>
 tR (cZ j h) fun k h=>
 I k (U [i0,iS,i0,.aj,i0] [] h fun l h=>
 S 5 d l h fun m h=>
 .ret (T112 d i0 (pi 12) b) h) (x (T381 b d f g) h)
def k280_1:KF:=K3 y0 y1 y4 fun c i x h a b d=>
 tR (gj (.c a) (.c b) .nil h) fun e h=>
 Q e (.int .u8 (.ofNat 34)) h fun f h=>
 I f (C c 386 [a,b] h fun g h=>
 E 0 g h fun j h=>
 E 1 g h fun k h=>
 E 2 g h fun l h=>
 E 3 g h fun m h=>
 U [i0,iS,i0,.aj,i0] [.mk 0 1 (.c (pi 4)),.mk 1 1 (.c j),.mk 4 1 (.c b)] h fun n h=>
 S 5 d n h fun o h=>
 .ret (T112 d k l m) h) (x (T378 a b d) h)
def k280_0:KF:=K2 y0 y1 fun c i x h a b=>
 O 299 5 (.k1 (Y5 i0 iS i0 .aj i0)) h fun d h=>
 x (T378 a b d) h
def x280:AC:=(.ah k280_0 (.ah k280_1 (.seq (.ah k280_2 (.cond r37 (.ah k280_3 (.seq (.block 0 (.loop (.seq (.seq (.ops [m d39 r12,
 m d40 r0,
 o d41 (.gi r40),
 o d42 (.bin .lt r39 r41),
 m d43 r42,
 .g .h2 .hb true d44 (.op (.mv r0)),
 .g .h2 .hb true d45 (.op (.mv r12)),
 .g .h2 .hb true d46 (.op (.idxs r44 r45)),
 .g .h2 .hb true d47 (.call 278 [r46]),
 o d48 (.pick r43 r47 (.c (.bool false)))]) (.ah k280_4 .skip)) (.ah k280_5 .skip)))) (.ah k280_6 .skip))) .skip)) (.ah k280_7 (.ah k280_8 .skip)))))
def f280:AF:=.mk x280 [.agg 5 .h0 .h4,.t .h0 .h5,.t .h0 .h6,.t .h0 .h7]
def k281_4:KF:=K1 y4 fun c i x h a=>
 Q a (pi 3) h fun b h=>
 .ret (T1 b) h
def k281_6:KF:=K1 y4 fun c i x h a=>
 Q a (pi 2) h fun b h=>
 .ret (T1 b) h
def k281_11:KF:=K4 y3 y4 y5 y69 fun c i x h a b d e=>
 I e (.ret (T1 (.bool false)) h) (.nm (T388 a b d) h)
def k281_12:KF:=K3 y3 y4 y5 fun c i x h a b d=>
 D d i1 h fun e h=>
 .nm (T388 a b e) h
def k281_10:KF:=K3 y3 y4 y5 fun c i x h a b d=>
 Z b i1 h fun e h=>
 Y d e h fun f h=>
 I f (x (T388 a b d) h) (.ex 1 T15 h)
def k281_9:KF:=K2 y3 y4 fun c i x h a b=>
 x (T388 a b i1) h
def k281_13:KF:=fun c i x r h=>
 .ret (T1 (.bool true)) h
def k281_8:KF:=K2 y3 y4 fun c i x h a b=>
 Y b (pi 3) h fun d h=>
 I d (.ret (T1 (.bool false)) h) (x (T387 a b) h)
def k281_16:KF:=K3 y3 y4 y120 fun c i x h a b d=>
 I d (.ret (T1 (.bool false)) h) (.nm (T387 a b) h)
def k281_20:KF:=K4 y3 y4 y6 y151 fun c i x h a b d e=>
 I e (.ret (T1 (.bool false)) h) (.nm (T391 a b d) h)
def k281_19:KF:=K3 y3 y4 y6 fun c i x h a b d=>
 X 5 a d h fun e h=>
 M 5 e h fun f h=>
 O 299 5 (.k1 (Y5 i0 iS i0 .aj i0)) h fun g h=>
 S 5 g f h fun j h=>
 x (T392 a b d g) h
def k281_21:KF:=K3 y3 y4 y6 fun c i x h a b d=>
 D d i1 h fun e h=>
 .nm (T391 a b e) h
def k281_18:KF:=K3 y3 y4 y6 fun c i x h a b d=>
 Z b i1 h fun e h=>
 Y d e h fun f h=>
 I f (x (T391 a b d) h) (.ex 3 T15 h)
def k281_17:KF:=K2 y3 y4 fun c i x h a b=>
 x (T391 a b (pi 2)) h
def k281_22:KF:=fun c i x r h=>
 .ret (T1 (.bool true)) h
def k281_15:KF:=K3 y3 y4 y13 fun c i x h a b d=>
 tR (bN d (.str [103,114,111,117,112]) h) fun e h=>
 x (T390 a b e) h
def k281_14:KF:=K3 y3 y4 y13 fun c i x h a b d=>
 tR (bN d (.str [106,111,105,110]) h) fun e h=>
 x (T389 a b d e) h
def k281_7:KF:=K3 y3 y4 y13 fun c i x h a b d=>
 tR (bN d (.str [112,114,111,106,101,99,116]) h) fun e h=>
 x (T386 a b d e) h
def k281_5:KF:=K3 y3 y4 y13 fun c i x h a b d=>
 tR (bN d (.str [100,105,115,116,105,110,99,116]) h) fun e h=>
 x (T385 a b d e) h
def k281_3:KF:=K3 y3 y4 y13 fun c i x h a b d=>
 tR (bN d (.str [102,105,108,116,101,114]) h) fun e h=>
 I e (x (T384 a b d e) h) (tR (bN d (.str [117,110,105,111,110]) h) fun f h=>
 x (T384 a b d f) h)
def k281_2:KF:=K3 y3 y4 y13 fun c i x h a b d=>
 tR (bN d (.str [116,97,98,108,101]) h) fun e h=>
 x (T383 a b d e) h
def k281_1:KF:=K3 y1 y3 y4 fun c i x h a b d=>
 M 5 a h fun e h=>
 C c 282 [e] h fun f h=>
 x (T382 b d f) h
def k281_23:KF:=fun c i x r h=>
 .ret (T1 (.bool false)) h
def k281_0:KF:=K1 y0 fun c i x h a=>
 B 299 a h fun b h=>
 A 3 b h fun d h=>
 L d h fun e h=>
 G e h fun f h=>
 x (T220 b e f) h
def x281:AC:=(.ah k281_0 (.seq (.ah k281_1 (.block 0 (.ah k281_2 (.cond r14 (.seq (.ops [m d16 r4,
 o d17 (.bin .eq r16 a2),
 m d18 r17,
 .g .h1 .h2 true d19 (.op (.mv r3)),
 .g .h1 .h2 true d20 (.op (.dn 5 r19 a1)),
 .g .h1 .h2 true d21 (.op (.dh 0 r20)),
 .g .h1 .h2 true d22 (.op (.cY r21)),
 .g .h1 .h2 true d23 (.op (.bin .eq r22 a2)),
 o d24 (.pick r18 r23 (.c (.bool false))),
 m d2 r24]) .ret) (.ah k281_3 (.cond r25 (.ah k281_4 .skip) (.ah k281_5 (.cond r30 (.ah k281_6 .skip) (.ah k281_7 (.cond r34 (.ah k281_8 (.seq (.ah k281_9 (.block 1 (.loop (.ah k281_10 (.seq (.block 2 (.seq (.ops [m d44 r3,
 m d45 r5,
 o d46 (.dn 5 r44 r45),
 of d47 0 r46,
 ol d48 r47,
 o d49 (.bin .ne r48 a1),
 m d50 r49,
 .g .h3 .h2 false d51 (.op (.mv r3)),
 .g .h3 .h2 false d52 (.op (.mv r5)),
 .g .h3 .h2 false d53 (.op (.dn 5 r51 r52)),
 .g .h3 .h2 false d54 (.op (.dh 3 r53)),
 .g .h3 .h2 false d55 (.op (.cY r54)),
 .g .h3 .h2 false d56 (.op (.len r55)),
 .g .h3 .h2 false d57 (.op (.bin .ne r56 a2)),
 o d58 (.pick r50 (.c (.bool true)) r57),
 m d59 r58,
 .g .h3 .hb false d60 (.op (.mv r3)),
 .g .h3 .hb false d61 (.op (.mv r5)),
 .g .h3 .hb false d62 (.op (.dn 5 r60 r61)),
 .g .h3 .hb false d63 (.op (.dh 3 r62)),
 .g .h3 .hb false d64 (.op (.cY r63)),
 .g .h3 .hb false d65 (.op (.dn 5 r64 a0)),
 .g .h3 .hb false d66 (.op (.dh 0 r65)),
 .g .h3 .hb false d67 (.op (.cY r66)),
 .g .h3 .hb false d68 (.op (.bin .ne r67 a2)),
 o d69 (.pick r59 (.c (.bool true)) r68)]) (.ah k281_11 .skip))) (.ah k281_12 .skip)))))) (.ah k281_13 .skip))) (.ah k281_14 (.cond r70 (.seq (.ops [m d72 r4,
 o d73 (.bin .eq r72 (.c (pi 5))),
 m d74 r73,
 .g .h4 .ha true d75 (.op (.mv r3)),
 .g .h4 .ha true d76 (.op (.dn 5 r75 a1)),
 .g .h4 .ha true d77 (.op (.dh 0 r76)),
 .g .h4 .ha true d78 (.op (.cY r77)),
 .g .h4 .ha true d79 (.op (.bin .eq r78 a1)),
 o d80 (.pick r74 r79 (.c (.bool false))),
 m d81 r80,
 .g .h5 .h1 true d82 (.op (.mv r3)),
 .g .h5 .h1 true d83 (.op (.dn 5 r82 a2)),
 .g .h5 .h1 true d84 (.op (.dh 0 r83)),
 .g .h5 .h1 true d85 (.op (.cY r84)),
 .g .h5 .h1 true d86 (.op (.bin .eq r85 a1)),
 o d87 (.pick r81 r86 (.c (.bool false))),
 m d88 r87,
 .g .h5 .h8 true d89 (.op (.mv r3)),
 .g .h5 .h8 true d90 (.op (.dn 5 r89 a1)),
 .g .h5 .h8 true d91 (.op (.dh 3 r90)),
 .g .h5 .h8 true d92 (.op (.cY r91)),
 .g .h5 .h8 true d93 (.call 388 [r92]),
 o d94 (.pick r88 r93 (.c (.bool false))),
 m d95 r94,
 .g .h5 .hf true d96 (.op (.mv r3)),
 .g .h5 .hf true d97 (.op (.dn 5 r96 a2)),
 .g .h5 .hf true d98 (.op (.dh 3 r97)),
 .g .h5 .hf true d99 (.op (.cY r98)),
 .g .h5 .hf true d100 (.call 388 [r99]),
 o d101 (.pick r95 r100 (.c (.bool false))),
 m d2 r101]) .ret) (.ah k281_15 (.cond r102 (.seq (.seq (.ops [m d104 r4,
 o d105 (.bin .lt r104 (.c (pi 3))),
 m d106 r105,
 .g .h6 .ha false d107 (.op (.mv r3)),
 .g .h6 .ha false d108 (.op (.dn 5 r107 a1)),
 .g .h6 .ha false d109 (.op (.dh 0 r108)),
 .g .h6 .ha false d110 (.op (.cY r109)),
 .g .h6 .ha false d111 (.op (.bin .ne r110 a1)),
 o d112 (.pick r106 (.c (.bool true)) r111),
 m d113 r112,
 .g .h7 .h1 false d114 (.op (.mv r3)),
 .g .h7 .h1 false d115 (.op (.dn 5 r114 a1)),
 .g .h7 .h1 false d116 (.op (.dh 3 r115)),
 .g .h7 .h1 false d117 (.op (.cY r116)),
 .g .h7 .h1 false d118 (.call 388 [r117]),
 .g .h7 .h1 false d119 (.op (.un .not r118)),
 o d120 (.pick r113 (.c (.bool true)) r119)]) (.ah k281_16 .skip)) (.seq (.ah k281_17 (.block 3 (.loop (.ah k281_18 (.seq (.block 4 (.ah k281_19 (.seq (.ops [of d131 0 r7,
 ol d132 r131,
 o d133 (.bin .ne r132 a1),
 m d134 r133,
 .g .h8 .h6 false d135 (.op (.dh 3 r7)),
 .g .h8 .h6 false d136 (.op (.cY r135)),
 .g .h8 .h6 false d137 (.call 388 [r136]),
 .g .h8 .h6 false d138 (.op (.un .not r137)),
 o d139 (.pick r134 (.c (.bool true)) r138),
 m d140 r139,
 .g .h8 .hc false d141 (.op (.dh 3 r7)),
 .g .h8 .hc false d142 (.op (.cY r141)),
 .g .h8 .hc false d143 (.op (.len r142)),
 .g .h8 .hc false d144 (.op (.bin .ne r143 a2)),
 .g .h8 .hc false d145 (.op (.mv r144)),
 .g .h9 .h1 true d146 (.op (.dh 3 r7)),
 .g .h9 .h1 true d147 (.op (.cY r146)),
 .g .h9 .h1 true d148 (.op (.len r147)),
 .g .h9 .h1 true d149 (.op (.bin .ne r148 (.c (pi 3)))),
 .g .h8 .hc false d150 (.op (.pick r145 r149 (.c (.bool false)))),
 o d151 (.pick r140 (.c (.bool true)) r150)]) (.ah k281_20 .skip)))) (.ah k281_21 .skip)))))) (.ah k281_22 .skip))) .skip)))))))))))))) (.ah k281_23 .skip)))
def f281:AF:=.mk x281 [.t .h0 .h2]
def k282_1:KF:=K2 y1 y19 fun c i x h a b=>
 I b (A 3 a h fun d h=>
 L d h fun e h=>
 X 5 e i0 h fun f h=>
 A 1 f h fun g h=>
 L g h fun j h=>
 .ret (T1 j) h) (.nm T15 h)
def k282_2:KF:=fun c i x r h=>
 .ret (T1 iS) h
def k282_0:KF:=K1 y0 fun c i x h a=>
 B 299 a h fun b h=>
 x (T162 b) h
def x282:AC:=(.ah k282_0 (.seq (.seq (.ops [of d3 0 r1,
 ol d4 r3,
 o d5 (.bin .eq r4 a1),
 m d6 r5,
 .g .h0 .h6 true d7 (.op (.dh 3 r1)),
 .g .h0 .h6 true d8 (.op (.cY r7)),
 .g .h0 .h6 true d9 (.op (.len r8)),
 .g .h0 .h6 true d10 (.op (.bin .gt r9 a0)),
 o d11 (.pick r6 r10 (.c (.bool false))),
 m d12 r11,
 .g .h0 .hc true d13 (.op (.dh 3 r1)),
 .g .h0 .hc true d14 (.op (.cY r13)),
 .g .h0 .hc true d15 (.op (.dn 5 r14 a0)),
 .g .h0 .hc true d16 (.op (.dh 0 r15)),
 .g .h0 .hc true d17 (.op (.cY r16)),
 .g .h0 .hc true d18 (.op (.bin .eq r17 a2)),
 o d19 (.pick r12 r18 (.c (.bool false)))]) (.ah k282_1 .skip)) (.ah k282_2 .skip)))
def f282:AF:=.mk x282 [.t .h0 .h2]
def k283_0:KF:=K1 y0 fun c i x h a=>
 B 299 a h fun b h=>
 A 1 b h fun d h=>
 L d h fun e h=>
 C c 129 [e] h fun f h=>
 tR (cZ f h) fun g h=>
 I g (A 4 b h fun j h=>
 L j h fun k h=>
 .ret (T101 iS (pi 20) k) h) (A 1 b h fun j h=>
 L j h fun k h=>
 .ret (T101 k i0 i0) h)
def x283:AC:=(.ah k283_0 .skip)
def f283:AF:=.mk x283 [.t .h0 .h2,.t .h0 .h3,.t .h0 .h4]
def k284_3:KF:=K2 y1 y2 fun c i x h a b=>
 A 1 a h fun d h=>
 L d h fun e h=>
 C c 129 [e] h fun f h=>
 tR (cZ f h) fun g h=>
 x (T395 a b g) h
def k284_4:KF:=K2 y1 y2 fun c i x h a b=>
 A 1 a h fun d h=>
 L d h fun e h=>
 U [i0,iS,i0,.aj] [.mk 0 1 (.c i1),.mk 1 1 (.c e)] h fun f h=>
 S 4 b f h fun g h=>
 .ret (T101 b i0 i0) h
def k284_5:KF:=K3 y1 y2 y11 fun c i x h a b d=>
 Q d (pi 3) h fun e h=>
 I e (A 2 a h fun f h=>
 L f h fun g h=>
 U [i0,iS,i0,.aj] [.mk 0 1 (.c (pi 2)),.mk 2 1 (.c g)] h fun j h=>
 S 4 b j h fun k h=>
 .ret (T101 b i0 i0) h) (Q d (pi 4) h fun f h=>
 I f (A 1 a h fun g h=>
 L g h fun j h=>
 U [i0,iS,i0,.aj] [.mk 0 1 (.c (pi 3)),.mk 1 1 (.c j)] h fun k h=>
 S 4 b k h fun l h=>
 .ret (T101 b i0 i0) h) (.nm (T104 a b) h))
def k284_2:KF:=K3 y1 y2 y11 fun c i x h a b d=>
 Q d (pi 2) h fun e h=>
 x (T394 a b d e) h
def k284_1:KF:=K2 y1 y2 fun c i x h a b=>
 A 0 a h fun d h=>
 L d h fun e h=>
 x (T393 a b e) h
def k284_10:KF:=K4 y1 y2 y5 y6 fun c i x h a b d e=>
 D e i1 h fun f h=>
 .nm (T288 a b d f) h
def k284_9:KF:=K4 y1 y2 y5 y6 fun c i x h a b d e=>
 A 3 a h fun f h=>
 L f h fun g h=>
 X 5 g e h fun j h=>
 M 5 j h fun k h=>
 C c 284 [k] h fun l h=>
 E 0 l h fun m h=>
 E 1 l h fun n h=>
 E 2 l h fun o h=>
 O 336 4 (.k1 (Y4 i0 iS i0 .aj)) h fun p h=>
 S 4 p m h fun q h=>
 tR (dH n i0 h) fun s h=>
 I s (U [i0,iS,i0,.aj] [] h fun t h=>
 S 4 b t h fun v h=>
 .ret (T101 b n o) h) (A 3 d h fun t h=>
 L t h fun v h=>
 M 4 p h fun w h=>
 tR (bs 336 4 1 [i0,iS,i0,.aj] [.mk 0 4 (.c w)] h) fun y h=>
 tR (eI 336 4 v y h) fun z h=>
 A 3 d h fun a0 h=>
 W a0 z h fun a1 h=>
 x (T288 a b d e) h)
def k284_8:KF:=K4 y1 y2 y5 y6 fun c i x h a b d e=>
 A 3 a h fun f h=>
 L f h fun g h=>
 G g h fun j h=>
 Y e j h fun k h=>
 I k (x (T288 a b d e) h) (.ex 1 (T26 b d) h)
def k284_7:KF:=K3 y1 y2 y5 fun c i x h a b d=>
 x (T288 a b d i1) h
def k284_11:KF:=K2 y2 y5 fun c i x h a b=>
 M 4 b h fun d h=>
 S 4 a d h fun e h=>
 .ret (T101 a i0 i0) h
def k284_6:KF:=K2 y1 y2 fun c i x h a b=>
 A 3 a h fun d h=>
 L d h fun e h=>
 X 5 e i0 h fun f h=>
 A 1 f h fun g h=>
 L g h fun j h=>
 U [i0,iS,i0,.aj] [.mk 0 1 (.c (pi 4)),.mk 1 1 (.c j)] h fun k h=>
 O 336 4 (.k1 (Y4 i0 iS i0 .aj)) h fun l h=>
 S 4 l k h fun m h=>
 x (T183 a b l) h
def k284_0:KF:=K1 y0 fun c i x h a=>
 B 299 a h fun b h=>
 O 336 4 (.k1 (Y4 i0 iS i0 .aj)) h fun d h=>
 x (T104 b d) h
def x284:AC:=(.ah k284_0 (.seq (.ah k284_1 (.block 0 (.ah k284_2 (.cond r12 (.seq (.ah k284_3 (.cond r17 (.seq (.jQ [q 0 (o d18 (.build [i0,iS,i0,.aj] [])),
 w (o .no (.vg 4 r2 r18)),
 qf 1 d19 4 r1,
 ql 1 d20 r19,
 q 0 (m d3 (.c (pi 20))),
 q 0 (m d4 r20)]) .ret) .skip)) (.ah k284_4 .skip)) (.ah k284_5 .skip))))) (.seq (.seq (.ops [of d34 0 r1,
 ol d35 r34,
 o d36 (.bin .ne r35 a1),
 m d37 r36,
 .g .h2 .h5 false d38 (.op (.dh 3 r1)),
 .g .h2 .h5 false d39 (.op (.cY r38)),
 .g .h2 .h5 false d40 (.op (.len r39)),
 .g .h2 .h5 false d41 (.op (.bin .eq r40 a0)),
 o d42 (.pick r37 (.c (.bool true)) r41),
 m d43 r42,
 .g .h2 .hb false d44 (.op (.dh 3 r1)),
 .g .h2 .hb false d45 (.op (.cY r44)),
 .g .h2 .hb false d46 (.op (.dn 5 r45 a0)),
 .g .h2 .hb false d47 (.op (.dh 0 r46)),
 .g .h2 .hb false d48 (.op (.cY r47)),
 .g .h2 .hb false d49 (.op (.bin .ne r48 a2)),
 o d50 (.pick r43 (.c (.bool true)) r49),
 m d51 r50,
 .g .h3 .h3 false d52 (.op (.dh 3 r1)),
 .g .h3 .h3 false d53 (.op (.cY r52)),
 .g .h3 .h3 false d54 (.op (.dn 5 r53 a0)),
 .g .h3 .h3 false d55 (.op (.dh 1 r54)),
 .g .h3 .h3 false d56 (.op (.cY r55)),
 .g .h3 .h3 false d57 (.call 389 [r56]),
 .g .h3 .h3 false d58 (.op (.bin .eq r57 a0)),
 o d59 (.pick r51 (.c (.bool true)) r58)]) (.cond r59 (.seq (.jQ [q 0 (o d60 (.build [i0,iS,i0,.aj] [])),
 w (o .no (.vg 4 r2 r60)),
 qf 1 d61 4 r1,
 ql 1 d62 r61,
 q 0 (m d3 (.c (pi 12))),
 q 0 (m d4 r62)]) .ret) .skip)) (.seq (.seq (.jQ [qf 0 d67 3 r1,
 ql 0 d68 r67,
 q 0 (o d69 (.dn 5 r68 a0)),
 qf 0 d70 1 r69,
 ql 0 d71 r70,
 w (oc d72 389 [r71]),
 qf 1 d63 3 r1,
 ql 1 d64 r63,
 q 1 (o d65 (.len r64)),
 q 1 (o d66 (.bin .sub r65 a1)),
 q 0 (o d73 (.bin .ne r66 r72))]) (.cond r73 (.seq (.jQ [q 0 (o d74 (.build [i0,iS,i0,.aj] [])),
 w (o .no (.vg 4 r2 r74)),
 qf 1 d75 4 r1,
 ql 1 d76 r75,
 q 0 (m d3 (.c (pi 23))),
 q 0 (m d4 r76)]) .ret) .skip)) (.ah k284_6 (.seq (.ah k284_7 (.block 1 (.loop (.ah k284_8 (.ah k284_9 (.ah k284_10 .skip)))))) (.ah k284_11 .skip)))))))
def f284:AF:=.mk x284 [.agg 4 .h0 .h2,.t .h0 .h3,.t .h0 .h4]
def k285_4:KF:=K3 y0 y5 y6 fun c i x h a b d=>
 D d i1 h fun e h=>
 .nm (T396 a b e) h
def k285_3:KF:=K3 y0 y5 y6 fun c i x h a b d=>
 X 5 a d h fun e h=>
 M 5 e h fun f h=>
 C c 283 [f] h fun g h=>
 E 0 g h fun j h=>
 E 1 g h fun k h=>
 E 2 g h fun l h=>
 tR (dH k i0 h) fun m h=>
 I m (.ret (T101 .aj k l) h) (tR (bs 9 1 1 [iS] [.mk 0 1 (.c j)] h) fun n h=>
 tR (eI 9 1 b n h) fun o h=>
 x (T396 a o d) h)
def k285_2:KF:=K3 y0 y5 y6 fun c i x h a b d=>
 G a h fun e h=>
 Y d e h fun f h=>
 I f (x (T396 a b d) h) (.ex 0 (T55 b) h)
def k285_1:KF:=K2 y0 y5 fun c i x h a b=>
 x (T396 a b i0) h
def k285_5:KF:=K1 y5 fun c i x h a=>
 .ret (T101 a i0 i0) h
def k285_0:KF:=K1 y0 fun c i x h a=>
 x (T20 a .aj) h
def x285:AC:=(.ah k285_0 (.seq (.ah k285_1 (.block 0 (.loop (.ah k285_2 (.ah k285_3 (.ah k285_4 .skip)))))) (.ah k285_5 .skip)))
def f285:AF:=.mk x285 [.t .h0 .h2,.t .h0 .h3,.t .h0 .h4]
def f286:AF:=.mk b286 [.agg 3 .h0 .h2,.t .h0 .h3,.t .h0 .h4]
def k287_7:KF:=K3 y1 y3 y4 fun c i x h a b d=>
 D d i1 h fun e h=>
 .nm (T220 a b e) h
def k287_6:KF:=K3 y1 y3 y4 fun c i x h a b d=>
 tR (lK d i0 h) fun e h=>
 I e (tR (db b (.str [32]) h) fun f h=>
 A 3 a h fun g h=>
 L g h fun j h=>
 X 5 j d h fun k h=>
 M 5 k h fun l h=>
 C c 287 [l] h fun m h=>
 tR (db f m h) fun n h=>
 x (T220 a n d) h) (A 3 a h fun f h=>
 L f h fun g h=>
 X 5 g d h fun j h=>
 M 5 j h fun k h=>
 C c 287 [k] h fun l h=>
 tR (db b l h) fun m h=>
 x (T220 a m d) h)
def k287_5:KF:=K3 y1 y3 y4 fun c i x h a b d=>
 A 3 a h fun e h=>
 L e h fun f h=>
 G f h fun g h=>
 Y d g h fun j h=>
 I j (x (T220 a b d) h) (.ex 1 (T49 b) h)
def k287_4:KF:=K2 y1 y3 fun c i x h a b=>
 x (T220 a b i0) h
def k287_8:KF:=K1 y3 fun c i x h a=>
 tR (db a (.str [41]) h) fun b h=>
 .ret (T1 b) h
def k287_3:KF:=K1 y1 fun c i x h a=>
 x (T165 a (.str [40])) h
def k287_9:KF:=K2 y1 y6 fun c i x h a b=>
 Q b (pi 2) h fun d h=>
 I d (A 1 a h fun e h=>
 L e h fun f h=>
 .ret (T1 f) h) (Q b (pi 3) h fun e h=>
 I e (A 2 a h fun f h=>
 L f h fun g h=>
 C c 390 [g] h fun j h=>
 .ret (T1 j) h) (Q b (pi 4) h fun f h=>
 I f (A 1 a h fun g h=>
 L g h fun j h=>
 C c 391 [j] h fun k h=>
 .ret (T1 k) h) (.nm T15 h)))
def k287_2:KF:=K2 y1 y6 fun c i x h a b=>
 Q b i1 h fun d h=>
 x (T398 a b d) h
def k287_1:KF:=K1 y1 fun c i x h a=>
 A 0 a h fun b h=>
 L b h fun d h=>
 x (T328 a d) h
def k287_10:KF:=fun c i x r h=>
 .ret (T1 iS) h
def k287_0:KF:=K1 y0 fun c i x h a=>
 B 299 a h fun b h=>
 x (T162 b) h
def x287:AC:=(.ah k287_0 (.seq (.ah k287_1 (.block 0 (.ah k287_2 (.cond r7 (.ah k287_3 (.seq (.ah k287_4 (.block 1 (.loop (.ah k287_5 (.ah k287_6 (.ah k287_7 .skip)))))) (.ah k287_8 .skip))) (.ah k287_9 .skip))))) (.ah k287_10 .skip)))
def f287:AF:=.mk x287 [.t .h0 .h2]
def k288_5:KF:=K4 y1 y2 y3 y4 fun c i x h a b d e=>
 D e i1 h fun f h=>
 .nm (T399 a b d f) h
def k288_4:KF:=K4 y1 y2 y3 y4 fun c i x h a b d e=>
 A 3 a h fun f h=>
 L f h fun g h=>
 G g h fun j h=>
 Y e j h fun k h=>
 I k (x (T399 a b d e) h) (.ex 1 (T18 b d) h)
def k288_3:KF:=K3 y1 y2 y3 fun c i x h a b d=>
 x (T399 a b d i0) h
def k288_6:KF:=K2 y2 y3 fun c i x h a b=>
 M 5 b h fun d h=>
 S 5 a d h fun e h=>
 .ret (T1 a) h
def k288_2:KF:=K2 y1 y2 fun c i x h a b=>
 A 1 a h fun d h=>
 L d h fun e h=>
 U [i0,iS,i0,.aj,i0] [.mk 0 1 (.c (pi 2)),.mk 1 1 (.c e)] h fun f h=>
 tR (bs 299 5 1 [i0,iS,i0,.aj,i0] [.mk 0 5 (.c f)] h) fun g h=>
 U [i0,iS,i0,.aj,i0] [.mk 0 1 (.c i1),.mk 3 1 (.c g)] h fun j h=>
 O 299 5 (.k1 (Y5 i0 iS i0 .aj i0)) h fun k h=>
 S 5 k j h fun l h=>
 x (T28 a b k) h
def k288_1:KF:=K2 y1 y2 fun c i x h a b=>
 A 0 a h fun d h=>
 L d h fun e h=>
 Q e i1 h fun f h=>
 I f (A 1 a h fun g h=>
 L g h fun j h=>
 U [i0,iS,i0,.aj,i0] [.mk 0 1 (.c (pi 2)),.mk 1 1 (.c j)] h fun k h=>
 S 5 b k h fun l h=>
 .ret (T1 b) h) (Q e (pi 2) h fun g h=>
 I g (A 2 a h fun j h=>
 L j h fun k h=>
 U [i0,iS,i0,.aj,i0] [.mk 0 1 (.c (pi 3)),.mk 2 1 (.c k)] h fun l h=>
 S 5 b l h fun m h=>
 .ret (T1 b) h) (Q e (pi 3) h fun j h=>
 I j (A 1 a h fun k h=>
 L k h fun l h=>
 U [i0,iS,i0,.aj,i0] [.mk 0 1 (.c (pi 4)),.mk 1 1 (.c l)] h fun m h=>
 S 5 b m h fun n h=>
 .ret (T1 b) h) (x (T104 a b) h)))
def k288_0:KF:=K1 y0 fun c i x h a=>
 B 336 a h fun b h=>
 O 299 5 (.k1 (Y5 i0 iS i0 .aj i0)) h fun d h=>
 M 4 b h fun e h=>
 C c 392 [e] h fun f h=>
 tR (cZ f h) fun g h=>
 I g (U [i0,iS,i0,.aj,i0] [.mk 0 1 (.c i1)] h fun j h=>
 S 5 d j h fun k h=>
 .ret (T1 d) h) (x (T104 b d) h)
def x288:AC:=(.ah k288_0 (.ah k288_1 (.ah k288_2 (.seq (.ah k288_3 (.block 1 (.loop (.ah k288_4 (.seq (.block 2 (.jQ [qf 0 d40 3 r1,
 ql 0 d41 r40,
 q 0 (m d42 r4),
 q 0 (o d43 (.dn 4 r41 r42)),
 q 0 (o d44 (.kY 4 r43)),
 w (oc d45 288 [r44]),
 w (o d46 (.bD 299 5 1 [i0,iS,i0,.aj,i0] [.mk 0 5 r45])),
 qf 2 d38 3 r3,
 ql 2 d39 r38,
 w (o d47 (.app 299 5 r39 r46)),
 qf 0 d48 3 r3,
 w (os r48 r47)])) (.ah k288_5 .skip)))))) (.ah k288_6 .skip)))))
def f288:AF:=.mk x288 [.agg 5 .h0 .h2]
def k289_4:KF:=K3 y0 y3 y4 fun c i x h a b d=>
 D d i1 h fun e h=>
 .nm (T4 a b e) h
def k289_3:KF:=K3 y0 y3 y4 fun c i x h a b d=>
 tR (lK d i0 h) fun e h=>
 I e (tR (db b (.str [32]) h) fun f h=>
 X 1 a d h fun g h=>
 L g h fun j h=>
 tR (db f j h) fun k h=>
 x (T4 a k d) h) (X 1 a d h fun f h=>
 L f h fun g h=>
 tR (db b g h) fun j h=>
 x (T4 a j d) h)
def k289_2:KF:=K3 y0 y3 y4 fun c i x h a b d=>
 G a h fun e h=>
 Y d e h fun f h=>
 I f (x (T4 a b d) h) (.ex 0 (T49 b) h)
def k289_1:KF:=K2 y0 y3 fun c i x h a b=>
 x (T4 a b i0) h
def k289_5:KF:=K1 y3 fun c i x h a=>
 tR (db a (.str [41]) h) fun b h=>
 .ret (T1 b) h
def k289_0:KF:=K1 y0 fun c i x h a=>
 x (T3 a (.str [40])) h
def x289:AC:=(.ah k289_0 (.seq (.ah k289_1 (.block 0 (.loop (.ah k289_2 (.ah k289_3 (.ah k289_4 .skip)))))) (.ah k289_5 .skip)))
def f289:AF:=.mk x289 [.t .h0 .h2]
def k290_0:KF:=K2 y0 y1 fun c i x h a b=>
 B 336 a h fun d h=>
 M 4 d h fun e h=>
 C c 392 [e] h fun f h=>
 tR (cZ f h) fun g h=>
 I g (.ret (T35 i0 (pi 22)) h) (M 4 d h fun j h=>
 C c 393 [j,b] h fun k h=>
 E 0 k h fun l h=>
 E 1 k h fun m h=>
 .ret (T35 l m) h)
def x290:AC:=(.ah k290_0 .skip)
def f290:AF:=.mk x290 [.t .h0 .h4,.t .h0 .h5]
def k291_4:KF:=K4 y1 y2 y7 y8 fun c i x h a b d e=>
 D e i1 h fun f h=>
 .nm (T257 a b d f) h
def k291_3:KF:=K4 y1 y2 y7 y8 fun c i x h a b d e=>
 A 2 b h fun f h=>
 L f h fun g h=>
 X 4 g e h fun j h=>
 M 4 j h fun k h=>
 C c 290 [k,a] h fun l h=>
 E 0 l h fun m h=>
 E 1 l h fun n h=>
 tR (dH n i0 h) fun o h=>
 I o (.ret (T126 .aj n iS) h) (A 3 b h fun p h=>
 L p h fun q h=>
 X 1 q e h fun s h=>
 L s h fun t h=>
 C c 189 [d,t] h fun v h=>
 E 0 v h fun w h=>
 E 1 v h fun y h=>
 I y (A 3 b h fun z h=>
 L z h fun a0 h=>
 X 1 a0 e h fun a1 h=>
 L a1 h fun a2 h=>
 .ret (T126 .aj (pi 21) a2) h) (A 3 b h fun z h=>
 L z h fun a0 h=>
 X 1 a0 e h fun a1 h=>
 L a1 h fun a2 h=>
 U [iS,i0] [.mk 0 1 (.c a2),.mk 1 1 (.c m)] h fun a3 h=>
 tR (bs 119 2 1 [iS,i0] [.mk 0 2 (.c a3)] h) fun a4 h=>
 tR (eI 119 2 d a4 h) fun a5 h=>
 x (T257 a b a5 e) h))
def k291_2:KF:=K4 y1 y2 y7 y8 fun c i x h a b d e=>
 A 3 b h fun f h=>
 L f h fun g h=>
 G g h fun j h=>
 Y e j h fun k h=>
 I k (x (T257 a b d e) h) (.ex 0 (T32 d) h)
def k291_1:KF:=K3 y1 y2 y7 fun c i x h a b d=>
 x (T257 a b d i0) h
def k291_5:KF:=K1 y7 fun c i x h a=>
 G a h fun b h=>
 tR (lK b (pi 6) h) fun d h=>
 I d (.ret (T126 .aj (pi 23) iS) h) (.ret (T126 a i0 iS) h)
def k291_0:KF:=K2 y0 y1 fun c i x h a b=>
 B 108 a h fun d h=>
 x (T256 b d .aj) h
def x291:AC:=(.ah k291_0 (.seq (.ah k291_1 (.block 0 (.loop (.ah k291_2 (.ah k291_3 (.ah k291_4 .skip)))))) (.ah k291_5 .skip)))
def f291:AF:=.mk x291 [.t .h0 .h4,.t .h0 .h5,.t .h0 .h6]
def f292:AF:=.mk b292 [.t .h0 .h6,.t .h0 .h7,.t .h0 .h8]
def f293:AF:=.mk b293 [.t .h0 .h4,.t .h0 .h5,.t .h0 .h6]
def k294_3:KF:=K4 y0 y1 y5 y67 fun c i x h a b d e=>
 I e (.ret (T2 (.bool false)) h) (.nm (T48 a b d) h)
def k294_4:KF:=K3 y0 y1 y5 fun c i x h a b d=>
 D d i1 h fun e h=>
 .nm (T48 a b e) h
def k294_2:KF:=K3 y0 y1 y5 fun c i x h a b d=>
 G a h fun e h=>
 Y d e h fun f h=>
 I f (x (T48 a b d) h) (.ex 0 T15 h)
def k294_1:KF:=K2 y0 y1 fun c i x h a b=>
 x (T48 a b i0) h
def k294_5:KF:=fun c i x r h=>
 .ret (T2 (.bool true)) h
def k294_0:KF:=K2 y0 y1 fun c i x h a b=>
 G a h fun d h=>
 G b h fun e h=>
 tR (dH d e h) fun f h=>
 I f (.ret (T2 (.bool false)) h) (x (T13 a b) h)
def x294:AC:=(.ah k294_0 (.seq (.ah k294_1 (.block 0 (.loop (.ah k294_2 (.seq (.block 1 (.seq (.ops [m d17 r0,
 m d18 r5,
 o d19 (.dn 4 r17 r18),
 of d20 0 r19,
 ol d21 r20,
 m d22 r1,
 m d23 r5,
 o d24 (.dn 4 r22 r23),
 of d25 0 r24,
 ol d26 r25,
 o d27 (.bin .ne r21 r26),
 m d28 r27,
 .g .h1 .hc false d29 (.op (.mv r0)),
 .g .h1 .hc false d30 (.op (.mv r5)),
 .g .h1 .hc false d31 (.op (.dn 4 r29 r30)),
 .g .h1 .hc false d32 (.op (.dh 1 r31)),
 .g .h1 .hc false d33 (.op (.cY r32)),
 .g .h1 .hc false d34 (.op (.mv r1)),
 .g .h1 .hc false d35 (.op (.mv r5)),
 .g .h1 .hc false d36 (.op (.dn 4 r34 r35)),
 .g .h1 .hc false d37 (.op (.dh 1 r36)),
 .g .h1 .hc false d38 (.op (.cY r37)),
 .g .h1 .hc false d39 (.op (.bin .sne r33 r38)),
 o d40 (.pick r28 (.c (.bool true)) r39),
 m d41 r40,
 .g .h2 .h9 false d42 (.op (.mv r0)),
 .g .h2 .h9 false d43 (.op (.mv r5)),
 .g .h2 .h9 false d44 (.op (.dn 4 r42 r43)),
 .g .h2 .h9 false d45 (.op (.dh 2 r44)),
 .g .h2 .h9 false d46 (.op (.cY r45)),
 .g .h2 .h9 false d47 (.op (.mv r1)),
 .g .h2 .h9 false d48 (.op (.mv r5)),
 .g .h2 .h9 false d49 (.op (.dn 4 r47 r48)),
 .g .h2 .h9 false d50 (.op (.dh 2 r49)),
 .g .h2 .h9 false d51 (.op (.cY r50)),
 .g .h2 .h9 false d52 (.op (.bin .ne r46 r51)),
 o d53 (.pick r41 (.c (.bool true)) r52),
 m d54 r53,
 .g .h3 .h6 false d55 (.op (.mv r0)),
 .g .h3 .h6 false d56 (.op (.mv r5)),
 .g .h3 .h6 false d57 (.op (.dn 4 r55 r56)),
 .g .h3 .h6 false d58 (.op (.dh 3 r57)),
 .g .h3 .h6 false d59 (.op (.cY r58)),
 .g .h3 .h6 false d60 (.op (.mv r1)),
 .g .h3 .h6 false d61 (.op (.mv r5)),
 .g .h3 .h6 false d62 (.op (.dn 4 r60 r61)),
 .g .h3 .h6 false d63 (.op (.dh 3 r62)),
 .g .h3 .h6 false d64 (.op (.cY r63)),
 .g .h3 .h6 false d65 (.call 294 [r59,r64]),
 .g .h3 .h6 false d66 (.op (.un .not r65)),
 o d67 (.pick r54 (.c (.bool true)) r66)]) (.ah k294_3 .skip))) (.ah k294_4 .skip)))))) (.ah k294_5 .skip)))
def f294:AF:=.mk x294 [.t .h0 .h4]
def k295_2:KF:=K3 y0 y1 y5 fun c i x h a b d=>
 G a h fun e h=>
 Y d e h fun f h=>
 I f (X 1 a d h fun g h=>
 L g h fun j h=>
 X 1 b d h fun k h=>
 L k h fun l h=>
 tR (Bq j l h) fun m h=>
 I m (.ret (T2 (.bool false)) h) (D d i1 h fun n h=>
 .nm (T48 a b n) h)) (.ex 0 (T48 a b d) h)
def k295_1:KF:=K2 y0 y1 fun c i x h a b=>
 x (T48 a b i0) h
def k295_3:KF:=fun c i x r h=>
 .ret (T2 (.bool true)) h
def k295_0:KF:=K2 y0 y1 fun c i x h a b=>
 G a h fun d h=>
 G b h fun e h=>
 tR (dH d e h) fun f h=>
 I f (.ret (T2 (.bool false)) h) (x (T13 a b) h)
def x295:AC:=(.ah k295_0 (.seq (.ah k295_1 (.block 0 (.loop (.ah k295_2 .skip)))) (.ah k295_3 .skip)))
def f295:AF:=.mk x295 [.t .h0 .h4]
def k296_2:KF:=K2 y0 y3 fun c i x h a b=>
 G a h fun d h=>
 Y b d h fun e h=>
 I e (X 2 a b h fun f h=>
 A 1 f h fun g h=>
 L g h fun j h=>
 C c 305 [j] h fun k h=>
 Y k i0 h fun l h=>
 I l (.ret (T1 (.bool false)) h) (D b i1 h fun m h=>
 .nm (T3 a m) h)) (.ex 0 (T3 a b) h)
def k296_1:KF:=K1 y0 fun c i x h a=>
 x (T3 a i0) h
def k296_3:KF:=K1 y0 fun c i x h a=>
 C c 304 [a] h fun b h=>
 .ret (T1 b) h
def k296_0:KF:=K1 y0 fun c i x h a=>
 x (T0 a) h
def x296:AC:=(.ah k296_0 (.seq (.ah k296_1 (.block 0 (.loop (.ah k296_2 .skip)))) (.ah k296_3 .skip)))
def f296:AF:=.mk x296 [.t .h0 .h2]
def k297_4:KF:=K5 y1 y2 y3 y9 y10 fun c i x h a b d e f=>
 D f i1 h fun g h=>
 .nm (T401 a b d e g) h
def k297_3:KF:=K5 y1 y2 y3 y9 y10 fun c i x h a b d e f=>
 A 2 d h fun g h=>
 L g h fun j h=>
 X 4 j f h fun k h=>
 M 4 k h fun l h=>
 C c 395 [l,a,b] h fun m h=>
 E 0 m h fun n h=>
 E 1 m h fun o h=>
 O 39 3 (.k1 (Y3 i0 i0 iS)) h fun p h=>
 S 3 p n h fun q h=>
 tR (dH o i0 h) fun s h=>
 I s (.ret (T84 .aj (.bool false) o) h) (A 0 d h fun t h=>
 L t h fun v h=>
 Q v (pi 2) h fun w h=>
 I w (A 1 p h fun y h=>
 L y h fun z h=>
 tR (dH z i0 h) fun a0 h=>
 .ret (T84 b a0 i0) h) (M 3 p h fun y h=>
 tR (bs 39 3 1 [i0,i0,iS] [.mk 0 3 (.c y)] h) fun z h=>
 tR (eI 39 3 e z h) fun a0 h=>
 x (T401 a b d a0 f) h))
def k297_2:KF:=K5 y1 y2 y3 y9 y10 fun c i x h a b d e f=>
 A 2 d h fun g h=>
 L g h fun j h=>
 G j h fun k h=>
 Y f k h fun l h=>
 I l (x (T401 a b d e f) h) (.ex 0 (T107 e) h)
def k297_1:KF:=K4 y1 y2 y3 y9 fun c i x h a b d e=>
 x (T401 a b d e i0) h
def k297_5:KF:=K1 y9 fun c i x h a=>
 .ret (T84 a (.bool true) i0) h
def k297_0:KF:=K3 y0 y1 y2 fun c i x h a b d=>
 B 108 a h fun e h=>
 x (T400 b d e .aj) h
def x297:AC:=(.ah k297_0 (.seq (.ah k297_1 (.block 0 (.loop (.ah k297_2 (.ah k297_3 (.ah k297_4 .skip)))))) (.ah k297_5 .skip)))
def f297:AF:=.mk x297 [.t .h0 .h6,.t .h0 .h7,.t .h0 .h8]
def f298:AF:=.mk b298 [.t .h0 .ha,.t .h0 .hb]
def f299:AF:=.mk b299 [.t .h0 .h6,.t .h0 .h7]
def k300_3:KF:=K4 y0 y1 y5 y6 fun c i x h a b d e=>
 D e i1 h fun f h=>
 .nm (T9 a b d f) h
def k300_2:KF:=K4 y0 y1 y5 y6 fun c i x h a b d e=>
 G b h fun f h=>
 Y e f h fun g h=>
 I g (X 1 b e h fun j h=>
 L j h fun k h=>
 C c 189 [a,k] h fun l h=>
 E 0 l h fun m h=>
 E 1 l h fun n h=>
 tR (bs 3 1 1 [i0] [.mk 0 1 (.c m)] h) fun o h=>
 tR (eI 3 1 d o h) fun p h=>
 x (T9 a b p e) h) (.ex 0 (T55 d) h)
def k300_1:KF:=K3 y0 y1 y5 fun c i x h a b d=>
 x (T9 a b d i0) h
def k300_4:KF:=K1 y5 fun c i x h a=>
 .ret (T2 a) h
def k300_0:KF:=K2 y0 y1 fun c i x h a b=>
 x (T48 a b .aj) h
def x300:AC:=(.ah k300_0 (.seq (.ah k300_1 (.block 0 (.loop (.ah k300_2 (.ah k300_3 .skip))))) (.ah k300_4 .skip)))
def f300:AF:=.mk x300 [.t .h0 .h4]
def f301:AF:=.mk b301 [.t .h0 .h4]
def k302_4:KF:=K3 y0 y4 y42 fun c i x h a b d=>
 I d (.ret (T18 .aj i1) h) (.nm (T286 a b) h)
def k302_3:KF:=K2 y0 y4 fun c i x h a b=>
 X 2 a b h fun d h=>
 A 1 d h fun e h=>
 L e h fun f h=>
 C c 401 [f] h fun g h=>
 E 0 g h fun j h=>
 E 1 g h fun k h=>
 E 2 g h fun l h=>
 x (T428 a b l) h
def k302_5:KF:=K2 y0 y4 fun c i x h a b=>
 D b i1 h fun d h=>
 .nm (T286 a d) h
def k302_2:KF:=K2 y0 y4 fun c i x h a b=>
 G a h fun d h=>
 Y b d h fun e h=>
 I e (x (T286 a b) h) (.ex 0 (T0 a) h)
def k302_1:KF:=K1 y0 fun c i x h a=>
 x (T286 a i0) h
def k302_10:KF:=K5 y0 y8 y9 y10 y65 fun c i x h a b d e f=>
 I f (.nm (T430 a b d e) h) (.ex 4 (T430 a b d e) h)
def k302_11:KF:=K4 y0 y8 y9 y10 fun c i x h a b d e=>
 D e i1 h fun f h=>
 .nm (T430 a b d f) h
def k302_12:KF:=K5 y0 y8 y9 y10 y84 fun c i x h a b d e f=>
 I f (X 2 b e h fun g h=>
 A 1 g h fun j h=>
 L j h fun k h=>
 X 2 a d h fun l h=>
 A 1 l h fun m h=>
 L m h fun n h=>
 C c 404 [k,n] h fun o h=>
 E 0 o h fun p h=>
 E 1 o h fun q h=>
 tR (cZ q h) fun s h=>
 I s (.ret (T18 .aj (pi 27)) h) (X 2 b e h fun t h=>
 A 1 t h fun v h=>
 W v p h fun w h=>
 .ex 3 (T430 a b d e) h)) (.nm (T430 a b d e) h)
def k302_13:KF:=K5 y0 y8 y9 y10 y13 fun c i x h a b d e f=>
 tR (da 2 (.c b) (.some (.c e)) .none .none .nil h) fun g h=>
 tR (eI 167 2 f g h) fun j h=>
 .nm (T81 a j d) h
def k302_9:KF:=K3 y0 y8 y9 fun c i x h a b d=>
 x (T430 a b d i0) h
def k302_14:KF:=K3 y0 y8 y9 fun c i x h a b d=>
 D d i1 h fun e h=>
 .nm (T81 a b e) h
def k302_8:KF:=K3 y0 y8 y9 fun c i x h a b d=>
 G a h fun e h=>
 Y d e h fun f h=>
 I f (x (T81 a b d) h) (.ex 2 (T37 b) h)
def k302_7:KF:=K2 y0 y8 fun c i x h a b=>
 x (T81 a b i0) h
def k302_18:KF:=K3 y8 y14 y15 fun c i x h a b d=>
 D d i1 h fun e h=>
 .nm (T432 a b e) h
def k302_17:KF:=K3 y8 y14 y15 fun c i x h a b d=>
 G a h fun e h=>
 Y d e h fun f h=>
 I f (X 2 a d h fun g h=>
 A 1 g h fun j h=>
 L j h fun k h=>
 tR (bK (.cop .neq) k (.aM .f64 0 0) h) fun l h=>
 I l (X 2 a d h fun m h=>
 M 2 m h fun n h=>
 tR (bs 167 2 1 [.aj,(.aM .f64 0 0)] [.mk 0 2 (.c n)] h) fun o h=>
 tR (eI 167 2 b o h) fun p h=>
 x (T432 a p d) h) (x (T432 a b d) h)) (.ex 6 (T433 b) h)
def k302_16:KF:=K2 y8 y14 fun c i x h a b=>
 x (T432 a b i0) h
def k302_19:KF:=K1 y14 fun c i x h a=>
 .ret (T18 a i0) h
def k302_15:KF:=K1 y8 fun c i x h a=>
 x (T431 a .aj) h
def k302_6:KF:=K1 y0 fun c i x h a=>
 x (T429 a .aj) h
def k302_0:KF:=K1 y0 fun c i x h a=>
 x (T0 a) h
def x302:AC:=(.ah k302_0 (.seq (.ah k302_1 (.block 0 (.loop (.ah k302_2 (.seq (.block 1 (.ah k302_3 (.seq (.ops [m d32 r7,
 o d33 (.un .not r32),
 m d34 r33,
 .g .h2 .h2 false d35 (.op (.mv r0)),
 .g .h2 .h2 false d36 (.op (.mv r4)),
 .g .h2 .h2 false d37 (.op (.dn 2 r35 r36)),
 .g .h2 .h2 false d38 (.op (.dh 0 r37)),
 .g .h2 .h2 false d39 (.op (.cY r38)),
 .g .h2 .h2 false d40 (.call 402 [r39]),
 .g .h2 .h2 false d41 (.op (.un .not r40)),
 o d42 (.pick r34 (.c (.bool true)) r41)]) (.ah k302_4 .skip)))) (.ah k302_5 .skip)))))) (.ah k302_6 (.seq (.ah k302_7 (.block 2 (.loop (.ah k302_8 (.seq (.block 3 (.ah k302_9 (.seq (.block 4 (.loop (.seq (.seq (.ops [m d49 r10,
 m d50 r8,
 o d51 (.len r50),
 o d52 (.bin .lt r49 r51),
 m d53 r52,
 .g .h3 .h5 true d54 (.op (.mv r8)),
 .g .h3 .h5 true d55 (.op (.mv r10)),
 .g .h3 .h5 true d56 (.op (.dn 2 r54 r55)),
 .g .h3 .h5 true d57 (.op (.dh 0 r56)),
 .g .h3 .h5 true d58 (.op (.cY r57)),
 .g .h3 .h5 true d59 (.op (.mv r0)),
 .g .h3 .h5 true d60 (.op (.mv r9)),
 .g .h3 .h5 true d61 (.op (.dn 2 r59 r60)),
 .g .h3 .h5 true d62 (.op (.dh 0 r61)),
 .g .h3 .h5 true d63 (.op (.cY r62)),
 .g .h3 .h5 true d64 (.call 403 [r58,r63]),
 o d65 (.pick r53 r64 (.c (.bool false)))]) (.ah k302_10 .skip)) (.ah k302_11 .skip)))) (.seq (.seq (.ops [m d68 r10,
 m d69 r8,
 o d70 (.len r69),
 o d71 (.bin .lt r68 r70),
 m d72 r71,
 .g .h4 .h8 true d73 (.op (.mv r8)),
 .g .h4 .h8 true d74 (.op (.mv r10)),
 .g .h4 .h8 true d75 (.op (.dn 2 r73 r74)),
 .g .h4 .h8 true d76 (.op (.dh 0 r75)),
 .g .h4 .h8 true d77 (.op (.cY r76)),
 .g .h4 .h8 true d78 (.op (.mv r0)),
 .g .h4 .h8 true d79 (.op (.mv r9)),
 .g .h4 .h8 true d80 (.op (.dn 2 r78 r79)),
 .g .h4 .h8 true d81 (.op (.dh 0 r80)),
 .g .h4 .h8 true d82 (.op (.cY r81)),
 .g .h4 .h8 true d83 (.call 306 [r77,r82]),
 o d84 (.pick r72 r83 (.c (.bool false)))]) (.ah k302_12 .skip)) (.seq (.jQ [w (o d106 (.bD 167 2 0 [] [])),
 q 1 (m d107 r8),
 q 1 (m d108 r10),
 q 1 (o d109 (.slc 2 r107 .none (.some r108) .none)),
 w (o d110 (.app 167 2 r106 r109)),
 q 2 (m d112 r0),
 q 2 (m d113 r9),
 q 2 (o d114 (.dn 2 r112 r113)),
 qf 2 d115 0 r114,
 ql 2 d116 r115,
 n (o d111 (.bD 39 3 0 [] [])),
 w (o d117 (.app 39 3 r111 r116)),
 q 3 (m d118 r0),
 q 3 (m d119 r9),
 q 3 (o d120 (.dn 2 r118 r119)),
 qf 3 d121 1 r120,
 ql 3 d122 r121,
 w (oc d123 405 [r122]),
 q 0 (o d124 (.build [.aj,(.aM .f64 0 0)] [.mk 0 1 r117,.mk 1 1 r123])),
 w (o d125 (.bD 167 2 1 [.aj,(.aM .f64 0 0)] [.mk 0 2 r124])),
 w (o d126 (.app 167 2 r110 r125)),
 q 0 (m d13 r126)]) (.ah k302_13 .skip)))))) (.ah k302_14 .skip)))))) (.ah k302_15 (.seq (.ah k302_16 (.block 6 (.loop (.ah k302_17 (.ah k302_18 .skip))))) (.ah k302_19 .skip)))))))
def f302:AF:=.mk x302 [.t .h0 .h2,.t .h0 .h3]
def k303_0:KF:=K1 y0 fun c i x h a=>
 B 39 a h fun b h=>
 x (T162 b) h
def x303:AC:=(.ah k303_0 (.seq (.ops [of d3 0 r1,
 ol d4 r3,
 o d5 (.bin .eq r4 a1),
 m d6 r5,
 .g .h0 .h6 true d7 (.op (.dh 2 r1)),
 .g .h0 .h6 true d8 (.op (.cY r7)),
 .g .h0 .h6 true d9 (.op (.bin .seq r8 (.c iS))),
 o d10 (.pick r6 r9 (.c (.bool false))),
 m d11 r10,
 .g .h0 .hb false d12 (.op (.dh 0 r1)),
 .g .h0 .hb false d13 (.op (.cY r12)),
 .g .h0 .hb false d14 (.op (.bin .eq r13 a2)),
 .g .h0 .hb false d15 (.op (.mv r14)),
 .g .h0 .hf true d16 (.op (.dh 1 r1)),
 .g .h0 .hf true d17 (.op (.cY r16)),
 .g .h0 .hf true d18 (.op (.bin .eq r17 a0)),
 .g .h0 .hb false d19 (.op (.pick r15 r18 (.c (.bool false)))),
 .g .h0 .hb false d20 (.op (.mv r19)),
 .g .h1 .h4 true d21 (.op (.dh 2 r1)),
 .g .h1 .h4 true d22 (.op (.cY r21)),
 .g .h1 .h4 true d23 (.op (.gi r22)),
 .g .h1 .h4 true d24 (.op (.bin .le r23 (.c (pi 40)))),
 .g .h0 .hb false d25 (.op (.pick r20 r24 (.c (.bool false)))),
 o d26 (.pick r11 (.c (.bool true)) r25),
 m d2 r26]) .ret))
def f303:AF:=.mk x303 [.t .h0 .h2]
def k304_4:KF:=K3 y0 y3 y59 fun c i x h a b d=>
 I d (.ret (T1 (.bool false)) h) (.nm (T3 a b) h)
def k304_3:KF:=K2 y0 y3 fun c i x h a b=>
 X 2 a b h fun d h=>
 A 1 d h fun e h=>
 L e h fun f h=>
 C c 401 [f] h fun g h=>
 E 0 g h fun j h=>
 E 1 g h fun k h=>
 E 2 g h fun l h=>
 x (T6 a b j k l) h
def k304_5:KF:=K2 y0 y3 fun c i x h a b=>
 D b i1 h fun d h=>
 .nm (T3 a d) h
def k304_2:KF:=K2 y0 y3 fun c i x h a b=>
 G a h fun d h=>
 Y b d h fun e h=>
 I e (x (T3 a b) h) (.ex 0 T15 h)
def k304_1:KF:=K1 y0 fun c i x h a=>
 x (T3 a i0) h
def k304_6:KF:=fun c i x r h=>
 .ret (T1 (.bool true)) h
def k304_0:KF:=K1 y0 fun c i x h a=>
 x (T0 a) h
def x304:AC:=(.ah k304_0 (.seq (.ah k304_1 (.block 0 (.loop (.ah k304_2 (.seq (.block 1 (.ah k304_3 (.seq (.ops [m d23 r6,
 o d24 (.un .not r23),
 m d25 r24,
 .g .h1 .h9 false d26 (.op (.mv r4)),
 .g .h1 .h9 false d27 (.op (.bin .eq r26 a0)),
 .g .h1 .h9 false d28 (.op (.mv r5)),
 .g .h1 .h9 false d29 (.op (.bin .eq r28 a0)),
 .g .h1 .h9 false d30 (.op (.bin .beq r27 r29)),
 o d31 (.pick r25 (.c (.bool true)) r30),
 m d32 r31,
 .g .h2 .h0 false d33 (.op (.mv r0)),
 .g .h2 .h0 false d34 (.op (.mv r3)),
 .g .h2 .h0 false d35 (.op (.dn 2 r33 r34)),
 .g .h2 .h0 false d36 (.op (.dh 0 r35)),
 .g .h2 .h0 false d37 (.op (.cY r36)),
 .g .h2 .h0 false d38 (.call 402 [r37]),
 .g .h2 .h0 false d39 (.op (.un .not r38)),
 o d40 (.pick r32 (.c (.bool true)) r39),
 m d41 r40,
 .g .h2 .h9 false d42 (.op (.mv r3)),
 .g .h2 .h9 false d43 (.op (.bin .gt r42 a0)),
 .g .h2 .h9 false d44 (.op (.mv r43)),
 .g .h2 .hc true d45 (.op (.mv r0)),
 .g .h2 .hc true d46 (.op (.mv r3)),
 .g .h2 .hc true d47 (.op (.bin .sub r46 a1)),
 .g .h2 .hc true d48 (.op (.dn 2 r45 r47)),
 .g .h2 .hc true d49 (.op (.dh 0 r48)),
 .g .h2 .hc true d50 (.op (.cY r49)),
 .g .h2 .hc true d51 (.op (.mv r0)),
 .g .h2 .hc true d52 (.op (.mv r3)),
 .g .h2 .hc true d53 (.op (.dn 2 r51 r52)),
 .g .h2 .hc true d54 (.op (.dh 0 r53)),
 .g .h2 .hc true d55 (.op (.cY r54)),
 .g .h2 .hc true d56 (.call 403 [r50,r55]),
 .g .h2 .hc true d57 (.op (.un .not r56)),
 .g .h2 .h9 false d58 (.op (.pick r44 r57 (.c (.bool false)))),
 o d59 (.pick r41 (.c (.bool true)) r58)]) (.ah k304_4 .skip)))) (.ah k304_5 .skip)))))) (.ah k304_6 .skip)))
def f304:AF:=.mk x304 [.t .h0 .h2]
def k305_0:KF:=K1 y0 fun c i x h a=>
 C c 401 [a] h fun b h=>
 E 0 b h fun d h=>
 E 1 b h fun e h=>
 E 2 b h fun f h=>
 Z d e h fun g h=>
 .ret (T1 g) h
def x305:AC:=(.ah k305_0 .skip)
def f305:AF:=.mk x305 [.t .h0 .h2]
def f306:AF:=.mk b306 [.t .h0 .h4]
def f307:AF:=.mk b307 [.t .h0 .h2]
def f308:AF:=.mk b308 [.t .h0 .h3]
def f309:AF:=.mk b309 [.t .h0 .h4,.t .h0 .h5]
def f310:AF:=.mk b310 [.t .h0 .h4,.agg 2 .h0 .h5]
def f311:AF:=.mk b311 [.t .h0 .h6,.agg 2 .h0 .h7]
def f312:AF:=.mk b312 [.t .h0 .h4,.agg 2 .h0 .h5]
def f313:AF:=.mk b313 [.t .h0 .h4,.agg 2 .h0 .h5]
def f314:AF:=.mk b314 [.t .h0 .h6]
def f315:AF:=.mk b315 [.t .h0 .h4]
def f316:AF:=.mk b316 [.t .h0 .h4]
def f317:AF:=.mk b317 [.t .h0 .h4]
def f318:AF:=.mk b318 [.t .h0 .h6]
end
end Go.Am.Seat
