/- The program's code in a form that runs fast, written by program. Nothing is asked. -/
import Derived.Test.YtfikinbodiohiaaGreatDoorFast0
set_option linter.all false
namespace Go.Am.Seat
set_option maxRecDepth 20000
noncomputable section
def k138_3:KF:=K4 y0 y2 y5 y8 fun c i x h a b d e=>
 X 5 a i1 h fun f h=>
 A 1 f h fun g h=>
 L g h fun j h=>
 U [iS,iS,iS] [.mk 0 1 (.c d),.mk 1 1 (.c j),.mk 2 1 (.c e)] h fun k h=>
 S 3 b k h fun l h=>
 .ret (T48 b i0 i0) h
def k138_2:KF:=K3 y0 y2 y5 fun c i x h a b d=>
 X 5 a (pi 2) h fun e h=>
 M 5 e h fun f h=>
 C c 135 [f] h fun g h=>
 E 0 g h fun j h=>
 E 1 g h fun k h=>
 E 2 g h fun l h=>
 tR (cP k i0 h) fun m h=>
 I m (U [iS,iS,iS] [] h fun n h=>
 S 3 b n h fun o h=>
 .ret (T48 b k l) h) (x (T276 a b d j) h)
def k138_1:KF:=K3 y0 y2 y5 fun c i x h a b d=>
 G a h fun e h=>
 Q e (pi 2) h fun f h=>
 I f (U [iS,iS,iS] [.mk 0 1 (.c d),.mk 1 1 (.c (.str [99,111,117,110,116]))] h fun g h=>
 S 3 b g h fun j h=>
 .ret (T48 b i0 i0) h) (x (T104 a b d) h)
def k138_0:KF:=K1 y0 fun c i x h a=>
 O 214 3 (.k1 (Y3 iS iS iS)) h fun b h=>
 X 5 a i0 h fun d h=>
 M 5 d h fun e h=>
 C c 135 [e] h fun f h=>
 E 0 f h fun g h=>
 E 1 f h fun j h=>
 E 2 f h fun k h=>
 tR (cP j i0 h) fun l h=>
 I l (U [iS,iS,iS] [] h fun m h=>
 S 3 b m h fun n h=>
 .ret (T48 b j k) h) (x (T104 a b g) h)
def x138:AC:=(.ah k138_0 (.seq (.seq (.ops [m d22 r0,
 o d23 (.len r22),
 o d24 (.bin .eq r23 a2),
 m d25 r24,
 .g .h1 .h9 true d26 (.op (.mv r0)),
 .g .h1 .h9 true d27 (.op (.cn 5 r26 a1)),
 .g .h1 .h9 true d28 (.op (.cG 1 r27)),
 .g .h1 .h9 true d29 (.op (.bZ r28)),
 .g .h1 .h9 true d30 (.op (.bin .KX r29 (.c (.str [99,111,117,110,116])))),
 o d31 (.pick r25 r30 (.c (.bool false)))]) (.cond r31 (.seq (.iB [q 0 (o d32 (.build [iS,iS,iS] [])),
 w (o .no (.uK 3 r2 r32)),
 q 1 (m d33 r0),
 q 1 (o d34 (.cn 5 r33 a1)),
 qf 1 d35 4 r34,
 ql 1 d36 r35,
 q 0 (m d3 (.c (pi 12))),
 q 0 (m d4 r36)]) .ret) .skip)) (.ah k138_1 (.seq (.seq (.ops [m d42 r0,
 o d43 (.cn 5 r42 a1),
 of d44 1 r43,
 ol d45 r44,
 o d46 (.bin .KX r45 (.c (.str [115,117,109]))),
 m d47 r46,
 .g .h2 .hf true d48 (.op (.mv r0)),
 .g .h2 .hf true d49 (.op (.cn 5 r48 a1)),
 .g .h2 .hf true d50 (.op (.cG 1 r49)),
 .g .h2 .hf true d51 (.op (.bZ r50)),
 .g .h2 .hf true d52 (.op (.bin .KX r51 (.c (.str [109,105,110])))),
 o d53 (.pick r47 r52 (.c (.bool false))),
 m d54 r53,
 .g .h3 .h6 true d55 (.op (.mv r0)),
 .g .h3 .h6 true d56 (.op (.cn 5 r55 a1)),
 .g .h3 .h6 true d57 (.op (.cG 1 r56)),
 .g .h3 .h6 true d58 (.op (.bZ r57)),
 .g .h3 .h6 true d59 (.op (.bin .KX r58 (.c (.str [109,97,120])))),
 o d60 (.pick r54 r59 (.c (.bool false)))]) (.cond r60 (.seq (.iB [q 0 (o d61 (.build [iS,iS,iS] [])),
 w (o .no (.uK 3 r2 r61)),
 q 1 (m d62 r0),
 q 1 (o d63 (.cn 5 r62 a1)),
 qf 1 d64 4 r63,
 ql 1 d65 r64,
 q 0 (m d3 (.c (pi 12))),
 q 0 (m d4 r65)]) .ret) .skip)) (.ah k138_2 (.ah k138_3 .skip))))))
def f138:AF:=.mk x138 [.agg 3 .h0 .h2,.t .h0 .h3,.t .h0 .h4]
def k139_7:KF:=K3 y1 y3 y4 fun c i x h a b d=>
 D d i1 h fun e h=>
 .nm (T132 a b e) h
def k139_6:KF:=K3 y1 y3 y4 fun c i x h a b d=>
 tR (mE d i0 h) fun e h=>
 I e (tR (df b (.str [32]) h) fun f h=>
 A 3 a h fun g h=>
 L g h fun j h=>
 X 5 j d h fun k h=>
 M 5 k h fun l h=>
 C c 139 [l] h fun m h=>
 tR (df f m h) fun n h=>
 x (T132 a n d) h) (A 3 a h fun f h=>
 L f h fun g h=>
 X 5 g d h fun j h=>
 M 5 j h fun k h=>
 C c 139 [k] h fun l h=>
 tR (df b l h) fun m h=>
 x (T132 a m d) h)
def k139_5:KF:=K3 y1 y3 y4 fun c i x h a b d=>
 A 3 a h fun e h=>
 L e h fun f h=>
 G f h fun g h=>
 Y d g h fun j h=>
 I j (x (T132 a b d) h) (.ex 1 (T13 b) h)
def k139_4:KF:=K2 y1 y3 fun c i x h a b=>
 x (T132 a b i0) h
def k139_8:KF:=K1 y3 fun c i x h a=>
 tR (df a (.str [41]) h) fun b h=>
 .ret (T2 b) h
def k139_3:KF:=K1 y1 fun c i x h a=>
 x (T130 a (.str [40])) h
def k139_9:KF:=K2 y1 y6 fun c i x h a b=>
 Q b (pi 2) h fun d h=>
 I d (A 1 a h fun e h=>
 L e h fun f h=>
 .ret (T2 f) h) (Q b (pi 3) h fun e h=>
 I e (A 2 a h fun f h=>
 L f h fun g h=>
 C c 232 [g] h fun j h=>
 .ret (T2 j) h) (Q b (pi 4) h fun f h=>
 I f (A 1 a h fun g h=>
 L g h fun j h=>
 C c 233 [j] h fun k h=>
 .ret (T2 k) h) (.nm T28 h)))
def k139_2:KF:=K2 y1 y6 fun c i x h a b=>
 Q b i1 h fun d h=>
 x (T277 a b d) h
def k139_1:KF:=K1 y1 fun c i x h a=>
 A 0 a h fun b h=>
 L b h fun d h=>
 x (T89 a d) h
def k139_10:KF:=fun c i x r h=>
 .ret (T2 iS) h
def k139_0:KF:=K1 y0 fun c i x h a=>
 B 150 a h fun b h=>
 x (T35 b) h
def x139:AC:=(.ah k139_0 (.seq (.ah k139_1 (.block 0 (.ah k139_2 (.cond r7 (.ah k139_3 (.seq (.ah k139_4 (.block 1 (.loop (.ah k139_5 (.ah k139_6 (.ah k139_7 .skip)))))) (.ah k139_8 .skip))) (.ah k139_9 .skip))))) (.ah k139_10 .skip)))
def f139:AF:=.mk x139 [.t .h0 .h2]
def k140_5:KF:=K4 y1 y2 y3 y4 fun c i x h a b d e=>
 D e i1 h fun f h=>
 .nm (T278 a b d f) h
def k140_4:KF:=K4 y1 y2 y3 y4 fun c i x h a b d e=>
 A 3 a h fun f h=>
 L f h fun g h=>
 G g h fun j h=>
 Y e j h fun k h=>
 I k (x (T278 a b d e) h) (.ex 1 (T73 b d) h)
def k140_3:KF:=K3 y1 y2 y3 fun c i x h a b d=>
 x (T278 a b d i0) h
def k140_6:KF:=K2 y2 y3 fun c i x h a b=>
 M 5 b h fun d h=>
 S 5 a d h fun e h=>
 .ret (T2 a) h
def k140_2:KF:=K2 y1 y2 fun c i x h a b=>
 A 1 a h fun d h=>
 L d h fun e h=>
 U [i0,iS,i0,.ai,i0] [.mk 0 1 (.c (pi 2)),.mk 1 1 (.c e)] h fun f h=>
 tR (bs 150 5 1 [i0,iS,i0,.ai,i0] [.mk 0 5 (.c f)] h) fun g h=>
 U [i0,iS,i0,.ai,i0] [.mk 0 1 (.c i1),.mk 3 1 (.c g)] h fun j h=>
 O 150 5 (.k1 (Y5 i0 iS i0 .ai i0)) h fun k h=>
 S 5 k j h fun l h=>
 x (T216 a b k) h
def k140_1:KF:=K2 y1 y2 fun c i x h a b=>
 A 0 a h fun d h=>
 L d h fun e h=>
 Q e i1 h fun f h=>
 I f (A 1 a h fun g h=>
 L g h fun j h=>
 U [i0,iS,i0,.ai,i0] [.mk 0 1 (.c (pi 2)),.mk 1 1 (.c j)] h fun k h=>
 S 5 b k h fun l h=>
 .ret (T2 b) h) (Q e (pi 2) h fun g h=>
 I g (A 2 a h fun j h=>
 L j h fun k h=>
 U [i0,iS,i0,.ai,i0] [.mk 0 1 (.c (pi 3)),.mk 2 1 (.c k)] h fun l h=>
 S 5 b l h fun m h=>
 .ret (T2 b) h) (Q e (pi 3) h fun j h=>
 I j (A 1 a h fun k h=>
 L k h fun l h=>
 U [i0,iS,i0,.ai,i0] [.mk 0 1 (.c (pi 4)),.mk 1 1 (.c l)] h fun m h=>
 S 5 b m h fun n h=>
 .ret (T2 b) h) (x (T6 a b) h)))
def k140_0:KF:=K1 y0 fun c i x h a=>
 B 202 a h fun b h=>
 O 150 5 (.k1 (Y5 i0 iS i0 .ai i0)) h fun d h=>
 M 4 b h fun e h=>
 C c 234 [e] h fun f h=>
 tR (bG f h) fun g h=>
 I g (U [i0,iS,i0,.ai,i0] [.mk 0 1 (.c i1)] h fun j h=>
 S 5 d j h fun k h=>
 .ret (T2 d) h) (x (T6 b d) h)
def x140:AC:=(.ah k140_0 (.ah k140_1 (.ah k140_2 (.seq (.ah k140_3 (.block 1 (.loop (.ah k140_4 (.seq (.block 2 (.iB [qf 0 d40 3 r1,
 ql 0 d41 r40,
 q 0 (m d42 r4),
 q 0 (o d43 (.cn 4 r41 r42)),
 q 0 (o d44 (.jO 4 r43)),
 w (oc d45 140 [r44]),
 w (o d46 (.bN 150 5 1 [i0,iS,i0,.ai,i0] [.mk 0 5 r45])),
 qf 2 d38 3 r3,
 ql 2 d39 r38,
 w (o d47 (.app 150 5 r39 r46)),
 qf 0 d48 3 r3,
 w (os r48 r47)])) (.ah k140_5 .skip)))))) (.ah k140_6 .skip)))))
def f140:AF:=.mk x140 [.agg 5 .h0 .h2]
def k141_4:KF:=K3 y0 y3 y4 fun c i x h a b d=>
 D d i1 h fun e h=>
 .nm (T1 a b e) h
def k141_3:KF:=K3 y0 y3 y4 fun c i x h a b d=>
 tR (mE d i0 h) fun e h=>
 I e (tR (df b (.str [32]) h) fun f h=>
 X 1 a d h fun g h=>
 L g h fun j h=>
 tR (df f j h) fun k h=>
 x (T1 a k d) h) (X 1 a d h fun f h=>
 L f h fun g h=>
 tR (df b g h) fun j h=>
 x (T1 a j d) h)
def k141_2:KF:=K3 y0 y3 y4 fun c i x h a b d=>
 G a h fun e h=>
 Y d e h fun f h=>
 I f (x (T1 a b d) h) (.ex 0 (T13 b) h)
def k141_1:KF:=K2 y0 y3 fun c i x h a b=>
 x (T1 a b i0) h
def k141_5:KF:=K1 y3 fun c i x h a=>
 tR (df a (.str [41]) h) fun b h=>
 .ret (T2 b) h
def k141_0:KF:=K1 y0 fun c i x h a=>
 x (T0 a (.str [40])) h
def x141:AC:=(.ah k141_0 (.seq (.ah k141_1 (.block 0 (.loop (.ah k141_2 (.ah k141_3 (.ah k141_4 .skip)))))) (.ah k141_5 .skip)))
def f141:AF:=.mk x141 [.t .h0 .h2]
def k142_2:KF:=K3 y0 y3 y4 fun c i x h a b d=>
 G b h fun e h=>
 Y d e h fun f h=>
 I f (X 1 b d h fun g h=>
 L g h fun j h=>
 tR (aW j a h) fun k h=>
 I k (.ret (T2 (.bool false)) h) (D d i1 h fun l h=>
 .nm (T1 a b l) h)) (.ex 0 (T1 a b d) h)
def k142_1:KF:=K2 y0 y3 fun c i x h a b=>
 x (T1 a b i0) h
def k142_5:KF:=K3 y0 y5 y34 fun c i x h a b d=>
 I d (.ret (T2 (.bool false)) h) (.nm (T242 a b) h)
def k142_6:KF:=K2 y0 y5 fun c i x h a b=>
 D b i1 h fun d h=>
 .nm (T242 a d) h
def k142_4:KF:=K2 y0 y5 fun c i x h a b=>
 tR (iw a h) fun d h=>
 Y b d h fun e h=>
 I e (x (T242 a b) h) (.ex 2 (T4 a) h)
def k142_3:KF:=K1 y0 fun c i x h a=>
 x (T242 a i0) h
def k142_0:KF:=K1 y0 fun c i x h a=>
 tR (bs 9 1 23 [iS,iS,iS,iS,iS,iS,iS,iS,iS,iS,iS,iS,iS,iS,iS,iS,iS,iS,iS,iS,iS,iS,iS] [.mk 0 1 (.c (.str [116,97,98,108,101])),.mk 1 1 (.c (.str [102,105,108,116,101,114])),.mk 2 1 (.c (.str [112,114,111,106,101,99,116])),.mk 3 1 (.c (.str [106,111,105,110])),.mk 4 1 (.c (.str [117,110,105,111,110])),.mk 5 1 (.c (.str [100,105,115,116,105,110,99,116])),.mk 6 1 (.c (.str [103,114,111,117,112])),.mk 7 1 (.c (.str [99,111,117,110,116])),.mk 8 1 (.c (.str [115,117,109])),.mk 9 1 (.c (.str [109,105,110])),.mk 10 1 (.c (.str [109,97,120])),.mk 11 1 (.c (.str [97,100,100])),.mk 12 1 (.c (.str [115,117,98])),.mk 13 1 (.c (.str [109,117,108])),.mk 14 1 (.c (.str [110,101,103])),.mk 15 1 (.c (.str [101,113])),.mk 16 1 (.c (.str [108,116])),.mk 17 1 (.c (.str [97,110,100])),.mk 18 1 (.c (.str [111,114])),.mk 19 1 (.c (.str [110,111,116])),.mk 20 1 (.c (.str [99,97,116])),.mk 21 1 (.c (.str [108,101,110])),.mk 22 1 (.c (.str [105,102]))] h) fun b h=>
 x (T0 a b) h
def x142:AC:=(.ah k142_0 (.seq (.ah k142_1 (.block 0 (.loop (.ah k142_2 .skip)))) (.seq (.ah k142_3 (.block 2 (.loop (.ah k142_4 (.seq (.block 3 (.seq (.ops [m d25 r0,
 m d26 r5,
 o d27 (.idxs r25 r26),
 o d28 (.bin .lt r27 (.c (.int .u8 (.ofNat 97)))),
 m d29 r28,
 .g .h1 .hd false d30 (.op (.mv r0)),
 .g .h1 .hd false d31 (.op (.mv r5)),
 .g .h1 .hd false d32 (.op (.idxs r30 r31)),
 .g .h1 .hd false d33 (.op (.bin .gt r32 (.c (.int .u8 (.ofNat 122))))),
 o d34 (.pick r29 (.c (.bool true)) r33)]) (.ah k142_5 .skip))) (.ah k142_6 .skip)))))) (.seq (.ops [m d35 r0,
 o d36 (.iw r35),
 o d37 (.bin .ge r36 a1),
 m d38 r37,
 .g .h2 .h6 true d39 (.op (.mv r0)),
 .g .h2 .h6 true d40 (.op (.iw r39)),
 .g .h2 .h6 true d41 (.op (.bin .le r40 (.c (pi 12)))),
 o d42 (.pick r38 r41 (.c (.bool false))),
 m d2 r42]) .ret))))
def f142:AF:=.mk x142 [.t .h0 .h2]
def k143_1:KF:=K2 y0 y13 fun c i x h a b=>
 I b (.ret (T2 (pi 23)) h) (.nm (T4 a) h)
def k143_4:KF:=K3 y0 y3 y42 fun c i x h a b d=>
 I d (.ret (T2 (pi 20)) h) (.nm (T0 a b) h)
def k143_5:KF:=K2 y0 y3 fun c i x h a b=>
 tR (eo 2 (.c a) .none (.some (.c b)) .none .nil h) fun d h=>
 X 2 a b h fun e h=>
 A 0 e h fun f h=>
 L f h fun g h=>
 C c 235 [d,g] h fun j h=>
 E 0 j h fun k h=>
 E 1 j h fun l h=>
 I l (.ret (T2 (pi 21)) h) (.nm (T0 a b) h)
def k143_6:KF:=K2 y0 y3 fun c i x h a b=>
 D b i1 h fun d h=>
 .nm (T0 a d) h
def k143_3:KF:=K2 y0 y3 fun c i x h a b=>
 G a h fun d h=>
 Y b d h fun e h=>
 I e (x (T0 a b) h) (.ex 0 T28 h)
def k143_2:KF:=K1 y0 fun c i x h a=>
 x (T0 a i0) h
def k143_7:KF:=fun c i x r h=>
 .ret (T2 i0) h
def k143_0:KF:=K1 y0 fun c i x h a=>
 x (T4 a) h
def x143:AC:=(.ah k143_0 (.seq (.seq (.ops [m d6 r0,
 o d7 (.len r6),
 o d8 (.bin .eq r7 a0),
 m d9 r8,
 .g .h0 .h9 false d10 (.op (.mv r0)),
 .g .h0 .h9 false d11 (.op (.len r10)),
 .g .h0 .h9 false d12 (.op (.bin .gt r11 (.c (pi 6)))),
 o d13 (.pick r9 (.c (.bool true)) r12)]) (.ah k143_1 .skip)) (.seq (.ah k143_2 (.block 0 (.loop (.ah k143_3 (.seq (.block 1 (.seq (.seq (.ops [m d20 r0,
 m d21 r3,
 o d22 (.cn 2 r20 r21),
 of d23 0 r22,
 ol d24 r23,
 oc d25 142 [r24],
 o d26 (.un .not r25),
 m d27 r26,
 .g .h1 .hb false d28 (.op (.mv r0)),
 .g .h1 .hb false d29 (.op (.mv r3)),
 .g .h1 .hb false d30 (.op (.cn 2 r28 r29)),
 .g .h1 .hb false d31 (.op (.cG 1 r30)),
 .g .h1 .hb false d32 (.op (.bZ r31)),
 .g .h1 .hb false d33 (.op (.bin .ne r32 a1)),
 .g .h1 .hb false d34 (.op (.mv r33)),
 .g .h2 .h2 true d35 (.op (.mv r0)),
 .g .h2 .h2 true d36 (.op (.mv r3)),
 .g .h2 .h2 true d37 (.op (.cn 2 r35 r36)),
 .g .h2 .h2 true d38 (.op (.cG 1 r37)),
 .g .h2 .h2 true d39 (.op (.bZ r38)),
 .g .h2 .h2 true d40 (.op (.bin .ne r39 a2)),
 .g .h1 .hb false d41 (.op (.pick r34 r40 (.c (.bool false)))),
 o d42 (.pick r27 (.c (.bool true)) r41)]) (.ah k143_4 .skip)) (.ah k143_5 .skip))) (.ah k143_6 .skip)))))) (.ah k143_7 .skip))))
def f143:AF:=.mk x143 [.t .h0 .h2]
def k144_1:KF:=K3 y2 y3 y68 fun c i x h a b d=>
 I d (.ret (T3 (.bool false)) h) (.nm (T73 a b) h)
def k144_4:KF:=K3 y2 y3 y5 fun c i x h a b d=>
 D d i1 h fun e h=>
 .nm (T279 a b e) h
def k144_3:KF:=K3 y2 y3 y5 fun c i x h a b d=>
 A 6 a h fun e h=>
 L e h fun f h=>
 G f h fun g h=>
 Y d g h fun j h=>
 I j (A 6 a h fun k h=>
 L k h fun l h=>
 X 3 l d h fun m h=>
 M 3 m h fun n h=>
 A 6 b h fun o h=>
 L o h fun p h=>
 X 3 p d h fun q h=>
 M 3 q h fun s h=>
 tR (bK (.XT [.s,.s,.s]) n s h) fun t h=>
 I t (.ret (T3 (.bool false)) h) (x (T279 a b d) h)) (.ex 0 (T73 a b) h)
def k144_2:KF:=K2 y2 y3 fun c i x h a b=>
 x (T279 a b i0) h
def k144_7:KF:=K3 y2 y3 y6 fun c i x h a b d=>
 D d i1 h fun e h=>
 .nm (T280 a b e) h
def k144_6:KF:=K3 y2 y3 y6 fun c i x h a b d=>
 A 7 a h fun e h=>
 L e h fun f h=>
 G f h fun g h=>
 Y d g h fun j h=>
 I j (A 7 a h fun k h=>
 L k h fun l h=>
 X 8 l d h fun m h=>
 M 8 m h fun n h=>
 A 7 b h fun o h=>
 L o h fun p h=>
 X 8 p d h fun q h=>
 M 8 q h fun s h=>
 C c 144 [n,s] h fun t h=>
 tR (bG t h) fun v h=>
 I v (.ret (T3 (.bool false)) h) (x (T280 a b d) h)) (.ex 2 T28 h)
def k144_5:KF:=K2 y2 y3 fun c i x h a b=>
 x (T280 a b i0) h
def k144_8:KF:=fun c i x r h=>
 .ret (T3 (.bool true)) h
def k144_0:KF:=K2 y0 y1 fun c i x h a b=>
 B 49 a h fun d h=>
 B 49 b h fun e h=>
 x (T73 d e) h
def x144:AC:=(.ah k144_0 (.seq (.seq (.ops [of d7 0 r2,
 ol d8 r7,
 of d9 0 r3,
 ol d10 r9,
 o d11 (.bin .ne r8 r10),
 m d12 r11,
 .g .h0 .hc false d13 (.op (.cG 1 r2)),
 .g .h0 .hc false d14 (.op (.bZ r13)),
 .g .h0 .hc false d15 (.op (.cG 1 r3)),
 .g .h0 .hc false d16 (.op (.bZ r15)),
 .g .h0 .hc false d17 (.op (.bin .KX r14 r16)),
 o d18 (.pick r12 (.c (.bool true)) r17),
 m d19 r18,
 .g .h1 .h3 false d20 (.op (.cG 2 r2)),
 .g .h1 .h3 false d21 (.op (.bZ r20)),
 .g .h1 .h3 false d22 (.op (.cG 2 r3)),
 .g .h1 .h3 false d23 (.op (.bZ r22)),
 .g .h1 .h3 false d24 (.call 236 [r21,r23]),
 .g .h1 .h3 false d25 (.op (.un .not r24)),
 o d26 (.pick r19 (.c (.bool true)) r25),
 m d27 r26,
 .g .h1 .hb false d28 (.op (.cG 3 r2)),
 .g .h1 .hb false d29 (.op (.bZ r28)),
 .g .h1 .hb false d30 (.op (.cG 3 r3)),
 .g .h1 .hb false d31 (.op (.bZ r30)),
 .g .h1 .hb false d32 (.call 237 [r29,r31]),
 .g .h1 .hb false d33 (.op (.un .not r32)),
 o d34 (.pick r27 (.c (.bool true)) r33),
 m d35 r34,
 .g .h2 .h3 false d36 (.op (.cG 4 r2)),
 .g .h2 .h3 false d37 (.op (.bZ r36)),
 .g .h2 .h3 false d38 (.op (.cG 4 r3)),
 .g .h2 .h3 false d39 (.op (.bZ r38)),
 .g .h2 .h3 false d40 (.call 237 [r37,r39]),
 .g .h2 .h3 false d41 (.op (.un .not r40)),
 o d42 (.pick r35 (.c (.bool true)) r41),
 m d43 r42,
 .g .h2 .hb false d44 (.op (.cG 5 r2)),
 .g .h2 .hb false d45 (.op (.bZ r44)),
 .g .h2 .hb false d46 (.op (.cG 5 r3)),
 .g .h2 .hb false d47 (.op (.bZ r46)),
 .g .h2 .hb false d48 (.call 237 [r45,r47]),
 .g .h2 .hb false d49 (.op (.un .not r48)),
 o d50 (.pick r43 (.c (.bool true)) r49),
 m d51 r50,
 .g .h3 .h3 false d52 (.op (.cG 6 r2)),
 .g .h3 .h3 false d53 (.op (.bZ r52)),
 .g .h3 .h3 false d54 (.op (.len r53)),
 .g .h3 .h3 false d55 (.op (.cG 6 r3)),
 .g .h3 .h3 false d56 (.op (.bZ r55)),
 .g .h3 .h3 false d57 (.op (.len r56)),
 .g .h3 .h3 false d58 (.op (.bin .ne r54 r57)),
 o d59 (.pick r51 (.c (.bool true)) r58),
 m d60 r59,
 .g .h3 .hc false d61 (.op (.cG 7 r2)),
 .g .h3 .hc false d62 (.op (.bZ r61)),
 .g .h3 .hc false d63 (.op (.len r62)),
 .g .h3 .hc false d64 (.op (.cG 7 r3)),
 .g .h3 .hc false d65 (.op (.bZ r64)),
 .g .h3 .hc false d66 (.op (.len r65)),
 .g .h3 .hc false d67 (.op (.bin .ne r63 r66)),
 o d68 (.pick r60 (.c (.bool true)) r67)]) (.ah k144_1 .skip)) (.seq (.ah k144_2 (.block 0 (.loop (.ah k144_3 (.ah k144_4 .skip))))) (.seq (.ah k144_5 (.block 2 (.loop (.ah k144_6 (.ah k144_7 .skip))))) (.ah k144_8 .skip)))))
def f144:AF:=.mk x144 [.t .h0 .h4]
def k145_0:KF:=K2 y0 y1 fun c i x h a b=>
 B 202 a h fun d h=>
 M 4 d h fun e h=>
 C c 234 [e] h fun f h=>
 tR (bG f h) fun g h=>
 I g (.ret (T5 i0 (pi 22)) h) (M 4 d h fun j h=>
 C c 238 [j,b] h fun k h=>
 E 0 k h fun l h=>
 E 1 k h fun m h=>
 .ret (T5 l m) h)
def x145:AC:=(.ah k145_0 .skip)
def f145:AF:=.mk x145 [.t .h0 .h4,.t .h0 .h5]
def k146_4:KF:=K4 y1 y2 y7 y8 fun c i x h a b d e=>
 D e i1 h fun f h=>
 .nm (T140 a b d f) h
def k146_3:KF:=K4 y1 y2 y7 y8 fun c i x h a b d e=>
 A 2 b h fun f h=>
 L f h fun g h=>
 X 4 g e h fun j h=>
 M 4 j h fun k h=>
 C c 145 [k,a] h fun l h=>
 E 0 l h fun m h=>
 E 1 l h fun n h=>
 tR (cP n i0 h) fun o h=>
 I o (.ret (T37 .ai n iS) h) (A 3 b h fun p h=>
 L p h fun q h=>
 X 1 q e h fun s h=>
 L s h fun t h=>
 C c 235 [d,t] h fun v h=>
 E 0 v h fun w h=>
 E 1 v h fun y h=>
 I y (A 3 b h fun z h=>
 L z h fun a0 h=>
 X 1 a0 e h fun a1 h=>
 L a1 h fun a2 h=>
 .ret (T37 .ai (pi 21) a2) h) (A 3 b h fun z h=>
 L z h fun a0 h=>
 X 1 a0 e h fun a1 h=>
 L a1 h fun a2 h=>
 U [iS,i0] [.mk 0 1 (.c a2),.mk 1 1 (.c m)] h fun a3 h=>
 tR (bs 85 2 1 [iS,i0] [.mk 0 2 (.c a3)] h) fun a4 h=>
 tR (cX 85 2 d a4 h) fun a5 h=>
 x (T140 a b a5 e) h))
def k146_2:KF:=K4 y1 y2 y7 y8 fun c i x h a b d e=>
 A 3 b h fun f h=>
 L f h fun g h=>
 G g h fun j h=>
 Y e j h fun k h=>
 I k (x (T140 a b d e) h) (.ex 0 (T38 d) h)
def k146_1:KF:=K3 y1 y2 y7 fun c i x h a b d=>
 x (T140 a b d i0) h
def k146_5:KF:=K1 y7 fun c i x h a=>
 G a h fun b h=>
 tR (mE b (pi 6) h) fun d h=>
 I d (.ret (T37 .ai (pi 23) iS) h) (.ret (T37 a i0 iS) h)
def k146_0:KF:=K2 y0 y1 fun c i x h a b=>
 B 49 a h fun d h=>
 x (T139 b d .ai) h
def x146:AC:=(.ah k146_0 (.seq (.ah k146_1 (.block 0 (.loop (.ah k146_2 (.ah k146_3 (.ah k146_4 .skip)))))) (.ah k146_5 .skip)))
def f146:AF:=.mk x146 [.t .h0 .h4,.t .h0 .h5,.t .h0 .h6]
def x147:AC:=b147
def f147:AF:=.mk x147 [.t .h0 .h6,.t .h0 .h7,.t .h0 .h8]
def k148_4:KF:=K4 y1 y2 y7 y8 fun c i x h a b d e=>
 D e i1 h fun f h=>
 .nm (T140 a b d f) h
def k148_3:KF:=K4 y1 y2 y7 y8 fun c i x h a b d e=>
 A 4 b h fun f h=>
 L f h fun g h=>
 X 1 g e h fun j h=>
 L j h fun k h=>
 C c 235 [a,k] h fun l h=>
 E 0 l h fun m h=>
 E 1 l h fun n h=>
 tR (bG n h) fun o h=>
 I o (A 4 b h fun p h=>
 L p h fun q h=>
 X 1 q e h fun s h=>
 L s h fun t h=>
 .ret (T37 .ai (pi 20) t) h) (A 4 b h fun p h=>
 L p h fun q h=>
 tR (eo 1 (.c q) .none (.some (.c e)) .none .nil h) fun s h=>
 A 4 b h fun t h=>
 L t h fun v h=>
 X 1 v e h fun w h=>
 L w h fun y h=>
 C c 239 [s,y] h fun z h=>
 I z (A 4 b h fun a0 h=>
 L a0 h fun a1 h=>
 X 1 a1 e h fun a2 h=>
 L a2 h fun a3 h=>
 .ret (T37 .ai (pi 21) a3) h) (X 2 a m h fun a0 h=>
 M 2 a0 h fun a1 h=>
 tR (bs 85 2 1 [iS,i0] [.mk 0 2 (.c a1)] h) fun a2 h=>
 tR (cX 85 2 d a2 h) fun a3 h=>
 x (T140 a b a3 e) h))
def k148_2:KF:=K4 y1 y2 y7 y8 fun c i x h a b d e=>
 A 4 b h fun f h=>
 L f h fun g h=>
 G g h fun j h=>
 Y e j h fun k h=>
 I k (x (T140 a b d e) h) (.ex 0 (T139 a b d) h)
def k148_1:KF:=K3 y1 y2 y7 fun c i x h a b d=>
 x (T140 a b d i0) h
def k148_11:KF:=K7 y1 y2 y7 y11 y12 y16 y110 fun c i x h a b d e f g j=>
 I j (A 2 f h fun k h=>
 L k h fun l h=>
 .ret (T37 .ai (pi 22) l) h) (.nm (T292 a b d e f g) h)
def k148_12:KF:=K6 y1 y2 y7 y11 y12 y16 fun c i x h a b d e f g=>
 X 2 a g h fun j h=>
 A 1 j h fun k h=>
 L k h fun l h=>
 .nm (T290 a b d e f l) h
def k148_10:KF:=K5 y1 y2 y7 y11 y12 fun c i x h a b d e f=>
 A 2 f h fun g h=>
 L g h fun j h=>
 C c 235 [a,j] h fun k h=>
 E 0 k h fun l h=>
 E 1 k h fun m h=>
 tR (bG m h) fun n h=>
 I n (A 2 f h fun o h=>
 L o h fun p h=>
 .ret (T37 .ai (pi 20) p) h) (x (T292 a b d e f l) h)
def k148_9:KF:=K6 y1 y2 y7 y11 y12 y15 fun c i x h a b d e f g=>
 A 1 f h fun j h=>
 L j h fun k h=>
 tR (yD k (.str [99,111,117,110,116]) h) fun l h=>
 x (T291 a b d e f g l) h
def k148_13:KF:=K6 y1 y2 y7 y11 y12 y15 fun c i x h a b d e f g=>
 A 0 f h fun j h=>
 L j h fun k h=>
 U [iS,i0] [.mk 0 1 (.c k),.mk 1 1 (.c g)] h fun l h=>
 tR (bs 85 2 1 [iS,i0] [.mk 0 2 (.c l)] h) fun m h=>
 tR (cX 85 2 d m h) fun n h=>
 .nm (T288 a b n e) h
def k148_8:KF:=K5 y1 y2 y7 y11 y12 fun c i x h a b d e f=>
 x (T290 a b d e f i1) h
def k148_7:KF:=K4 y1 y2 y7 y11 fun c i x h a b d e=>
 A 6 b h fun f h=>
 L f h fun g h=>
 X 3 g e h fun j h=>
 M 3 j h fun k h=>
 O 214 3 (.k1 (Y3 iS iS iS)) h fun l h=>
 S 3 l k h fun m h=>
 A 0 l h fun n h=>
 L n h fun o h=>
 C c 235 [d,o] h fun p h=>
 E 0 p h fun q h=>
 E 1 p h fun s h=>
 I s (A 0 l h fun t h=>
 L t h fun v h=>
 .ret (T37 .ai (pi 21) v) h) (x (T289 a b d e l) h)
def k148_14:KF:=K4 y1 y2 y7 y11 fun c i x h a b d e=>
 D e i1 h fun f h=>
 .nm (T288 a b d f) h
def k148_6:KF:=K4 y1 y2 y7 y11 fun c i x h a b d e=>
 A 6 b h fun f h=>
 L f h fun g h=>
 G g h fun j h=>
 Y e j h fun k h=>
 I k (x (T288 a b d e) h) (.ex 2 (T38 d) h)
def k148_5:KF:=K3 y1 y2 y7 fun c i x h a b d=>
 x (T288 a b d i0) h
def k148_15:KF:=K2 y7 y132 fun c i x h a b=>
 I b (.ret (T37 .ai (pi 23) iS) h) (.nm (T38 a) h)
def k148_16:KF:=K1 y7 fun c i x h a=>
 .ret (T37 a i0 iS) h
def k148_0:KF:=K2 y0 y1 fun c i x h a b=>
 B 49 a h fun d h=>
 x (T139 b d .ai) h
def x148:AC:=(.ah k148_0 (.seq (.ah k148_1 (.block 0 (.loop (.ah k148_2 (.ah k148_3 (.ah k148_4 .skip)))))) (.seq (.ah k148_5 (.block 2 (.loop (.ah k148_6 (.seq (.block 3 (.ah k148_7 (.ah k148_8 (.seq (.ah k148_9 (.cond r88 (.ah k148_10 (.seq (.seq (.ops [of d100 1 r12,
 ol d101 r100,
 o d102 (.bin .seq r101 (.c (.str [115,117,109]))),
 m d103 r102,
 .g .h6 .h7 true d104 (.op (.mv r1)),
 .g .h6 .h7 true d105 (.op (.mv r16)),
 .g .h6 .h7 true d106 (.op (.cn 2 r104 r105)),
 .g .h6 .h7 true d107 (.op (.cG 1 r106)),
 .g .h6 .h7 true d108 (.op (.bZ r107)),
 .g .h6 .h7 true d109 (.op (.bin .ne r108 a1)),
 o d110 (.pick r103 r109 (.c (.bool false)))]) (.ah k148_11 .skip)) (.ah k148_12 .skip))) .skip)) (.ah k148_13 .skip))))) (.ah k148_14 .skip)))))) (.seq (.seq (.ops [m d125 r7,
 o d126 (.len r125),
 o d127 (.bin .eq r126 a0),
 m d128 r127,
 .g .h8 .h0 false d129 (.op (.mv r7)),
 .g .h8 .h0 false d130 (.op (.len r129)),
 .g .h8 .h0 false d131 (.op (.bin .gt r130 (.c (pi 6)))),
 o d132 (.pick r128 (.c (.bool true)) r131)]) (.ah k148_15 .skip)) (.ah k148_16 .skip)))))
def f148:AF:=.mk x148 [.t .h0 .h4,.t .h0 .h5,.t .h0 .h6]
def k149_0:KF:=K1 y0 fun c i x h a=>
 x (T4 a) h
def x149:AC:=(.ah k149_0 (.seq (.ops [m d3 r0,
 o d4 (.len r3),
 o d5 (.bin .gt r4 a0),
 m d6 r5,
 .g .h0 .h6 true d7 (.op (.mv r0)),
 .g .h0 .h6 true d8 (.op (.len r7)),
 .g .h0 .h6 true d9 (.op (.bin .le r8 (.c (pi 6)))),
 o d10 (.pick r6 r9 (.c (.bool false))),
 m d11 r10,
 .g .h0 .hb true d12 (.op (.mv r0)),
 .g .h0 .hb true d13 (.call 240 [r12,(.c (.fn 241 []))]),
 .g .h0 .hb true d14 (.op (.un .not r13)),
 o d15 (.pick r11 r14 (.c (.bool false))),
 m d2 r15]) .ret))
def f149:AF:=.mk x149 [.t .h0 .h2]
def k150_0:KF:=K1 y0 fun c i x h a=>
 x (T4 a) h
def x150:AC:=(.ah k150_0 (.seq (.ops [m d3 r0,
 o d4 (.real false r3),
 oc d5 242 [r4],
 m d6 r5,
 .g .h0 .h6 true d7 (.op (.mv r0)),
 .g .h0 .h6 true d8 (.op (.real true r7)),
 .g .h0 .h6 true d9 (.call 242 [r8]),
 o d10 (.pick r6 r9 (.c (.bool false))),
 m d2 r10]) .ret))
def f150:AF:=.mk x150 [.t .h0 .h2]
def k151_0:KF:=K1 y0 fun c i x h a=>
 C c 158 [a] h fun b h=>
 C c 243 [b] h fun d h=>
 .ret (T2 d) h
def x151:AC:=(.ah k151_0 .skip)
def f151:AF:=.mk x151 [.t .h0 .h2]
def k152_0:KF:=K2 y0 y1 fun c i x h a b=>
 x (T16 a b) h
def x152:AC:=(.ah k152_0 (.seq (.ops [m d5 r0,
 oc d6 149 [r5],
 m d7 r6,
 .g .h0 .h7 true d8 (.op (.mv r1)),
 .g .h0 .h7 true d9 (.call 149 [r8]),
 o d10 (.pick r7 r9 (.c (.bool false))),
 m d11 r10,
 .g .h0 .hb true d12 (.op (.mv r0)),
 .g .h0 .hb true d13 (.op (.mv r1)),
 .g .h0 .hb true d14 (.call 244 [r12,r13]),
 .g .h0 .hb true d15 (.op (.bin .lt r14 a0)),
 o d16 (.pick r11 r15 (.c (.bool false))),
 m d4 r16]) .ret))
def f152:AF:=.mk x152 [.t .h0 .h4]
def k153_2:KF:=K4 y0 y1 y7 y8 fun c i x h a b d e=>
 Y e d h fun f h=>
 I f (X 2 a e h fun g h=>
 M 2 g h fun j h=>
 tT (cd c b [j] h) fun k h=>
 I k (.ret (T3 e) h) (D e i1 h fun l h=>
 .nm (T85 a b d l) h)) (.ex 0 (T85 a b d e) h)
def k153_1:KF:=K2 y0 y1 fun c i x h a b=>
 G a h fun d h=>
 x (T85 a b d i0) h
def k153_3:KF:=fun c i x r h=>
 .ret (T3 (ni 0)) h
def k153_0:KF:=K2 y0 y1 fun c i x h a b=>
 x (T16 a b) h
def x153:AC:=(.ah k153_0 (.seq (.ah k153_1 (.block 0 (.loop (.ah k153_2 .skip)))) (.ah k153_3 .skip)))
def f153:AF:=.mk x153 [.t .h0 .h4]
def k154_3:KF:=K1 y1 fun c i x h a=>
 A 2 a h fun b h=>
 L b h fun d h=>
 tR (aW d iS h) fun e h=>
 .ret (T2 e) h
def k154_4:KF:=K2 y1 y4 fun c i x h a b=>
 Q b (pi 2) h fun d h=>
 x (T295 a d) h
def k154_2:KF:=K2 y1 y4 fun c i x h a b=>
 Q b i1 h fun d h=>
 x (T294 a b d) h
def k154_1:KF:=K1 y1 fun c i x h a=>
 A 0 a h fun b h=>
 L b h fun d h=>
 x (T293 a d) h
def k154_5:KF:=fun c i x r h=>
 .ret (T2 (.bool false)) h
def k154_0:KF:=K1 y0 fun c i x h a=>
 B 34 a h fun b h=>
 x (T35 b) h
def x154:AC:=(.ah k154_0 (.seq (.ah k154_1 (.block 0 (.ah k154_2 (.cond r5 (.ah k154_3 .skip) (.ah k154_4 (.cond r10 (.seq (.ops [of d12 1 r1,
 ol d13 r12,
 o d14 (.bin .eq r13 a0),
 m d15 r14,
 .g .h0 .hf true d16 (.op (.cG 2 r1)),
 .g .h0 .hf true d17 (.op (.bZ r16)),
 .g .h0 .hf true d18 (.op (.iw r17)),
 .g .h0 .hf true d19 (.op (.bin .le r18 (.c (pi 40)))),
 o d20 (.pick r15 r19 (.c (.bool false))),
 m d2 r20]) .ret) .skip)))))) (.ah k154_5 .skip)))
def f154:AF:=.mk x154 [.t .h0 .h2]
def k155_4:KF:=K5 y0 y11 y12 y13 y26 fun c i x h a b d e f=>
 I f (.ret (T73 .ai i1) h) (.nm (T296 a b d e) h)
def k155_3:KF:=K4 y0 y11 y12 y13 fun c i x h a b d e=>
 X 2 b e h fun f h=>
 M 2 f h fun g h=>
 O 27 2 (.k1 (Y2 .ai (.aj .f64 0 0))) h fun j h=>
 S 2 j g h fun k h=>
 x (T297 a j b d e) h
def k155_5:KF:=K4 y0 y11 y12 y13 fun c i x h a b d e=>
 D e i1 h fun f h=>
 .nm (T296 a b d f) h
def k155_2:KF:=K4 y0 y11 y12 y13 fun c i x h a b d e=>
 Y e d h fun f h=>
 I f (x (T296 a b d e) h) (.ex 0 (T4 a) h)
def k155_1:KF:=K1 y0 fun c i x h a=>
 G a h fun b h=>
 x (T296 a a b i0) h
def k155_10:KF:=K6 y0 y6 y7 y8 y9 y53 fun c i x h a b d e f g=>
 I g (.nm (T298 a b d e f) h) (.ex 4 (T298 a b d e f) h)
def k155_12:KF:=K5 y0 y6 y7 y8 y9 fun c i x h a b d e f=>
 D d i1 h fun g h=>
 .nm (T298 a b g e f) h
def k155_11:KF:=K5 y0 y6 y7 y8 y9 fun c i x h a b d e f=>
 X 2 a d h fun g h=>
 A 1 g h fun j h=>
 L j h fun k h=>
 C c 249 [f,k] h fun l h=>
 E 0 l h fun m h=>
 E 1 l h fun n h=>
 tR (bG n h) fun o h=>
 I o (.ret (T73 .ai (pi 27)) h) (x (T298 a b d e m) h)
def k155_13:KF:=K5 y0 y6 y7 y8 y9 fun c i x h a b d e f=>
 tR (bK (.QX .neq) f (.aj .f64 0 0) h) fun g h=>
 I g (C c 85 [e,f] h fun j h=>
 tR (bs 27 2 1 [.ai,(.aj .f64 0 0)] [.mk 0 2 (.c j)] h) fun k h=>
 tR (cX 27 2 b k h) fun l h=>
 .nm (T14 a l d) h) (.nm (T14 a b d) h)
def k155_9:KF:=K3 y0 y6 y7 fun c i x h a b d=>
 X 2 a d h fun e h=>
 A 0 e h fun f h=>
 L f h fun g h=>
 x (T298 a b d g (.aj .f64 0 0)) h
def k155_8:KF:=K3 y0 y6 y7 fun c i x h a b d=>
 G a h fun e h=>
 Y d e h fun f h=>
 I f (x (T14 a b d) h) (.ex 2 (T91 b) h)
def k155_7:KF:=K2 y0 y6 fun c i x h a b=>
 x (T14 a b i0) h
def k155_14:KF:=K1 y6 fun c i x h a=>
 .ret (T73 a i0) h
def k155_6:KF:=K1 y0 fun c i x h a=>
 C c 245 [a] h fun b h=>
 C c 246 [b,(.fn 247 [])] h fun d h=>
 x (T71 b .ai) h
def k155_0:KF:=K1 y0 fun c i x h a=>
 x (T4 a) h
def x155:AC:=(.ah k155_0 (.seq (.ah k155_1 (.block 0 (.loop (.ah k155_2 (.seq (.block 1 (.ah k155_3 (.seq (.ops [of d17 0 r5,
 ol d18 r17,
 oc d19 149 [r18],
 o d20 (.un .not r19),
 m d21 r20,
 .g .h1 .h5 false d22 (.op (.cG 1 r5)),
 .g .h1 .h5 false d23 (.op (.bZ r22)),
 .g .h1 .h5 false d24 (.call 150 [r23]),
 .g .h1 .h5 false d25 (.op (.un .not r24)),
 o d26 (.pick r21 (.c (.bool true)) r25)]) (.ah k155_4 .skip)))) (.ah k155_5 .skip)))))) (.ah k155_6 (.seq (.ah k155_7 (.block 2 (.loop (.ah k155_8 (.block 3 (.ah k155_9 (.seq (.block 4 (.loop (.seq (.seq (.ops [m d41 r7,
 m d42 r0,
 o d43 (.len r42),
 o d44 (.bin .lt r41 r43),
 m d45 r44,
 .g .h2 .hd true d46 (.op (.mv r0)),
 .g .h2 .hd true d47 (.op (.mv r7)),
 .g .h2 .hd true d48 (.op (.cn 2 r46 r47)),
 .g .h2 .hd true d49 (.op (.cG 0 r48)),
 .g .h2 .hd true d50 (.op (.bZ r49)),
 .g .h2 .hd true d51 (.op (.mv r8)),
 .g .h2 .hd true d52 (.call 248 [r50,r51]),
 o d53 (.pick r45 r52 (.c (.bool false)))]) (.ah k155_10 .skip)) (.ah k155_11 (.ah k155_12 .skip))))) (.ah k155_13 .skip)))))))) (.ah k155_14 .skip)))))
def f155:AF:=.mk x155 [.t .h0 .h2,.t .h0 .h3]
def k156_3:KF:=K5 y0 y3 y9 y10 y11 fun c i x h a b d e f=>
 X 1 d f h fun g h=>
 L g h fun j h=>
 G j h fun k h=>
 D b k h fun l h=>
 Y l i0 h fun m h=>
 x (T300 a l d e f m) h
def k156_4:KF:=K5 y0 y3 y9 y10 y11 fun c i x h a b d e f=>
 D f i1 h fun g h=>
 .nm (T299 a b d e g) h
def k156_2:KF:=K5 y0 y3 y9 y10 y11 fun c i x h a b d e f=>
 Y f e h fun g h=>
 I g (x (T299 a b d e f) h) (.ex 0 (T0 a b) h)
def k156_1:KF:=K2 y0 y3 fun c i x h a b=>
 G a h fun d h=>
 x (T299 a b a d i0) h
def k156_7:KF:=K4 y6 y25 y26 y27 fun c i x h a b d e=>
 Y e d h fun f h=>
 I f (X 1 b e h fun g h=>
 L g h fun j h=>
 tR (cX 27 2 a j h) fun k h=>
 D e i1 h fun l h=>
 .nm (T301 k b d l) h) (.ex 2 (T301 a b d e) h)
def k156_6:KF:=K2 y0 y6 fun c i x h a b=>
 G a h fun d h=>
 x (T301 b a d i0) h
def k156_8:KF:=K1 y6 fun c i x h a=>
 .ret (T2 a) h
def k156_5:KF:=K2 y0 y3 fun c i x h a b=>
 C c 250 [.ai,b] h fun d h=>
 x (T71 a d) h
def k156_0:KF:=K1 y0 fun c i x h a=>
 x (T0 a i0) h
def x156:AC:=(.ah k156_0 (.seq (.ah k156_1 (.block 0 (.loop (.ah k156_2 (.seq (.block 1 (.ah k156_3 (.cond r20 (.ops [o d21 (.QW 9 (.c (.str [108,101,110,32,111,117,116,32,111,102,32,114,97,110,103,101]))),
 o .no (.bad 400)]) .skip))) (.ah k156_4 .skip)))))) (.ah k156_5 (.seq (.ah k156_6 (.block 2 (.loop (.ah k156_7 .skip)))) (.ah k156_8 .skip)))))
def f156:AF:=.mk x156 [.t .h0 .h2]
def k157_0:KF:=K1 y0 fun c i x h a=>
 B 27 a h fun b h=>
 A 1 b h fun d h=>
 L d h fun e h=>
 C c 158 [e] h fun f h=>
 Y f i0 h fun g h=>
 .ret (T2 g) h
def x157:AC:=(.ah k157_0 .skip)
def f157:AF:=.mk x157 [.t .h0 .h2]
def k158_0:KF:=K1 y0 fun c i x h a=>
 C c 251 [a] h fun b h=>
 E 0 b h fun d h=>
 E 1 b h fun e h=>
 E 2 b h fun f h=>
 Z d e h fun g h=>
 .ret (T2 g) h
def x158:AC:=(.ah k158_0 .skip)
def f158:AF:=.mk x158 [.t .h0 .h2]
def k159_0:KF:=K1 y0 fun c i x h a=>
 C c 150 [a] h fun b h=>
 tR (bG b h) fun d h=>
 I d (.ret (T2 (.aj .f64 0 0)) h) (tR (fD true (.c a) .nil h) fun e h=>
 tR (fD false (.c a) .nil h) fun f h=>
 tR (jx .f64 (.c e) (.c f) .nil h) fun g h=>
 .ret (T2 g) h)
def x159:AC:=(.ah k159_0 .skip)
def f159:AF:=.mk x159 [.t .h0 .h2]
def k160_0:KF:=K1 y0 fun c i x h a=>
 tR (bK (.ku .m) a .gg h) fun b h=>
 I b (.ret (T2 .gg) h) (C c 252 [(.iface 215 a)] h fun d h=>
 tR (KU 215 .gg false d h) fun e h=>
 .ret (T2 e) h)
def x160:AC:=(.ah k160_0 .skip)
def f160:AF:=.mk x160 [.t .h0 .h2]
def x161:AC:=b161
def f161:AF:=.mk x161 [.t .h0 .h2]
def x162:AC:=b162
def f162:AF:=.mk x162 [.agg 3 .h0 .h6,.t .h0 .h7]
def x163:AC:=b163
def f163:AF:=.mk x163 []
def x164:AC:=b164
def f164:AF:=.mk x164 [.t .h0 .h4,.t .h0 .h5]
def x165:AC:=b165
def f165:AF:=.mk x165 [.t .h0 .h6]
def x166:AC:=b166
def f166:AF:=.mk x166 [.t .h0 .h4]
def x167:AC:=b167
def f167:AF:=.mk x167 [.t .h0 .h4]
def k168_3:KF:=K5 y0 y5 y21 y22 y23 fun c i x h a b d e f=>
 X 2 d f h fun g h=>
 M 2 g h fun j h=>
 O 27 2 (.k1 (Y2 .ai (.aj .f64 0 0))) h fun k h=>
 S 2 k j h fun l h=>
 A 0 k h fun m h=>
 L m h fun n h=>
 C c 258 [a,n] h fun o h=>
 E 0 o h fun p h=>
 E 1 o h fun q h=>
 tR (bG q h) fun s h=>
 I s (.ret (T3 i1) h) (C c 257 [p] h fun t h=>
 tR (wg (.one .s) (.agg [.ai,.ai]) false b t h) fun v h=>
 O 251 2 (.k1 (Y2 .ai .ai)) h fun w h=>
 S 2 w v h fun y h=>
 x (T309 a b k p w d e f) h)
def k168_4:KF:=K5 y0 y5 y21 y22 y23 fun c i x h a b d e f=>
 D f i1 h fun g h=>
 .nm (T308 a b d e g) h
def k168_2:KF:=K5 y0 y5 y21 y22 y23 fun c i x h a b d e f=>
 Y f e h fun g h=>
 I g (x (T308 a b d e f) h) (.ex 0 (T242 a b) h)
def k168_1:KF:=K3 y0 y1 y5 fun c i x h a b d=>
 G b h fun e h=>
 x (T308 a d b e i0) h
def k168_7:KF:=K3 y0 y5 y52 fun c i x h a b d=>
 tR (kG (.c d) .nil h) fun e h=>
 E 0 e h fun f h=>
 E 1 e h fun g h=>
 O 251 2 (.k1 (Y2 .ai .ai)) h fun j h=>
 S 2 j g h fun k h=>
 J a h fun l h=>
 A 1 l h fun m h=>
 L m h fun n h=>
 tR (wg (.one .s) (.agg [.ai,.ai]) false n f h) fun o h=>
 F 1 o h fun p h=>
 A 1 j h fun q h=>
 L q h fun s h=>
 C c 74 [p,s] h fun t h=>
 E 0 t h fun v h=>
 E 1 t h fun w h=>
 tR (cP w i0 h) fun y h=>
 I y (.ret (T3 w) h) (A 0 j h fun z h=>
 L z h fun a0 h=>
 U [.ai,.ai] [.mk 0 1 (.c a0),.mk 1 1 (.c v)] h fun a1 h=>
 tR (yn (.one .s) b f a1 h) fun a2 h=>
 .nm (T310 a b d) h)
def k168_6:KF:=K4 y0 y5 y52 y54 fun c i x h a b d e=>
 I e (x (T310 a b d) h) (.ex 2 (T242 a b) h)
def k168_5:KF:=K2 y0 y5 fun c i x h a b=>
 tR (gF (.c b) .nil h) fun d h=>
 x (T310 a b d) h
def k168_10:KF:=K2 y0 y81 fun c i x h a b=>
 tR (kG (.c b) .nil h) fun d h=>
 E 0 d h fun e h=>
 E 1 d h fun f h=>
 O 251 2 (.k1 (Y2 .ai .ai)) h fun g h=>
 S 2 g f h fun j h=>
 A 1 g h fun k h=>
 L k h fun l h=>
 G l h fun m h=>
 Q m i0 h fun n h=>
 I n (J a h fun o h=>
 A 1 o h fun p h=>
 L p h fun q h=>
 tR (del (.one .s) q e h) fun s h=>
 .nm (T311 a b) h) (J a h fun o h=>
 A 1 o h fun p h=>
 L p h fun q h=>
 M 2 g h fun s h=>
 tR (yn (.one .s) q e s h) fun t h=>
 .nm (T311 a b) h)
def k168_9:KF:=K3 y0 y81 y83 fun c i x h a b d=>
 I d (x (T311 a b) h) (.ex 4 T28 h)
def k168_8:KF:=K2 y0 y5 fun c i x h a b=>
 tR (gF (.c b) .nil h) fun d h=>
 x (T311 a d) h
def k168_11:KF:=fun c i x r h=>
 .ret (T3 i0) h
def k168_0:KF:=K2 y0 y1 fun c i x h a b=>
 C c 70 [b] h fun d h=>
 tR (bG d h) fun e h=>
 I e (.ret (T3 i1) h) (tR (XR h) fun f h=>
 x (T27 a b f) h)
def x168:AC:=(.ah k168_0 (.seq (.ah k168_1 (.block 0 (.loop (.ah k168_2 (.seq (.block 1 (.ah k168_3 (.iB [q 0 (m d41 r8),
 w (oc d42 257 [r41]),
 qf 1 d44 1 r10,
 ql 1 d45 r44,
 q 1 (o d46 (.jO 2 r7)),
 n (o d47 (.bN 27 2 1 [.ai,(.aj .f64 0 0)] [.mk 0 2 r46])),
 w (o d48 (.app 27 2 r45 r47)),
 q 2 (m d40 r5),
 q 2 (m d43 r8),
 q 0 (o d49 (.build [.ai,.ai] [.mk 0 1 r43,.mk 1 1 r48])),
 w (o .no (.yn (.one .s) r40 r42 r49))]))) (.ah k168_4 .skip)))))) (.seq (.ah k168_5 (.block 2 (.loop (.seq (.ops [.o d53 (.uM false r52),
 oe d54 0 r53]) (.ah k168_6 (.ah k168_7 .skip)))))) (.seq (.ah k168_8 (.block 4 (.loop (.seq (.ops [.o d82 (.uM false r81),
 oe d83 0 r82]) (.ah k168_9 (.ah k168_10 .skip)))))) (.ah k168_11 .skip)))))
def f168:AF:=.mk x168 [.t .h0 .h4]
def k169_4:KF:=K5 y0 y6 y13 y14 y15 fun c i x h a b d e f=>
 D f i1 h fun g h=>
 .nm (T312 a b d e g) h
def k169_3:KF:=K5 y0 y6 y13 y14 y15 fun c i x h a b d e f=>
 X 2 d f h fun g h=>
 M 2 g h fun j h=>
 O 27 2 (.k1 (Y2 .ai (.aj .f64 0 0))) h fun k h=>
 S 2 k j h fun l h=>
 A 0 k h fun m h=>
 L m h fun n h=>
 C c 259 [a,n] h fun o h=>
 E 0 o h fun p h=>
 E 1 o h fun q h=>
 tR (bG q h) fun s h=>
 I s (.ret (T5 .gg (.bool false)) h) (C c 260 [p] h fun t h=>
 tR (wg (.one .s) (.agg [.ai,.ai,.ai]) false b t h) fun v h=>
 F 1 v h fun w h=>
 M 2 k h fun y h=>
 tR (bs 27 2 1 [.ai,(.aj .f64 0 0)] [.mk 0 2 (.c y)] h) fun z h=>
 tR (cX 27 2 w z h) fun a0 h=>
 U [.ai,.ai,.ai] [.mk 0 1 (.c p),.mk 1 1 (.c a0)] h fun a1 h=>
 tR (yn (.one .s) b t a1 h) fun a2 h=>
 x (T312 a b d e f) h)
def k169_2:KF:=K5 y0 y6 y13 y14 y15 fun c i x h a b d e f=>
 Y f e h fun g h=>
 I g (x (T312 a b d e f) h) (.ex 0 (T91 b) h)
def k169_1:KF:=K3 y0 y1 y6 fun c i x h a b d=>
 G b h fun e h=>
 x (T312 a d b e i0) h
def k169_5:KF:=K1 y6 fun c i x h a=>
 .ret (T5 a (.bool true)) h
def k169_0:KF:=K2 y0 y1 fun c i x h a b=>
 tR (XR h) fun d h=>
 x (T17 a b d) h
def x169:AC:=(.ah k169_0 (.seq (.ah k169_1 (.block 0 (.loop (.ah k169_2 (.ah k169_3 (.ah k169_4 .skip)))))) (.ah k169_5 .skip)))
def f169:AF:=.mk x169 [.t .h0 .h4,.t .h0 .h5]
def k170_4:KF:=K7 y0 y1 y5 y6 y7 y15 y40 fun c i x h a b d e f g j=>
 I j (.ret (T3 (pi 27)) h) (.nm (T315 a b d e f g) h)
def k170_5:KF:=K6 y0 y1 y5 y6 y7 y15 fun c i x h a b d e f g=>
 A 0 e h fun j h=>
 L j h fun k h=>
 U [.ai,.ai,.ai] [.mk 0 1 (.c k),.mk 1 1 (.c f)] h fun l h=>
 tR (yn (.one .s) b d l h) fun m h=>
 .nm (T313 a b g) h
def k170_3:KF:=K3 y0 y1 y15 fun c i x h a b d=>
 tR (kG (.c d) .nil h) fun e h=>
 E 0 e h fun f h=>
 E 1 e h fun g h=>
 O 248 3 (.k1 (Y3 .ai .ai .ai)) h fun j h=>
 S 3 j g h fun k h=>
 J a h fun l h=>
 A 2 l h fun m h=>
 L m h fun n h=>
 tR (wg (.one .s) (.agg [.ai,.ai,.ai]) false n f h) fun o h=>
 F 1 o h fun p h=>
 A 1 j h fun q h=>
 L q h fun s h=>
 C c 74 [p,s] h fun t h=>
 E 0 t h fun v h=>
 E 1 t h fun w h=>
 x (T314 a b f j v w d) h
def k170_2:KF:=K4 y0 y1 y15 y17 fun c i x h a b d e=>
 I e (x (T313 a b d) h) (.ex 0 (T16 a b) h)
def k170_1:KF:=K2 y0 y1 fun c i x h a b=>
 tR (gF (.c b) .nil h) fun d h=>
 x (T313 a b d) h
def k170_10:KF:=K5 y0 y1 y52 y53 y54 fun c i x h a b d e f=>
 D f i1 h fun g h=>
 .nm (T316 a b d e g) h
def k170_9:KF:=K5 y0 y1 y52 y53 y54 fun c i x h a b d e f=>
 X 1 d f h fun g h=>
 L g h fun j h=>
 tR (wg (.one .s) (.agg [.ai,.ai,.ai]) false b j h) fun k h=>
 O 248 3 (.k1 (Y3 .ai .ai .ai)) h fun l h=>
 S 3 l k h fun m h=>
 A 1 l h fun n h=>
 L n h fun o h=>
 G o h fun p h=>
 Q p i0 h fun q h=>
 I q (x (T316 a b d e f) h) (A 0 l h fun s h=>
 L s h fun t h=>
 J a h fun v h=>
 A 1 v h fun w h=>
 L w h fun y h=>
 A 1 l h fun z h=>
 L z h fun a0 h=>
 C c 264 [t,y,a0] h fun a1 h=>
 E 0 a1 h fun a2 h=>
 E 1 a1 h fun a3 h=>
 tR (cP a3 i0 h) fun a4 h=>
 I a4 (.ret (T3 a3) h) (A 0 l h fun a5 h=>
 L a5 h fun a6 h=>
 A 1 l h fun a7 h=>
 L a7 h fun a8 h=>
 U [.ai,.ai,.ai] [.mk 0 1 (.c a6),.mk 1 1 (.c a8),.mk 2 1 (.c a2)] h fun a9 h=>
 tR (yn (.one .s) b j a9 h) fun b0 h=>
 x (T316 a b d e f) h))
def k170_8:KF:=K5 y0 y1 y52 y53 y54 fun c i x h a b d e f=>
 Y f e h fun g h=>
 I g (x (T316 a b d e f) h) (.ex 2 T28 h)
def k170_7:KF:=K2 y0 y1 fun c i x h a b=>
 C c 263 [b] h fun d h=>
 C c 262 [d] h fun e h=>
 G e h fun f h=>
 x (T316 a b e f i0) h
def k170_11:KF:=fun c i x r h=>
 .ret (T3 i0) h
def k170_6:KF:=K2 y0 y1 fun c i x h a b=>
 C c 261 [a,b] h fun d h=>
 I d (.ret (T3 (pi 27)) h) (x (T16 a b) h)
def k170_0:KF:=K2 y0 y1 fun c i x h a b=>
 x (T16 a b) h
def x170:AC:=(.ah k170_0 (.seq (.ah k170_1 (.block 0 (.loop (.seq (.ops [.o d16 (.uM false r15),
 oe d17 0 r16]) (.ah k170_2 (.block 1 (.ah k170_3 (.seq (.seq (.ops [m d34 r8,
 o d35 (.bin .ne r34 a0),
 m d36 r35,
 .g .h2 .h4 false d37 (.op (.mv r7)),
 .g .h2 .h4 false d38 (.call 75 [r37]),
 .g .h2 .h4 false d39 (.op (.un .not r38)),
 o d40 (.pick r36 (.c (.bool true)) r39)]) (.ah k170_4 .skip)) (.ah k170_5 .skip))))))))) (.ah k170_6 (.seq (.ah k170_7 (.block 2 (.loop (.ah k170_8 (.ah k170_9 (.ah k170_10 .skip)))))) (.ah k170_11 .skip)))))
def f170:AF:=.mk x170 [.t .h0 .h4]
def k171_0:KF:=K2 y0 y1 fun c i x h a b=>
 tR (cK (.QY .f64) a h) fun d h=>
 tR (cK (.QY .f64) b h) fun e h=>
 tR (jx .f64 (.c d) (.c e) .nil h) fun f h=>
 .ret (T3 f) h
def x171:AC:=(.ah k171_0 .skip)
def f171:AF:=.mk x171 [.t .h0 .h4]
def x172:AC:=b172
def f172:AF:=.mk x172 [.t .h0 .h4]
def k173_0:KF:=K1 y0 fun c i x h a=>
 tR (bK (.ku .s) a .ai h) fun b h=>
 I b (.ret (T2 .ai) h) (tR (bs 34 3 0 [] [] h) fun d h=>
 tR (cX 34 3 d a h) fun e h=>
 .ret (T2 e) h)
def x173:AC:=(.ah k173_0 .skip)
def f173:AF:=.mk x173 [.t .h0 .h2]
def k174_1:KF:=K3 y2 y3 y12 fun c i x h a b d=>
 I d (.ret (T3 (.bool false)) h) (.nm (T73 a b) h)
def k174_3:KF:=K2 y2 y3 fun c i x h a b=>
 A 2 a h fun d h=>
 L d h fun e h=>
 A 2 b h fun f h=>
 L f h fun g h=>
 tR (BQ e g h) fun j h=>
 .ret (T3 j) h
def k174_2:KF:=K2 y2 y3 fun c i x h a b=>
 A 0 a h fun d h=>
 L d h fun e h=>
 A 0 b h fun f h=>
 L f h fun g h=>
 tR (cP e g h) fun j h=>
 I j (A 0 a h fun k h=>
 L k h fun l h=>
 Q l i1 h fun m h=>
 .ret (T3 m) h) (A 0 a h fun k h=>
 L k h fun l h=>
 Q l i1 h fun m h=>
 I m (A 1 a h fun n h=>
 L n h fun o h=>
 A 1 b h fun p h=>
 L p h fun q h=>
 Y o q h fun s h=>
 .ret (T3 s) h) (x (T73 a b) h))
def k174_0:KF:=K2 y0 y1 fun c i x h a b=>
 B 34 a h fun d h=>
 B 34 b h fun e h=>
 x (T73 d e) h
def x174:AC:=(.ah k174_0 (.seq (.seq (.ops [o d5 (.jO 3 r2),
 oc d6 90 [r5],
 o d7 (.un .not r6),
 m d8 r7,
 .g .h0 .h8 false d9 (.op (.jO 3 r3)),
 .g .h0 .h8 false d10 (.call 90 [r9]),
 .g .h0 .h8 false d11 (.op (.un .not r10)),
 o d12 (.pick r8 (.c (.bool true)) r11)]) (.ah k174_1 .skip)) (.ah k174_2 (.ah k174_3 .skip))))
def f174:AF:=.mk x174 [.t .h0 .h4]
def k175_0:KF:=K2 y0 y1 fun c i x h a b=>
 x (T16 a b) h
def x175:AC:=(.ah k175_0 (.seq (.ops [m d5 r0,
 oc d6 88 [r5],
 m d7 r6,
 .g .h0 .h7 true d8 (.op (.mv r1)),
 .g .h0 .h7 true d9 (.call 88 [r8]),
 o d10 (.pick r7 r9 (.c (.bool false))),
 m d11 r10,
 .g .h0 .hb true d12 (.op (.mv r0)),
 .g .h0 .hb true d13 (.op (.mv r1)),
 .g .h0 .hb true d14 (.call 89 [r12,r13]),
 .g .h0 .hb true d15 (.op (.un .not r14)),
 o d16 (.pick r11 r15 (.c (.bool false))),
 m d17 r16,
 .g .h1 .h1 true d18 (.op (.mv r1)),
 .g .h1 .h1 true d19 (.op (.mv r0)),
 .g .h1 .h1 true d20 (.call 89 [r18,r19]),
 .g .h1 .h1 true d21 (.op (.un .not r20)),
 o d22 (.pick r17 r21 (.c (.bool false))),
 m d23 r22,
 .g .h1 .h7 true d24 (.op (.mv r0)),
 .g .h1 .h7 true d25 (.op (.len r24)),
 .g .h1 .h7 true d26 (.op (.mv r1)),
 .g .h1 .h7 true d27 (.op (.len r26)),
 .g .h1 .h7 true d28 (.op (.bin .eq r25 r27)),
 o d29 (.pick r23 r28 (.c (.bool false))),
 m d4 r29]) .ret))
def f175:AF:=.mk x175 [.t .h0 .h4]
def k176_2:KF:=K2 y0 y1 fun c i x h a b=>
 C c 92 [a] h fun d h=>
 C c 92 [b] h fun e h=>
 D d e h fun f h=>
 C c 265 [f] h fun g h=>
 E 0 g h fun j h=>
 E 1 g h fun k h=>
 .ret (T5 j k) h
def k176_1:KF:=K4 y0 y1 y8 y11 fun c i x h a b d e=>
 tR (bG d h) fun f h=>
 gD f false (fun g=>g e h) h fun g h=>
 gD f false (fun j=>tR (bG g h) fun k h=>
 j k h) h fun j h=>
 tR (dm (.c f) (.c (.bool true)) (.c j) .nil h) fun k h=>
 I k (.ret (T5 (.aj .f64 0 0) (.bool false)) h) (x (T16 a b) h)
def k176_0:KF:=K2 y0 y1 fun c i x h a b=>
 C c 87 [a] h fun d h=>
 E 0 d h fun e h=>
 E 1 d h fun f h=>
 E 2 d h fun g h=>
 C c 87 [b] h fun j h=>
 E 0 j h fun k h=>
 E 1 j h fun l h=>
 E 2 j h fun m h=>
 x (T318 a b g m) h
def x176:AC:=(.ah k176_0 (.ah k176_1 (.ah k176_2 .skip)))
def f176:AF:=.mk x176 [.t .h0 .h4,.t .h0 .h5]
def k177_0:KF:=K1 y0 fun c i x h a=>
 C c 92 [a] h fun b h=>
 C c 265 [b] h fun d h=>
 E 0 d h fun e h=>
 E 1 d h fun f h=>
 .ret (T2 e) h
def x177:AC:=(.ah k177_0 .skip)
def f177:AF:=.mk x177 [.t .h0 .h2]
def k178_4:KF:=K5 y1 y2 y3 y9 y10 fun c i x h a b d e f=>
 D f i1 h fun g h=>
 .nm (T283 a b d e g) h
def k178_3:KF:=K5 y1 y2 y3 y9 y10 fun c i x h a b d e f=>
 A 2 d h fun g h=>
 L g h fun j h=>
 X 4 j f h fun k h=>
 M 4 k h fun l h=>
 C c 266 [l,a,b] h fun m h=>
 E 0 m h fun n h=>
 E 1 m h fun o h=>
 O 34 3 (.k1 (Y3 i0 i0 iS)) h fun p h=>
 S 3 p n h fun q h=>
 tR (cP o i0 h) fun s h=>
 I s (.ret (T281 .ai (.bool false) o) h) (A 0 d h fun t h=>
 L t h fun v h=>
 Q v (pi 2) h fun w h=>
 I w (A 1 p h fun y h=>
 L y h fun z h=>
 tR (cP z i0 h) fun a0 h=>
 .ret (T281 b a0 i0) h) (M 3 p h fun y h=>
 tR (bs 34 3 1 [i0,i0,iS] [.mk 0 3 (.c y)] h) fun z h=>
 tR (cX 34 3 e z h) fun a0 h=>
 x (T283 a b d a0 f) h))
def k178_2:KF:=K5 y1 y2 y3 y9 y10 fun c i x h a b d e f=>
 A 2 d h fun g h=>
 L g h fun j h=>
 G j h fun k h=>
 Y f k h fun l h=>
 I l (x (T283 a b d e f) h) (.ex 0 (T9 e) h)
def k178_1:KF:=K4 y1 y2 y3 y9 fun c i x h a b d e=>
 x (T283 a b d e i0) h
def k178_5:KF:=K1 y9 fun c i x h a=>
 .ret (T281 a (.bool true) i0) h
def k178_0:KF:=K3 y0 y1 y2 fun c i x h a b d=>
 B 49 a h fun e h=>
 x (T282 b d e .ai) h
def x178:AC:=(.ah k178_0 (.seq (.ah k178_1 (.block 0 (.loop (.ah k178_2 (.ah k178_3 (.ah k178_4 .skip)))))) (.ah k178_5 .skip)))
def f178:AF:=.mk x178 [.t .h0 .h6,.t .h0 .h7,.t .h0 .h8]
def x179:AC:=b179
def f179:AF:=.mk x179 [.t .h0 .ha,.t .h0 .hb]
def k180_4:KF:=K8 y0 y1 y2 y8 y9 y10 y11 y43 fun c i x h a b d e f g j k=>
 I k (.nm (T163 a b d e f g j) h) (.ex 2 (T163 a b d e f g j) h)
def k180_5:KF:=K7 y0 y1 y2 y8 y9 y10 y11 fun c i x h a b d e f g j=>
 D j i1 h fun k h=>
 .nm (T163 a b d e f g k) h
def k180_6:KF:=K8 y0 y1 y2 y8 y9 y10 y11 y57 fun c i x h a b d e f g j k=>
 I k (tR (bs 23 1 0 [] [] h) fun l h=>
 tR (eo 1 (.c e) .none (.some (.c j)) .none .nil h) fun m h=>
 tR (cX 23 1 l m h) fun n h=>
 tR (bs 23 1 1 [.ai] [.mk 0 1 (.c g)] h) fun o h=>
 tR (cX 23 1 n o h) fun p h=>
 tR (eo 1 (.c e) (.some (.c j)) .none .none .nil h) fun q h=>
 tR (cX 23 1 p q h) fun s h=>
 .nm (T331 a b d s f) h) (.nm (T331 a b d e f) h)
def k180_3:KF:=K5 y0 y1 y2 y8 y9 fun c i x h a b d e f=>
 X 2 d f h fun g h=>
 A 0 g h fun j h=>
 L j h fun k h=>
 C c 269 [k,a] h fun l h=>
 x (T163 a b d e f l i0) h
def k180_7:KF:=K5 y0 y1 y2 y8 y9 fun c i x h a b d e f=>
 D f i1 h fun g h=>
 .nm (T331 a b d e g) h
def k180_2:KF:=K5 y0 y1 y2 y8 y9 fun c i x h a b d e f=>
 G d h fun g h=>
 Y f g h fun j h=>
 I j (x (T331 a b d e f) h) (.ex 0 (T162 a b d e) h)
def k180_1:KF:=K4 y0 y1 y2 y8 fun c i x h a b d e=>
 x (T331 a b d e i0) h
def k180_14:KF:=K10 y0 y1 y2 y8 y13 y14 y15 y16 y17 y18 fun c i x h a b d e f g j k l m=>
 tR (bG m h) fun n h=>
 I n (.ret (T29 .ai (pi 26)) h) (M 3 l h fun o h=>
 tR (bs 34 3 1 [i0,i0,iS] [.mk 0 3 (.c o)] h) fun p h=>
 tR (cX 34 3 j p h) fun q h=>
 .nm (T335 a b d e f g q k) h)
def k180_15:KF:=K8 y0 y1 y2 y8 y13 y14 y15 y16 fun c i x h a b d e f g j k=>
 D k i1 h fun l h=>
 .nm (T335 a b d e f g j l) h
def k180_13:KF:=K8 y0 y1 y2 y8 y13 y14 y15 y16 fun c i x h a b d e f g j k=>
 G b h fun l h=>
 Y k l h fun m h=>
 I m (x (T335 a b d e f g j k) h) (.ex 6 (T334 a b d e f g j) h)
def k180_12:KF:=K7 y0 y1 y2 y8 y13 y14 y15 fun c i x h a b d e f g j=>
 x (T335 a b d e f g j i0) h
def k180_16:KF:=K7 y0 y1 y2 y8 y13 y14 y15 fun c i x h a b d e f g j=>
 U [.ai,(.aj .f64 0 0)] [.mk 0 1 (.c j),.mk 1 1 (.c (.aj .f64 4607182418800017408 0))] h fun k h=>
 tR (bs 27 2 1 [.ai,(.aj .f64 0 0)] [.mk 0 2 (.c k)] h) fun l h=>
 tR (cX 27 2 f l h) fun m h=>
 .nm (T333 a b d e m g) h
def k180_11:KF:=K6 y0 y1 y2 y8 y13 y14 fun c i x h a b d e f g=>
 tR (bs 34 3 0 [] [] h) fun j h=>
 X 1 e g h fun k h=>
 L k h fun l h=>
 tR (cX 34 3 j l h) fun m h=>
 x (T334 a b d e f g m) h
def k180_17:KF:=K6 y0 y1 y2 y8 y13 y14 fun c i x h a b d e f g=>
 D g i1 h fun j h=>
 .nm (T333 a b d e f j) h
def k180_10:KF:=K6 y0 y1 y2 y8 y13 y14 fun c i x h a b d e f g=>
 G e h fun j h=>
 Y g j h fun k h=>
 I k (x (T333 a b d e f g) h) (.ex 4 (T287 f) h)
def k180_9:KF:=K5 y0 y1 y2 y8 y13 fun c i x h a b d e f=>
 x (T333 a b d e f i0) h
def k180_18:KF:=K1 y13 fun c i x h a=>
 .ret (T29 a i0) h
def k180_8:KF:=K4 y0 y1 y2 y8 fun c i x h a b d e=>
 x (T332 a b d e .ai) h
def k180_0:KF:=K3 y0 y1 y2 fun c i x h a b d=>
 x (T162 a b d .ai) h
def x180:AC:=(.ah k180_0 (.seq (.ah k180_1 (.block 0 (.loop (.ah k180_2 (.seq (.block 1 (.ah k180_3 (.seq (.block 2 (.loop (.seq (.seq (.ops [m d32 r11,
 m d33 r8,
 o d34 (.len r33),
 o d35 (.bin .lt r32 r34),
 m d36 r35,
 .g .h2 .h4 true d37 (.op (.mv r8)),
 .g .h2 .h4 true d38 (.op (.mv r11)),
 .g .h2 .h4 true d39 (.op (.cn 1 r37 r38)),
 .g .h2 .h4 true d40 (.op (.bZ r39)),
 .g .h2 .h4 true d41 (.op (.mv r10)),
 .g .h2 .h4 true d42 (.call 270 [r40,r41]),
 o d43 (.pick r36 r42 (.c (.bool false)))]) (.ah k180_4 .skip)) (.ah k180_5 .skip)))) (.seq (.ops [m d46 r11,
 m d47 r8,
 o d48 (.len r47),
 o d49 (.bin .eq r46 r48),
 m d50 r49,
 .g .h3 .h2 false d51 (.op (.mv r10)),
 .g .h3 .h2 false d52 (.op (.mv r8)),
 .g .h3 .h2 false d53 (.op (.mv r11)),
 .g .h3 .h2 false d54 (.op (.cn 1 r52 r53)),
 .g .h3 .h2 false d55 (.op (.bZ r54)),
 .g .h3 .h2 false d56 (.call 270 [r51,r55]),
 o d57 (.pick r50 (.c (.bool true)) r56)]) (.ah k180_6 .skip))))) (.ah k180_7 .skip)))))) (.ah k180_8 (.seq (.ah k180_9 (.block 4 (.loop (.ah k180_10 (.seq (.block 5 (.ah k180_11 (.seq (.ah k180_12 (.block 6 (.loop (.ah k180_13 (.seq (.block 7 (.seq (.iB [q 0 (m d90 r0),
 q 0 (m d91 r8),
 q 0 (m d92 r14),
 q 0 (o d93 (.cn 1 r91 r92)),
 ql 0 d94 r93,
 q 0 (m d95 r1),
 q 0 (m d96 r16),
 q 0 (o d97 (.cn 2 r95 r96)),
 q 0 (o d98 (.jO 2 r97)),
 q 0 (m d99 r2),
 w (oc d100 271 [r90,r94,r98,r99]),
 q 0 (m d89 r100),
 q 0 (oe d101 0 r89),
 n (o d17 (.alloc 34 3 (.k1 (Y3 i0 i0 iS)))),
 w (o .no (.uK 3 r17 r101)),
 q 1 (oe d102 1 r89),
 q 0 (m d18 r102)]) (.ah k180_14 .skip))) (.ah k180_15 .skip)))))) (.ah k180_16 .skip)))) (.ah k180_17 .skip)))))) (.ah k180_18 .skip)))))
def f180:AF:=.mk x180 [.t .h0 .h6,.t .h0 .h7]
def k181_3:KF:=K4 y0 y1 y5 y6 fun c i x h a b d e=>
 D e i1 h fun f h=>
 .nm (T70 a b d f) h
def k181_2:KF:=K4 y0 y1 y5 y6 fun c i x h a b d e=>
 G b h fun f h=>
 Y e f h fun g h=>
 I g (X 1 b e h fun j h=>
 L j h fun k h=>
 C c 235 [a,k] h fun l h=>
 E 0 l h fun m h=>
 E 1 l h fun n h=>
 tR (bs 3 1 1 [i0] [.mk 0 1 (.c m)] h) fun o h=>
 tR (cX 3 1 d o h) fun p h=>
 x (T70 a b p e) h) (.ex 0 (T88 d) h)
def k181_1:KF:=K3 y0 y1 y5 fun c i x h a b d=>
 x (T70 a b d i0) h
def k181_4:KF:=K1 y5 fun c i x h a=>
 .ret (T3 a) h
def k181_0:KF:=K2 y0 y1 fun c i x h a b=>
 x (T27 a b .ai) h
def x181:AC:=(.ah k181_0 (.seq (.ah k181_1 (.block 0 (.loop (.ah k181_2 (.ah k181_3 .skip))))) (.ah k181_4 .skip)))
def f181:AF:=.mk x181 [.t .h0 .h4]
def k182_4:KF:=K4 y0 y1 y5 y6 fun c i x h a b d e=>
 D e i1 h fun f h=>
 .nm (T70 a b d f) h
def k182_3:KF:=K4 y0 y1 y5 y6 fun c i x h a b d e=>
 X 3 b e h fun f h=>
 A 2 f h fun g h=>
 L g h fun j h=>
 C c 235 [a,j] h fun k h=>
 E 0 k h fun l h=>
 E 1 k h fun m h=>
 X 3 b e h fun n h=>
 A 1 n h fun o h=>
 L o h fun p h=>
 U [iS,i0] [.mk 0 1 (.c p),.mk 1 1 (.c l)] h fun q h=>
 tR (bs 360 2 1 [iS,i0] [.mk 0 2 (.c q)] h) fun s h=>
 tR (cX 360 2 d s h) fun t h=>
 x (T70 a b t e) h
def k182_2:KF:=K4 y0 y1 y5 y6 fun c i x h a b d e=>
 G b h fun f h=>
 Y e f h fun g h=>
 I g (x (T70 a b d e) h) (.ex 0 (T88 d) h)
def k182_1:KF:=K3 y0 y1 y5 fun c i x h a b d=>
 x (T70 a b d i0) h
def k182_5:KF:=K1 y5 fun c i x h a=>
 .ret (T3 a) h
def k182_0:KF:=K2 y0 y1 fun c i x h a b=>
 x (T27 a b .ai) h
def x182:AC:=(.ah k182_0 (.seq (.ah k182_1 (.block 0 (.loop (.ah k182_2 (.ah k182_3 (.ah k182_4 .skip)))))) (.ah k182_5 .skip)))
def f182:AF:=.mk x182 [.t .h0 .h4]
def k183_4:KF:=K3 y0 y4 y5 fun c i x h a b d=>
 D d i1 h fun e h=>
 .nm (T336 a b e) h
def k183_3:KF:=K3 y0 y4 y5 fun c i x h a b d=>
 X 2 a d h fun e h=>
 A 1 e h fun f h=>
 L f h fun g h=>
 C c 92 [g] h fun j h=>
 D b j h fun k h=>
 tR (mE k (pi 1125899906842624) h) fun l h=>
 gD l false (fun m=>m k h) h fun m h=>
 gD l false (fun n=>Y m (ni 1125899906842623) h fun o h=>
 n o h) h fun n h=>
 tR (dm (.c l) (.c (.bool true)) (.c n) .nil h) fun o h=>
 I o (.ret (T73 i0 (.bool false)) h) (x (T336 a k d) h)
def k183_2:KF:=K3 y0 y4 y5 fun c i x h a b d=>
 G a h fun e h=>
 Y d e h fun f h=>
 I f (x (T336 a b d) h) (.ex 0 (T3 b) h)
def k183_1:KF:=K2 y0 y4 fun c i x h a b=>
 x (T336 a b i0) h
def k183_5:KF:=K1 y4 fun c i x h a=>
 .ret (T73 a (.bool true)) h
def k183_0:KF:=K1 y0 fun c i x h a=>
 C c 36 [a] h fun b h=>
 tR (bG b h) fun d h=>
 I d (.ret (T73 i0 (.bool false)) h) (x (T184 a i0) h)
def x183:AC:=(.ah k183_0 (.seq (.ah k183_1 (.block 0 (.loop (.ah k183_2 (.ah k183_3 (.ah k183_4 .skip)))))) (.ah k183_5 .skip)))
def f183:AF:=.mk x183 [.t .h0 .h2,.t .h0 .h3]
def k184_0:KF:=K2 y0 y1 fun c i x h a b=>
 tR (cK (.QY .f64) a h) fun d h=>
 tR (cK (.QY .f64) b h) fun e h=>
 tR (jx .f64 (.c d) (.c e) .nil h) fun f h=>
 .ret (T3 f) h
def x184:AC:=(.ah k184_0 .skip)
def f184:AF:=.mk x184 [.t .h0 .h4]
def x185:AC:=b185
def f185:AF:=.mk x185 [.t .h0 .h4]
def x189:AC:=b189
def f189:AF:=.mk x189 []
def x190:AC:=b190
def f190:AF:=.mk x190 []
def x191:AC:=b191
def f191:AF:=.mk x191 [.t .h0 .h2]
def x192:AC:=b192
def f192:AF:=.mk x192 [.t .h0 .h4]
def x193:AC:=b193
def f193:AF:=.mk x193 [.t .h0 .h4]
def x196:AC:=b196
def f196:AF:=.mk x196 [.agg 5 .h0 .h2]
def x197:AC:=b197
def f197:AF:=.mk x197 [.agg 5 .h0 .h2]
def x198:AC:=b198
def f198:AF:=.mk x198 [.agg 5 .h0 .h2]
def x199:AC:=b199
def f199:AF:=.mk x199 [.agg 5 .h0 .h2]
def x200:AC:=b200
def f200:AF:=.Ek x200 [.agg 5 .h0 .h2,.t .h0 .h3,.t .h0 .h4]
def x201:AC:=b201
def f201:AF:=.mk x201 [.agg 8 .h0 .h4]
def x203:AC:=b203
def f203:AF:=.mk x203 [.t .h0 .h6]
def x204:AC:=b204
def f204:AF:=.mk x204 [.t .h0 .h4]
def x205:AC:=b205
def f205:AF:=.mk x205 [.t .h0 .h4]
def x206:AC:=b206
def f206:AF:=.mk x206 [.t .h0 .h4]
def x207:AC:=b207
def f207:AF:=.mk x207 [.t .h0 .h6]
def x208:AC:=b208
def f208:AF:=.mk x208 [.t .h0 .h2]
def x209:AC:=b209
def f209:AF:=.mk x209 [.t .h0 .h4,.t .h0 .h5]
def x210:AC:=b210
def f210:AF:=.mk x210 [.t .h0 .h4]
def x211:AC:=b211
def f211:AF:=.mk x211 [.t .h0 .h2,.agg 2 .h0 .h3]
def x212:AC:=b212
def f212:AF:=.mk x212 [.agg 2 .h0 .h8]
def x213:AC:=b213
def f213:AF:=.mk x213 [.t .h0 .h4]
def x214:AC:=b214
def f214:AF:=.mk x214 [.t .h0 .h2]
def k215_2:KF:=K4 y0 y1 y7 y8 fun c i x h a b d e=>
 Y e d h fun f h=>
 I f (X 2 a e h fun g h=>
 M 2 g h fun j h=>
 tT (cd c b [j] h) fun k h=>
 I k (.ret (T3 e) h) (D e i1 h fun l h=>
 .nm (T85 a b d l) h)) (.ex 0 (T85 a b d e) h)
def k215_1:KF:=K2 y0 y1 fun c i x h a b=>
 G a h fun d h=>
 x (T85 a b d i0) h
def k215_3:KF:=fun c i x r h=>
 .ret (T3 (ni 0)) h
def k215_0:KF:=K2 y0 y1 fun c i x h a b=>
 x (T16 a b) h
def x215:AC:=(.ah k215_0 (.seq (.ah k215_1 (.block 0 (.loop (.ah k215_2 .skip)))) (.ah k215_3 .skip)))
def f215:AF:=.mk x215 [.t .h0 .h4]
def k216_0:KF:=K2 y0 y1 fun c i x h a b=>
 B 85 a h fun d h=>
 A 0 d h fun e h=>
 L e h fun f h=>
 L b h fun g h=>
 tR (aW f g h) fun j h=>
 .ret (T13 j) h
def x216:AC:=(.ah k216_0 .skip)
def f216:AF:=.mk x216 [.t .h0 .h3]
def k217_3:KF:=K6 y0 y1 y2 y6 y7 y30 fun c i x h a b d e f g=>
 I g (.nm (T380 a b d e f) h) (.ex 2 (T380 a b d e f) h)
def k217_4:KF:=K5 y0 y1 y2 y6 y7 fun c i x h a b d e f=>
 Z f i1 h fun g h=>
 .nm (T380 a b d e g) h
def k217_2:KF:=K4 y0 y1 y2 y6 fun c i x h a b d e=>
 x (T380 a b d e e) h
def k217_5:KF:=K4 y0 y1 y2 y6 fun c i x h a b d e=>
 D e i1 h fun f h=>
 .nm (T379 a b d f) h
def k217_1:KF:=K4 y0 y1 y2 y6 fun c i x h a b d e=>
 Y e d h fun f h=>
 I f (x (T379 a b d e) h) (.ex 0 T28 h)
def k217_0:KF:=K3 y0 y1 y2 fun c i x h a b d=>
 D b i1 h fun e h=>
 x (T379 a b d e) h
def x217:AC:=(.ah k217_0 (.block 0 (.loop (.ah k217_1 (.seq (.block 1 (.ah k217_2 (.block 2 (.loop (.seq (.seq (.ops [m d16 r7,
 m d17 r1,
 o d18 (.bin .gt r16 r17),
 m d19 r18,
 .g .h1 .h3 true d20 (.op (.mv r0)),
 .g .h1 .h3 true d21 (.op (.mv r7)),
 .g .h1 .h3 true d22 (.op (.cn 1 r20 r21)),
 .g .h1 .h3 true d23 (.op (.bZ r22)),
 .g .h1 .h3 true d24 (.op (.mv r0)),
 .g .h1 .h3 true d25 (.op (.mv r7)),
 .g .h1 .h3 true d26 (.op (.bin .sub r25 a1)),
 .g .h1 .h3 true d27 (.op (.cn 1 r24 r26)),
 .g .h1 .h3 true d28 (.op (.bZ r27)),
 .g .h1 .h3 true d29 (.call 223 [r23,r28]),
 o d30 (.pick r19 r29 (.c (.bool false)))]) (.ah k217_3 .skip)) (.seq (.block 3 (.iB [q 0 (m d33 r0),
 q 0 (m d34 r7),
 q 0 (m d38 r0),
 q 0 (m d39 r7),
 q 0 (o d40 (.bin .sub r39 a1)),
 q 0 (o d41 (.cn 1 r38 r40)),
 ql 0 d42 r41,
 q 0 (m d43 r0),
 q 0 (m d44 r7),
 q 0 (o d45 (.cn 1 r43 r44)),
 ql 0 d46 r45,
 q 0 (o d47 (.cn 1 r33 r34)),
 w (os r47 r42),
 q 1 (m d35 r0),
 q 1 (m d36 r7),
 q 1 (o d37 (.bin .sub r36 a1)),
 q 0 (o d48 (.cn 1 r35 r37)),
 w (os r48 r46)])) (.ah k217_4 .skip))))))) (.ah k217_5 .skip))))))
def f217:AF:=.mk x217 []
def x223:AC:=b223
def f223:AF:=.mk x223 [.t .h0 .h4]
def k227_2:KF:=K2 y0 y2 fun c i x h a b=>
 tR (nN a (.int .u64 (.ofNat 256)) h) fun d h=>
 I d (tR (bK .shr a (.int .u64 (.ofNat 8)) h) fun e h=>
 D b (pi 8) h fun f h=>
 tR (cK (.toInt .u8) e h) fun g h=>
 tR (gG (.c (.str [0,1,2,2,3,3,3,3,4,4,4,4,4,4,4,4,5,5,5,5,5,5,5,5,5,5,5,5,5,5,5,5,6,6,6,6,6,6,6,6,6,6,6,6,6,6,6,6,6,6,6,6,6,6,6,6,6,6,6,6,6,6,6,6,7,7,7,7,7,7,7,7,7,7,7,7,7,7,7,7,7,7,7,7,7,7,7,7,7,7,7,7,7,7,7,7,7,7,7,7,7,7,7,7,7,7,7,7,7,7,7,7,7,7,7,7,7,7,7,7,7,7,7,7,7,7,7,7,8,8,8,8,8,8,8,8,8,8,8,8,8,8,8,8,8,8,8,8,8,8,8,8,8,8,8,8,8,8,8,8,8,8,8,8,8,8,8,8,8,8,8,8,8,8,8,8,8,8,8,8,8,8,8,8,8,8,8,8,8,8,8,8,8,8,8,8,8,8,8,8,8,8,8,8,8,8,8,8,8,8,8,8,8,8,8,8,8,8,8,8,8,8,8,8,8,8,8,8,8,8,8,8,8,8,8,8,8,8,8,8,8,8,8,8,8,8,8,8,8,8,8,8,8,8,8,8])) (.c g) .nil h) fun j h=>
 tR (cK (.toInt .i64) j h) fun k h=>
 D f k h fun l h=>
 x (T2 l) h) (tR (cK (.toInt .u8) a h) fun e h=>
 tR (gG (.c (.str [0,1,2,2,3,3,3,3,4,4,4,4,4,4,4,4,5,5,5,5,5,5,5,5,5,5,5,5,5,5,5,5,6,6,6,6,6,6,6,6,6,6,6,6,6,6,6,6,6,6,6,6,6,6,6,6,6,6,6,6,6,6,6,6,7,7,7,7,7,7,7,7,7,7,7,7,7,7,7,7,7,7,7,7,7,7,7,7,7,7,7,7,7,7,7,7,7,7,7,7,7,7,7,7,7,7,7,7,7,7,7,7,7,7,7,7,7,7,7,7,7,7,7,7,7,7,7,7,8,8,8,8,8,8,8,8,8,8,8,8,8,8,8,8,8,8,8,8,8,8,8,8,8,8,8,8,8,8,8,8,8,8,8,8,8,8,8,8,8,8,8,8,8,8,8,8,8,8,8,8,8,8,8,8,8,8,8,8,8,8,8,8,8,8,8,8,8,8,8,8,8,8,8,8,8,8,8,8,8,8,8,8,8,8,8,8,8,8,8,8,8,8,8,8,8,8,8,8,8,8,8,8,8,8,8,8,8,8,8,8,8,8,8,8,8,8,8,8,8,8,8,8,8,8,8,8])) (.c e) .nil h) fun f h=>
 tR (cK (.toInt .i64) f h) fun g h=>
 D b g h fun j h=>
 x (T2 j) h)
def k227_1:KF:=K2 y0 y2 fun c i x h a b=>
 tR (nN a (.int .u64 (.ofNat 65536)) h) fun d h=>
 I d (tR (bK .shr a (.int .u64 (.ofNat 16)) h) fun e h=>
 D b (pi 16) h fun f h=>
 x (T350 e f) h) (x (T350 a b) h)
def k227_0:KF:=K1 y0 fun c i x h a=>
 tR (nN a (.int .u64 (.ofNat 4294967296)) h) fun b h=>
 I b (tR (bK .shr a (.int .u64 (.ofNat 32)) h) fun d h=>
 x (T350 d (pi 32)) h) (x (T350 a i0) h)
def x227:AC:=(.ah k227_0 (.ah k227_1 (.ah k227_2 .ret)))
def f227:AF:=.mk x227 [.t .h0 .h2]
def x229:AC:=b229
def f229:AF:=.mk x229 [.t .h0 .h4,.t .h0 .h5,.t .h0 .h6]
def k230_2:KF:=K2 y0 y3 fun c i x h a b=>
 G a h fun d h=>
 Y b d h fun e h=>
 I e (X 5 a b h fun f h=>
 A 0 f h fun g h=>
 L g h fun j h=>
 tR (cP j (pi 2) h) fun k h=>
 I k (.ret (T2 (.bool false)) h) (D b i1 h fun l h=>
 .nm (T0 a l) h)) (.ex 0 (T0 a b) h)
def k230_1:KF:=K1 y0 fun c i x h a=>
 x (T0 a i0) h
def k230_3:KF:=fun c i x r h=>
 .ret (T2 (.bool true)) h
def k230_0:KF:=K1 y0 fun c i x h a=>
 x (T4 a) h
def x230:AC:=(.ah k230_0 (.seq (.ah k230_1 (.block 0 (.loop (.ah k230_2 .skip)))) (.ah k230_3 .skip)))
def f230:AF:=.mk x230 [.t .h0 .h2]
def k231_3:KF:=K2 y3 y4 fun c i x h a b=>
 I b (.ret (T2 (pi 2)) h) (tR (aW a (.str [110,101,103]) h) fun d h=>
 I d (I d (.ret (T2 i1) h) (tR (aW a (.str [105,102]) h) fun e h=>
 I e (.ret (T2 (pi 3)) h) (.nm T28 h))) (tR (aW a (.str [110,111,116]) h) fun e h=>
 I e (I e (.ret (T2 i1) h) (tR (aW a (.str [105,102]) h) fun f h=>
 I f (.ret (T2 (pi 3)) h) (.nm T28 h))) (tR (aW a (.str [108,101,110]) h) fun f h=>
 I f (.ret (T2 i1) h) (tR (aW a (.str [105,102]) h) fun g h=>
 I g (.ret (T2 (pi 3)) h) (.nm T28 h)))))
def k231_2:KF:=K1 y3 fun c i x h a=>
 tR (aW a (.str [97,100,100]) h) fun b h=>
 I b (x (T266 a b) h) (tR (aW a (.str [115,117,98]) h) fun d h=>
 I d (x (T266 a d) h) (tR (aW a (.str [109,117,108]) h) fun e h=>
 I e (x (T266 a e) h) (tR (aW a (.str [101,113]) h) fun f h=>
 I f (x (T266 a f) h) (tR (aW a (.str [108,116]) h) fun g h=>
 I g (x (T266 a g) h) (tR (aW a (.str [97,110,100]) h) fun j h=>
 I j (x (T266 a j) h) (tR (aW a (.str [111,114]) h) fun k h=>
 I k (x (T266 a k) h) (tR (aW a (.str [99,97,116]) h) fun l h=>
 x (T266 a l) h)))))))
def k231_1:KF:=K1 y0 fun c i x h a=>
 x (T13 a) h
def k231_4:KF:=fun c i x r h=>
 .ret (T2 i0) h
def k231_0:KF:=K1 y0 fun c i x h a=>
 x (T4 a) h
def x231:AC:=(.ah k231_0 (.seq (.ah k231_1 (.block 0 (.ah k231_2 (.ah k231_3 .skip)))) (.ah k231_4 .skip)))
def f231:AF:=.mk x231 [.t .h0 .h2]
def x232:AC:=b232
def f232:AF:=.mk x232 [.t .h0 .h2]
def k234_6:KF:=K2 y1 y63 fun c i x h a b=>
 I b (.ret (T2 (.bool false)) h) (.nm (T35 a) h)
def k234_8:KF:=K2 y1 y3 fun c i x h a b=>
 A 3 a h fun d h=>
 L d h fun e h=>
 G e h fun f h=>
 Y b f h fun g h=>
 I g (A 3 a h fun j h=>
 L j h fun k h=>
 X 4 k b h fun l h=>
 M 4 l h fun m h=>
 C c 234 [m] h fun n h=>
 tR (bG n h) fun o h=>
 I o (.ret (T2 (.bool false)) h) (D b i1 h fun p h=>
 .nm (T130 a p) h)) (.ex 1 (T130 a b) h)
def k234_7:KF:=K1 y1 fun c i x h a=>
 x (T130 a i0) h
def k234_9:KF:=fun c i x r h=>
 .ret (T2 (.bool true)) h
def k234_5:KF:=K2 y1 y5 fun c i x h a b=>
 Q b (pi 4) h fun d h=>
 x (T373 a d) h
def k234_4:KF:=K2 y1 y5 fun c i x h a b=>
 Q b (pi 3) h fun d h=>
 x (T372 a b d) h
def k234_3:KF:=K2 y1 y5 fun c i x h a b=>
 Q b (pi 2) h fun d h=>
 x (T371 a b d) h
def k234_2:KF:=K2 y1 y5 fun c i x h a b=>
 Q b i1 h fun d h=>
 x (T370 a b d) h
def k234_1:KF:=K1 y1 fun c i x h a=>
 A 0 a h fun b h=>
 L b h fun d h=>
 x (T369 a d) h
def k234_10:KF:=fun c i x r h=>
 .ret (T2 (.bool false)) h
def k234_0:KF:=K1 y0 fun c i x h a=>
 B 202 a h fun b h=>
 x (T35 b) h
def x234:AC:=(.ah k234_0 (.seq (.ah k234_1 (.block 0 (.ah k234_2 (.cond r6 (.seq (.ops [of d8 1 r1,
 ol d9 r8,
 oc d10 142 [r9],
 m d11 r10,
 .g .h0 .hb true d12 (.op (.cG 2 r1)),
 .g .h0 .hb true d13 (.op (.bZ r12)),
 .g .h0 .hb true d14 (.op (.bin .eq r13 a0)),
 o d15 (.pick r11 r14 (.c (.bool false))),
 m d16 r15,
 .g .h1 .h0 true d17 (.op (.cG 3 r1)),
 .g .h1 .h0 true d18 (.op (.bZ r17)),
 .g .h1 .h0 true d19 (.op (.len r18)),
 .g .h1 .h0 true d20 (.op (.bin .eq r19 a0)),
 o d21 (.pick r16 r20 (.c (.bool false))),
 m d2 r21]) .ret) (.ah k234_3 (.cond r22 (.seq (.ops [of d24 1 r1,
 ol d25 r24,
 o d26 (.bin .seq r25 (.c iS)),
 m d27 r26,
 .g .h1 .hb true d28 (.op (.cG 3 r1)),
 .g .h1 .hb true d29 (.op (.bZ r28)),
 .g .h1 .hb true d30 (.op (.len r29)),
 .g .h1 .hb true d31 (.op (.bin .eq r30 a0)),
 o d32 (.pick r27 r31 (.c (.bool false))),
 m d2 r32]) .ret) (.ah k234_4 (.cond r33 (.seq (.ops [of d35 2 r1,
 ol d36 r35,
 o d37 (.bin .eq r36 a0),
 m d38 r37,
 .g .h2 .h6 true d39 (.op (.cG 3 r1)),
 .g .h2 .h6 true d40 (.op (.bZ r39)),
 .g .h2 .h6 true d41 (.op (.len r40)),
 .g .h2 .h6 true d42 (.op (.bin .eq r41 a0)),
 o d43 (.pick r38 r42 (.c (.bool false))),
 m d2 r43]) .ret) (.ah k234_5 (.cond r44 (.seq (.seq (.iB [qf 0 d46 2 r1,
 ql 0 d47 r46,
 q 0 (o d48 (.bin .ne r47 a0)),
 q 0 (m d49 r48),
 q 0 (.g .h3 .h1 false d50 (.op (.cG 1 r1))),
 q 0 (.g .h3 .h1 false d51 (.op (.bZ r50))),
 w (.g .h3 .h1 false d52 (.call 231 [r51])),
 q 0 (.g .h3 .h1 false d53 (.op (.bin .eq r52 a0))),
 q 0 (o d54 (.pick r49 (.c (.bool true)) r53)),
 q 0 (m d55 r54),
 q 0 (.g .h3 .h7 false d59 (.op (.cG 1 r1))),
 q 0 (.g .h3 .h7 false d60 (.op (.bZ r59))),
 w (.g .h3 .h7 false d61 (.call 231 [r60])),
 q 1 (.g .h3 .h7 false d56 (.op (.cG 3 r1))),
 q 1 (.g .h3 .h7 false d57 (.op (.bZ r56))),
 q 1 (.g .h3 .h7 false d58 (.op (.len r57))),
 q 0 (.g .h3 .h7 false d62 (.op (.bin .ne r58 r61))),
 q 0 (o d63 (.pick r55 (.c (.bool true)) r62))]) (.ah k234_6 .skip)) (.seq (.ah k234_7 (.block 1 (.loop (.ah k234_8 .skip)))) (.ah k234_9 .skip))) .skip)))))))))) (.ah k234_10 .skip)))
def f234:AF:=.mk x234 [.t .h0 .h2]
def k235_2:KF:=K3 y0 y1 y6 fun c i x h a b d=>
 G a h fun e h=>
 Y d e h fun f h=>
 I f (X 2 a d h fun g h=>
 A 0 g h fun j h=>
 L j h fun k h=>
 tR (aW k b h) fun l h=>
 I l (.ret (T5 d (.bool true)) h) (D d i1 h fun m h=>
 .nm (T17 a b m) h)) (.ex 0 (T17 a b d) h)
def k235_1:KF:=K2 y0 y1 fun c i x h a b=>
 x (T17 a b i0) h
def k235_3:KF:=fun c i x r h=>
 .ret (T5 i0 (.bool false)) h
def k235_0:KF:=K2 y0 y1 fun c i x h a b=>
 x (T16 a b) h
def x235:AC:=(.ah k235_0 (.seq (.ah k235_1 (.block 0 (.loop (.ah k235_2 .skip)))) (.ah k235_3 .skip)))
def f235:AF:=.mk x235 [.t .h0 .h4,.t .h0 .h5]
def k236_3:KF:=K4 y0 y1 y5 y67 fun c i x h a b d e=>
 I e (.ret (T3 (.bool false)) h) (.nm (T27 a b d) h)
def k236_4:KF:=K3 y0 y1 y5 fun c i x h a b d=>
 D d i1 h fun e h=>
 .nm (T27 a b e) h
def k236_2:KF:=K3 y0 y1 y5 fun c i x h a b d=>
 G a h fun e h=>
 Y d e h fun f h=>
 I f (x (T27 a b d) h) (.ex 0 T28 h)
def k236_1:KF:=K2 y0 y1 fun c i x h a b=>
 x (T27 a b i0) h
def k236_5:KF:=fun c i x r h=>
 .ret (T3 (.bool true)) h
def k236_0:KF:=K2 y0 y1 fun c i x h a b=>
 G a h fun d h=>
 G b h fun e h=>
 tR (cP d e h) fun f h=>
 I f (.ret (T3 (.bool false)) h) (x (T16 a b) h)
def x236:AC:=(.ah k236_0 (.seq (.ah k236_1 (.block 0 (.loop (.ah k236_2 (.seq (.block 1 (.seq (.ops [m d17 r0,
 m d18 r5,
 o d19 (.cn 4 r17 r18),
 of d20 0 r19,
 ol d21 r20,
 m d22 r1,
 m d23 r5,
 o d24 (.cn 4 r22 r23),
 of d25 0 r24,
 ol d26 r25,
 o d27 (.bin .ne r21 r26),
 m d28 r27,
 .g .h1 .hc false d29 (.op (.mv r0)),
 .g .h1 .hc false d30 (.op (.mv r5)),
 .g .h1 .hc false d31 (.op (.cn 4 r29 r30)),
 .g .h1 .hc false d32 (.op (.cG 1 r31)),
 .g .h1 .hc false d33 (.op (.bZ r32)),
 .g .h1 .hc false d34 (.op (.mv r1)),
 .g .h1 .hc false d35 (.op (.mv r5)),
 .g .h1 .hc false d36 (.op (.cn 4 r34 r35)),
 .g .h1 .hc false d37 (.op (.cG 1 r36)),
 .g .h1 .hc false d38 (.op (.bZ r37)),
 .g .h1 .hc false d39 (.op (.bin .KX r33 r38)),
 o d40 (.pick r28 (.c (.bool true)) r39),
 m d41 r40,
 .g .h2 .h9 false d42 (.op (.mv r0)),
 .g .h2 .h9 false d43 (.op (.mv r5)),
 .g .h2 .h9 false d44 (.op (.cn 4 r42 r43)),
 .g .h2 .h9 false d45 (.op (.cG 2 r44)),
 .g .h2 .h9 false d46 (.op (.bZ r45)),
 .g .h2 .h9 false d47 (.op (.mv r1)),
 .g .h2 .h9 false d48 (.op (.mv r5)),
 .g .h2 .h9 false d49 (.op (.cn 4 r47 r48)),
 .g .h2 .h9 false d50 (.op (.cG 2 r49)),
 .g .h2 .h9 false d51 (.op (.bZ r50)),
 .g .h2 .h9 false d52 (.op (.bin .ne r46 r51)),
 o d53 (.pick r41 (.c (.bool true)) r52),
 m d54 r53,
 .g .h3 .h6 false d55 (.op (.mv r0)),
 .g .h3 .h6 false d56 (.op (.mv r5)),
 .g .h3 .h6 false d57 (.op (.cn 4 r55 r56)),
 .g .h3 .h6 false d58 (.op (.cG 3 r57)),
 .g .h3 .h6 false d59 (.op (.bZ r58)),
 .g .h3 .h6 false d60 (.op (.mv r1)),
 .g .h3 .h6 false d61 (.op (.mv r5)),
 .g .h3 .h6 false d62 (.op (.cn 4 r60 r61)),
 .g .h3 .h6 false d63 (.op (.cG 3 r62)),
 .g .h3 .h6 false d64 (.op (.bZ r63)),
 .g .h3 .h6 false d65 (.call 236 [r59,r64]),
 .g .h3 .h6 false d66 (.op (.un .not r65)),
 o d67 (.pick r54 (.c (.bool true)) r66)]) (.ah k236_3 .skip))) (.ah k236_4 .skip)))))) (.ah k236_5 .skip)))
def f236:AF:=.mk x236 [.t .h0 .h4]
def k237_2:KF:=K3 y0 y1 y5 fun c i x h a b d=>
 G a h fun e h=>
 Y d e h fun f h=>
 I f (X 1 a d h fun g h=>
 L g h fun j h=>
 X 1 b d h fun k h=>
 L k h fun l h=>
 tR (yD j l h) fun m h=>
 I m (.ret (T3 (.bool false)) h) (D d i1 h fun n h=>
 .nm (T27 a b n) h)) (.ex 0 (T27 a b d) h)
def k237_1:KF:=K2 y0 y1 fun c i x h a b=>
 x (T27 a b i0) h
def k237_3:KF:=fun c i x r h=>
 .ret (T3 (.bool true)) h
def k237_0:KF:=K2 y0 y1 fun c i x h a b=>
 G a h fun d h=>
 G b h fun e h=>
 tR (cP d e h) fun f h=>
 I f (.ret (T3 (.bool false)) h) (x (T16 a b) h)
def x237:AC:=(.ah k237_0 (.seq (.ah k237_1 (.block 0 (.loop (.ah k237_2 .skip)))) (.ah k237_3 .skip)))
def f237:AF:=.mk x237 [.t .h0 .h4]
def k238_6:KF:=K4 y1 y2 y8 y9 fun c i x h a b d e=>
 D e i1 h fun f h=>
 .nm (T383 a b d f) h
def k238_5:KF:=K4 y1 y2 y8 y9 fun c i x h a b d e=>
 A 3 b h fun f h=>
 L f h fun g h=>
 X 4 g e h fun j h=>
 M 4 j h fun k h=>
 C c 238 [k,a] h fun l h=>
 E 0 l h fun m h=>
 E 1 l h fun n h=>
 tR (cP n i0 h) fun o h=>
 I o (.ret (T5 i0 n) h) (tR (bs 3 1 1 [i0] [.mk 0 1 (.c m)] h) fun p h=>
 tR (cX 3 1 d p h) fun q h=>
 x (T383 a b q e) h)
def k238_4:KF:=K4 y1 y2 y8 y9 fun c i x h a b d e=>
 A 3 b h fun f h=>
 L f h fun g h=>
 G g h fun j h=>
 Y e j h fun k h=>
 I k (x (T383 a b d e) h) (.ex 1 (T376 b d) h)
def k238_3:KF:=K3 y1 y2 y8 fun c i x h a b d=>
 x (T383 a b d i0) h
def k238_10:KF:=K2 y8 y13 fun c i x h a b=>
 X 1 a i0 h fun d h=>
 L d h fun e h=>
 X 1 a i1 h fun f h=>
 L f h fun g h=>
 Q e g h fun j h=>
 .nm (T387 j b) h
def k238_12:KF:=K1 y12 fun c i x h a=>
 .nm (T387 a (pi 2)) h
def k238_14:KF:=K2 y8 y13 fun c i x h a b=>
 X 1 a i0 h fun d h=>
 L d h fun e h=>
 Q e (pi 2) h fun f h=>
 .nm (T387 f b) h
def k238_16:KF:=K2 y8 y12 fun c i x h a b=>
 X 1 a i1 h fun d h=>
 L d h fun e h=>
 .nm (T387 b e) h
def k238_19:KF:=K4 y8 y12 y13 y14 fun c i x h a b d e=>
 D e i1 h fun f h=>
 .nm (T391 a b d f) h
def k238_18:KF:=K4 y8 y12 y13 y14 fun c i x h a b d e=>
 G a h fun f h=>
 Y e f h fun g h=>
 I g (x (T391 a b d e) h) (.ex 4 (T387 b d) h)
def k238_17:KF:=K3 y8 y12 y13 fun c i x h a b d=>
 x (T391 a b d i0) h
def k238_15:KF:=K4 y8 y12 y13 y62 fun c i x h a b d e=>
 tR (aW e (.str [105,102]) h) fun f h=>
 x (T390 a b d f) h
def k238_13:KF:=K4 y8 y12 y13 y62 fun c i x h a b d e=>
 tR (aW e (.str [108,101,110]) h) fun f h=>
 x (T389 a b d e f) h
def k238_11:KF:=K4 y8 y12 y13 y62 fun c i x h a b d e=>
 tR (aW e (.str [99,97,116]) h) fun f h=>
 x (T388 a b d e f) h
def k238_9:KF:=K4 y8 y12 y13 y62 fun c i x h a b d e=>
 tR (aW e (.str [101,113]) h) fun f h=>
 I f (x (T386 a b d e f) h) (tR (aW e (.str [108,116]) h) fun g h=>
 x (T386 a b d e g) h)
def k238_8:KF:=K4 y2 y8 y12 y13 fun c i x h a b d e=>
 A 1 a h fun f h=>
 L f h fun g h=>
 x (T385 b d e g) h
def k238_20:KF:=K2 y12 y13 fun c i x h a b=>
 tR (bG a h) fun d h=>
 I d (.ret (T5 i0 (pi 22)) h) (.ret (T5 b i0) h)
def k238_7:KF:=K2 y2 y8 fun c i x h a b=>
 x (T384 a b (.bool true) i1) h
def k238_2:KF:=K2 y1 y2 fun c i x h a b=>
 x (T374 a b .ai) h
def k238_1:KF:=K2 y1 y2 fun c i x h a b=>
 A 0 b h fun d h=>
 L d h fun e h=>
 Q e i1 h fun f h=>
 I f (A 1 b h fun g h=>
 L g h fun j h=>
 C c 235 [a,j] h fun k h=>
 E 0 k h fun l h=>
 E 1 k h fun m h=>
 tR (bG m h) fun n h=>
 I n (.ret (T5 i0 (pi 20)) h) (X 2 a l h fun o h=>
 A 1 o h fun p h=>
 L p h fun q h=>
 .ret (T5 q i0) h)) (Q e (pi 2) h fun g h=>
 I g (.ret (T5 i1 i0) h) (Q e (pi 3) h fun j h=>
 I j (.ret (T5 (pi 2) i0) h) (x (T6 a b) h)))
def k238_0:KF:=K2 y0 y1 fun c i x h a b=>
 B 202 a h fun d h=>
 x (T6 b d) h
def x238:AC:=(.ah k238_0 (.ah k238_1 (.ah k238_2 (.seq (.ah k238_3 (.block 1 (.loop (.ah k238_4 (.ah k238_5 (.ah k238_6 .skip)))))) (.ah k238_7 (.seq (.ah k238_8 (.block 3 (.ah k238_9 (.cond r77 (.ah k238_10 .skip) (.ah k238_11 (.cond r87 (.seq (.ops [m d89 r8,
 o d90 (.cn 1 r89 a0),
 ol d91 r90,
 o d92 (.bin .eq r91 a2),
 m d93 r92,
 .g .h5 .hd true d94 (.op (.mv r8)),
 .g .h5 .hd true d95 (.op (.cn 1 r94 a1)),
 .g .h5 .hd true d96 (.op (.bZ r95)),
 .g .h5 .hd true d97 (.op (.bin .eq r96 a2)),
 o d98 (.pick r93 r97 (.c (.bool false))),
 m d12 r98]) (.ah k238_12 .skip)) (.ah k238_13 (.cond r99 (.ah k238_14 .skip) (.ah k238_15 (.cond r105 (.seq (.ops [m d107 r8,
 o d108 (.cn 1 r107 a0),
 ol d109 r108,
 o d110 (.bin .eq r109 a1),
 m d111 r110,
 .g .h6 .hf true d112 (.op (.mv r8)),
 .g .h6 .hf true d113 (.op (.cn 1 r112 a1)),
 .g .h6 .hf true d114 (.op (.bZ r113)),
 .g .h6 .hf true d115 (.op (.mv r8)),
 .g .h6 .hf true d116 (.op (.cn 1 r115 a2)),
 .g .h6 .hf true d117 (.op (.bZ r116)),
 .g .h6 .hf true d118 (.op (.bin .eq r114 r117)),
 o d119 (.pick r111 r118 (.c (.bool false))),
 m d12 r119]) (.ah k238_16 .skip)) (.ah k238_17 (.block 4 (.loop (.ah k238_18 (.seq (.block 5 (.ops [m d69 r12,
 m d70 r69,
 .g .h4 .h6 true d71 (.op (.mv r8)),
 .g .h4 .h6 true d72 (.op (.mv r14)),
 .g .h4 .h6 true d73 (.op (.cn 1 r71 r72)),
 .g .h4 .h6 true d74 (.op (.bZ r73)),
 .g .h4 .h6 true d75 (.op (.bin .eq r74 a1)),
 o d76 (.pick r70 r75 (.c (.bool false))),
 m d12 r76])) (.ah k238_19 .skip)))))))))))))))) (.ah k238_20 .skip)))))))
def f238:AF:=.mk x238 [.t .h0 .h4,.t .h0 .h5]
def k239_2:KF:=K3 y0 y1 y5 fun c i x h a b d=>
 G a h fun e h=>
 Y d e h fun f h=>
 I f (X 1 a d h fun g h=>
 L g h fun j h=>
 tR (aW j b h) fun k h=>
 I k (.ret (T3 (.bool true)) h) (D d i1 h fun l h=>
 .nm (T27 a b l) h)) (.ex 0 (T27 a b d) h)
def k239_1:KF:=K2 y0 y1 fun c i x h a b=>
 x (T27 a b i0) h
def k239_3:KF:=fun c i x r h=>
 .ret (T3 (.bool false)) h
def k239_0:KF:=K2 y0 y1 fun c i x h a b=>
 x (T16 a b) h
def x239:AC:=(.ah k239_0 (.seq (.ah k239_1 (.block 0 (.loop (.ah k239_2 .skip)))) (.ah k239_3 .skip)))
def f239:AF:=.mk x239 [.t .h0 .h4]
def k240_0:KF:=K2 y0 y1 fun c i x h a b=>
 C c 301 [a,b] h fun d h=>
 tR (nN d i0 h) fun e h=>
 .ret (T3 e) h
def x240:AC:=(.ah k240_0 .skip)
def f240:AF:=.mk x240 [.t .h0 .h4]
def k241_0:KF:=K1 y0 fun c i x h a=>
 B 34 a h fun b h=>
 M 3 b h fun d h=>
 C c 154 [d] h fun e h=>
 tR (bG e h) fun f h=>
 .ret (T2 f) h
def x241:AC:=(.ah k241_0 .skip)
def f241:AF:=.mk x241 [.t .h0 .h2]
def k242_0:KF:=K1 y0 fun c i x h a=>
 x (T4 a) h
def x242:AC:=(.ah k242_0 (.seq (.ops [m d3 r0,
 o d4 (.bin (.Gb .geq) r3 (.c (.fi .f64 0))),
 m d5 r4,
 .g .h0 .h5 true d6 (.op (.mv r0)),
 .g .h0 .h5 true d7 (.op (.bin (.Gb .leq) r6 (.c (.fi .f64 4832362400168542208)))),
 o d8 (.pick r5 r7 (.c (.bool false))),
 m d9 r8,
 .g .h0 .h9 true d10 (.op (.mv r0)),
 .g .h0 .h9 true d11 (.op (.mv r0)),
 .g .h0 .h9 true d12 (.call 302 [r11]),
 .g .h0 .h9 true d13 (.op (.bin (.Gb .eql) r10 r12)),
 o d14 (.pick r9 r13 (.c (.bool false))),
 m d2 r14]) .ret))
def f242:AF:=.mk x242 [.t .h0 .h2]
def k243_0:KF:=K1 y0 fun c i x h a=>
 tR (Dh false [a,i0] h) fun b h=>
 tR (yE a h) fun d h=>
 tR (Dh false [d,i0] h) fun e h=>
 C c 171 [b,e] h fun f h=>
 .ret (T2 f) h
def x243:AC:=(.ah k243_0 .skip)
def f243:AF:=.mk x243 [.t .h0 .h2]
def k244_0:KF:=K2 y0 y1 fun c i x h a b=>
 C c 303 [a,b,(.fn 304 [])] h fun d h=>
 .ret (T3 d) h
def x244:AC:=(.ah k244_0 .skip)
def f244:AF:=.mk x244 [.t .h0 .h4]
def k245_0:KF:=K1 y0 fun c i x h a=>
 tR (bK (.ku .s) a .ai h) fun b h=>
 I b (.ret (T2 .ai) h) (tR (bs 27 2 0 [] [] h) fun d h=>
 tR (cX 27 2 d a h) fun e h=>
 .ret (T2 e) h)
def x245:AC:=(.ah k245_0 .skip)
def f245:AF:=.mk x245 [.t .h0 .h2]
def k246_0:KF:=K2 y0 y1 fun c i x h a b=>
 G a h fun d h=>
 C c 306 [a,d,b] h fun e h=>
 .nm T28 h
def x246:AC:=(.ah k246_0 .skip)
def f246:AF:=.mk x246 []
def k247_0:KF:=K2 y0 y1 fun c i x h a b=>
 B 27 a h fun d h=>
 B 27 b h fun e h=>
 A 0 d h fun f h=>
 L f h fun g h=>
 A 0 e h fun j h=>
 L j h fun k h=>
 C c 244 [g,k] h fun l h=>
 .ret (T3 l) h
def x247:AC:=(.ah k247_0 .skip)
def f247:AF:=.mk x247 [.t .h0 .h4]
def k248_0:KF:=K2 y0 y1 fun c i x h a b=>
 x (T16 a b) h
def x248:AC:=(.ah k248_0 (.seq (.ops [m d5 r0,
 oc d6 149 [r5],
 m d7 r6,
 .g .h0 .h7 true d8 (.op (.mv r1)),
 .g .h0 .h7 true d9 (.call 149 [r8]),
 o d10 (.pick r7 r9 (.c (.bool false))),
 m d11 r10,
 .g .h0 .hb true d12 (.op (.mv r0)),
 .g .h0 .hb true d13 (.op (.mv r1)),
 .g .h0 .hb true d14 (.call 244 [r12,r13]),
 .g .h0 .hb true d15 (.op (.bin .eq r14 a0)),
 o d16 (.pick r11 r15 (.c (.bool false))),
 m d4 r16]) .ret))
def f248:AF:=.mk x248 [.t .h0 .h4]
def k249_0:KF:=K2 y0 y1 fun c i x h a b=>
 C c 158 [a] h fun d h=>
 C c 158 [b] h fun e h=>
 D d e h fun f h=>
 C c 150 [a] h fun g h=>
 gD g true (fun j=>j b h) h fun j h=>
 gD g true (fun k=>C c 150 [j] h fun l h=>
 k l h) h fun k h=>
 tR (dm (.c g) (.c k) (.c (.bool false)) .nil h) fun l h=>
 C c 255 [f,l] h fun m h=>
 E 0 m h fun n h=>
 E 1 m h fun o h=>
 .ret (T5 n o) h
def x249:AC:=(.ah k249_0 .skip)
def f249:AF:=.mk x249 [.t .h0 .h4,.t .h0 .h5]
def k250_1:KF:=K2 y0 y1 fun c i x h a b=>
 Y b i0 h fun d h=>
 x (T17 a b d) h
def k250_3:KF:=K1 y0 fun c i x h a=>
 .ret (T3 a) h
def k250_2:KF:=K2 y0 y1 fun c i x h a b=>
 tR (pV (.c a) .nil h) fun d h=>
 G a h fun e h=>
 Z d e h fun f h=>
 Z b f h fun g h=>
 tR (mE g i0 h) fun j h=>
 I j (tR (pV (.c a) .nil h) fun k h=>
 tR (eo 2 (.c a) .none (.some (.c k)) .none .nil h) fun l h=>
 tR (mF 27 2 [.ai,(.aj .f64 0 0)] (.c l) (.c g) .nil h) fun m h=>
 G a h fun n h=>
 tR (eo 2 (.c m) .none (.some (.c n)) .none .nil h) fun o h=>
 x (T4 o) h) (x (T4 a) h)
def k250_0:KF:=K2 y0 y1 fun c i x h a b=>
 x (T16 a b) h
def x250:AC:=(.ah k250_0 (.seq (.ah k250_1 (.cond r6 (.ops [o d7 (.QW 9 (.c (.str [99,97,110,110,111,116,32,98,101,32,110,101,103,97,116,105,118,101]))),
 o .no (.bad 400)]) .skip)) (.ah k250_2 (.ah k250_3 .skip))))
def f250:AF:=.mk x250 [.t .h0 .h4]
def k251_0:KF:=K1 y0 fun c i x h a=>
 C c 150 [a] h fun b h=>
 tR (bG b h) fun d h=>
 I d (.ret (T48 i0 i0 (.bool false)) h) (tR (fD false (.c a) .nil h) fun e h=>
 tR (cK (.Vm .i64) e h) fun f h=>
 tR (fD true (.c a) .nil h) fun g h=>
 tR (cK (.Vm .i64) g h) fun j h=>
 .ret (T48 f j (.bool true)) h)
def x251:AC:=(.ah k251_0 .skip)
def f251:AF:=.mk x251 [.t .h0 .h2,.t .h0 .h3,.t .h0 .h4]
def x253:AC:=b253
def f253:AF:=.mk x253 [.agg 3 .h0 .h6,.t .h0 .h7]
def x254:AC:=b254
def f254:AF:=.mk x254 [.t .h0 .h4,.t .h0 .h5]
def k255_1:KF:=K2 y0 y16 fun c i x h a b=>
 I b (.ret (T5 (.aj .f64 0 0) (.bool false)) h) (.nm (T4 a) h)
def k255_2:KF:=K1 y0 fun c i x h a=>
 C c 243 [a] h fun b h=>
 .ret (T5 b (.bool true)) h
def k255_0:KF:=K2 y0 y1 fun c i x h a b=>
 x (T16 a b) h
def x255:AC:=(.ah k255_0 (.seq (.seq (.ops [m d6 r1,
 o d7 (.un .not r6),
 m d8 r7,
 .g .h0 .h8 false d9 (.op (.mv r0)),
 .g .h0 .h8 false d10 (.op (.bin .gt r9 (.c (pi 1125899906842624)))),
 o d11 (.pick r8 (.c (.bool true)) r10),
 m d12 r11,
 .g .h0 .hc false d13 (.op (.mv r0)),
 .g .h0 .hc false d14 (.op (.un .neg r13)),
 .g .h0 .hc false d15 (.op (.bin .gt r14 (.c (pi 1125899906842624)))),
 o d16 (.pick r12 (.c (.bool true)) r15)]) (.ah k255_1 .skip)) (.ah k255_2 .skip)))
def f255:AF:=.mk x255 [.t .h0 .h4,.t .h0 .h5]
def x256:AC:=b256
def f256:AF:=.mk x256 [.t .h0 .h4]
def x257:AC:=b257
def f257:AF:=.mk x257 [.t .h0 .h2]
def x258:AC:=b258
def f258:AF:=.mk x258 [.t .h0 .h4,.t .h0 .h5]
def x259:AC:=b259
def f259:AF:=.mk x259 [.t .h0 .h4,.t .h0 .h5]
def x260:AC:=b260
def f260:AF:=.mk x260 [.t .h0 .h2]
def k261_2:KF:=K5 y1 y5 y6 y18 y20 fun c i x h a b d e f=>
 I f (tR (kG (.c e) .nil h) fun g h=>
 E 0 g h fun j h=>
 E 1 g h fun k h=>
 O 248 3 (.k1 (Y3 .ai .ai .ai)) h fun l h=>
 S 3 l k h fun m h=>
 tR (wg (.one .s) (.agg [.ai,.ai,.ai]) true a j h) fun n h=>
 E 0 n h fun o h=>
 E 1 n h fun p h=>
 O 248 3 (.k1 (Y3 .ai .ai .ai)) h fun q h=>
 S 3 q o h fun s h=>
 tR (bG p h) fun t h=>
 I t (A 1 l h fun v h=>
 L v h fun w h=>
 tT (cd c d [w] h) fun y h=>
 .nm (T403 a b d e) h) (.nm (T403 a b d e) h)) (.ex 0 (T403 a b d e) h)
def k261_1:KF:=K4 y0 y1 y5 y6 fun c i x h a b d e=>
 J a h fun f h=>
 A 2 f h fun g h=>
 L g h fun j h=>
 tR (gF (.c j) .nil h) fun k h=>
 x (T403 b d e k) h
def k261_4:KF:=K4 y5 y6 y37 y39 fun c i x h a b d e=>
 I e (tR (kG (.c d) .nil h) fun f h=>
 E 1 f h fun g h=>
 O 248 3 (.k1 (Y3 .ai .ai .ai)) h fun j h=>
 S 3 j g h fun k h=>
 A 1 j h fun l h=>
 L l h fun m h=>
 tT (cd c b [m] h) fun n h=>
 .nm (T404 a b d) h) (.ex 2 (T404 a b d) h)
def k261_3:KF:=K3 y1 y5 y6 fun c i x h a b d=>
 tR (gF (.c a) .nil h) fun e h=>
 x (T404 b d e) h
def k261_5:KF:=K1 y5 fun c i x h a=>
 L a h fun b h=>
 tR (mE b (pi 512) h) fun d h=>
 .ret (T3 d) h
def k261_0:KF:=K2 y0 y1 fun c i x h a b=>
 O 2 1 (.k1 (Y1 i0)) h fun d h=>
 W d i0 h fun e h=>
 x (T70 a b d (.fn 310 [d])) h
def x261:AC:=(.ah k261_0 (.seq (.ah k261_1 (.join (.block 0 (.loop (.seq (.ops [.o d19 (.uM false r18),
 oe d20 0 r19]) (.ah k261_2 .skip)))))) (.seq (.ah k261_3 (.join (.block 2 (.loop (.seq (.ops [.o d38 (.uM false r37),
 oe d39 0 r38]) (.ah k261_4 .skip)))))) (.ah k261_5 .skip))))
def f261:AF:=.mk x261 [.t .h0 .h4]
def k262_0:KF:=K1 y0 fun c i x h a=>
 C c 311 [a] h fun b h=>
 C c 61 [b] h fun d h=>
 .ret (T2 b) h
def x262:AC:=(.ah k262_0 .skip)
def f262:AF:=.Ek x262 [.t .h0 .h2]
def k263_0:KF:=K1 y0 fun c i x h a=>
 B 215 a h fun b h=>
 .ret (T2 (.fn 312 [b])) h
def x263:AC:=(.ah k263_0 .skip)
def f263:AF:=.mk x263 [.t .h0 .h2]
def x264:AC:=b264
def f264:AF:=.mk x264 [.t .h0 .h6,.t .h0 .h7]
def k265_1:KF:=K1 y0 fun c i x h a=>
 Y a i0 h fun b h=>
 I b (tR (yE a h) fun d h=>
 C c 184 [i0,d] h fun e h=>
 .ret (T73 e (.bool true)) h) (C c 184 [a,i0] h fun d h=>
 .ret (T73 d (.bool true)) h)
def k265_0:KF:=K1 y0 fun c i x h a=>
 tR (mE a (pi 1125899906842624) h) fun b h=>
 gD b false (fun d=>d a h) h fun d h=>
 gD b false (fun e=>Y d (ni 1125899906842623) h fun f h=>
 e f h) h fun e h=>
 tR (dm (.c b) (.c (.bool true)) (.c e) .nil h) fun f h=>
 I f (.ret (T73 (.aj .f64 0 0) (.bool false)) h) (x (T4 a) h)
def x265:AC:=(.ah k265_0 (.ah k265_1 .skip))
def f265:AF:=.mk x265 [.t .h0 .h2,.t .h0 .h3]
def k266_1:KF:=K5 y1 y2 y3 y6 y23 fun c i x h a b d e f=>
 I f (U [i0,i0,iS] [] h fun g h=>
 S 3 e g h fun j h=>
 .ret (T29 e (pi 22)) h) (.nm (T302 a b d e) h)
def k266_2:KF:=K4 y1 y2 y3 y6 fun c i x h a b d e=>
 M 4 d h fun f h=>
 C c 314 [f,a,b] h fun g h=>
 E 0 g h fun j h=>
 E 1 g h fun k h=>
 S 3 e j h fun l h=>
 .ret (T29 e k) h
def k266_0:KF:=K3 y0 y1 y2 fun c i x h a b d=>
 B 202 a h fun e h=>
 O 34 3 (.k1 (Y3 i0 i0 iS)) h fun f h=>
 M 4 e h fun g h=>
 C c 145 [g,b] h fun j h=>
 E 0 j h fun k h=>
 E 1 j h fun l h=>
 x (T406 b d e f l) h
def x266:AC:=(.ah k266_0 (.seq (.seq (.ops [m d16 r9,
 o d17 (.bin .ne r16 a0),
 m d18 r17,
 .g .h1 .h2 false d19 (.op (.mv r1)),
 .g .h1 .h2 false d20 (.op (.mv r2)),
 .g .h1 .h2 false d21 (.call 37 [r19,r20]),
 .g .h1 .h2 false d22 (.op (.un .not r21)),
 o d23 (.pick r18 (.c (.bool true)) r22)]) (.ah k266_1 .skip)) (.ah k266_2 .skip)))
def f266:AF:=.mk x266 [.agg 3 .h0 .h6,.t .h0 .h7]
def x267:AC:=b267
def f267:AF:=.mk x267 [.t .h0 .h4]
def x268:AC:=b268
def f268:AF:=.mk x268 [.t .h0 .h4,.t .h0 .h5]
def k269_2:KF:=K4 y0 y1 y5 y6 fun c i x h a b d e=>
 G b h fun f h=>
 Y e f h fun g h=>
 I g (X 1 b e h fun j h=>
 L j h fun k h=>
 X 3 a k h fun l h=>
 M 3 l h fun m h=>
 tR (bs 34 3 1 [i0,i0,iS] [.mk 0 3 (.c m)] h) fun n h=>
 tR (cX 34 3 d n h) fun o h=>
 D e i1 h fun p h=>
 .nm (T70 a b o p) h) (.ex 0 (T70 a b d e) h)
def k269_1:KF:=K3 y0 y1 y5 fun c i x h a b d=>
 x (T70 a b d i0) h
def k269_3:KF:=K1 y5 fun c i x h a=>
 .ret (T3 a) h
def k269_0:KF:=K2 y0 y1 fun c i x h a b=>
 x (T27 a b .ai) h
def x269:AC:=(.ah k269_0 (.seq (.ah k269_1 (.block 0 (.loop (.ah k269_2 .skip)))) (.ah k269_3 .skip)))
def f269:AF:=.mk x269 [.t .h0 .h4]
def k270_0:KF:=K2 y0 y1 fun c i x h a b=>
 x (T16 a b) h
def x270:AC:=(.ah k270_0 (.seq (.ops [m d5 r0,
 o d6 (.len r5),
 o d7 (.bin .gt r6 a0),
 m d8 r7,
 .g .h0 .h8 true d9 (.op (.mv r0)),
 .g .h0 .h8 true d10 (.op (.mv r1)),
 .g .h0 .h8 true d11 (.call 89 [r9,r10]),
 o d12 (.pick r8 r11 (.c (.bool false))),
 m d4 r12]) .ret))
def f270:AF:=.mk x270 [.t .h0 .h4]
def k271_4:KF:=K12 y0 y1 y3 y6 y8 y10 y11 y12 y13 y14 y15 y41 fun c i x h a b d e f g j k l m n o=>
 I o (.ex 1 (T408 a b d e f g j k l m n) h) (.nm (T408 a b d e f g j k l m n) h)
def k271_6:KF:=K15 y0 y1 y3 y6 y8 y10 y11 y12 y13 y14 y15 y17 y18 y19 y70 fun c i x h a b d e f g j k l m n o p q s=>
 I s (M 3 q h fun t h=>
 S 3 l t h fun v h=>
 .nm (T412 a b d e f g j k l m n o p q) h) (.nm (T412 a b d e f g j k l m n o p q) h)
def k271_7:KF:=K14 y0 y1 y3 y6 y8 y10 y11 y12 y13 y14 y15 y17 y19 y77 fun c i x h a b d e f g j k l m n o p q=>
 I q (M 3 p h fun s h=>
 S 3 m s h fun t h=>
 .nm (T413 a b d e f g j k l m n o p) h) (.nm (T413 a b d e f g j k l m n o p) h)
def k271_9:KF:=K15 y0 y1 y3 y6 y8 y10 y11 y12 y13 y14 y15 y17 y19 y20 y86 fun c i x h a b d e f g j k l m n o p q s=>
 I s (.nm (T414 a b d e f g j k l m n o p q) h) (.ex 2 (T414 a b d e f g j k l m n o p q) h)
def k271_11:KF:=K14 y0 y1 y3 y6 y8 y10 y11 y12 y13 y14 y15 y17 y19 y20 fun c i x h a b d e f g j k l m n o p q=>
 D q i1 h fun s h=>
 .nm (T414 a b d e f g j k l m n o p s) h
def k271_10:KF:=K14 y0 y1 y3 y6 y8 y10 y11 y12 y13 y14 y15 y17 y19 y20 fun c i x h a b d e f g j k l m n o p q=>
 A 1 p h fun s h=>
 L s h fun t h=>
 tR (bK .shr t (.int .u64 (.ofNat 32)) h) fun v h=>
 D j v h fun w h=>
 A 1 p h fun y h=>
 L y h fun z h=>
 tR (pQ z (pi 4294967295) h) fun a0 h=>
 D k a0 h fun a1 h=>
 tR (bK .shr a1 (.int .u64 (.ofNat 32)) h) fun a2 h=>
 D w a2 h fun a3 h=>
 tR (pQ a1 (pi 4294967295) h) fun a4 h=>
 x (T414 a b d e f g a3 a4 l m n o p q) h
def k271_8:KF:=K13 y0 y1 y3 y6 y8 y10 y11 y12 y13 y14 y15 y17 y19 fun c i x h a b d e f g j k l m n o p=>
 x (T414 a b d e f g j k l m n o p i0) h
def k271_5:KF:=K11 y0 y1 y3 y6 y8 y10 y11 y12 y13 y14 y15 fun c i x h a b d e f g j k l m n=>
 X 2 d n h fun o h=>
 A 1 o h fun p h=>
 L p h fun q h=>
 C c 92 [q] h fun s h=>
 Q g i0 h fun t h=>
 D g s h fun v h=>
 A 0 e h fun w h=>
 L w h fun y h=>
 tR (aW y (.str [99,111,117,110,116]) h) fun z h=>
 I z (.ex 1 (T408 a b d e f v j k l m n) h) (x (T411 a b d e f v j k l m n s t) h)
def k271_3:KF:=K11 y0 y1 y3 y6 y8 y10 y11 y12 y13 y14 y15 fun c i x h a b d e f g j k l m n=>
 X 2 d n h fun o h=>
 A 0 o h fun p h=>
 L p h fun q h=>
 C c 269 [q,a] h fun s h=>
 x (T410 a b d e f g j k l m n s) h
def k271_12:KF:=K11 y0 y1 y3 y6 y8 y10 y11 y12 y13 y14 y15 fun c i x h a b d e f g j k l m n=>
 D n i1 h fun o h=>
 .nm (T408 a b d e f g j k l m o) h
def k271_2:KF:=K11 y0 y1 y3 y6 y8 y10 y11 y12 y13 y14 y15 fun c i x h a b d e f g j k l m n=>
 G d h fun o h=>
 Y n o h fun p h=>
 I p (x (T408 a b d e f g j k l m n) h) (.ex 0 (T409 e f g j k l m) h)
def k271_1:KF:=K10 y0 y1 y3 y6 y8 y10 y11 y12 y13 y14 fun c i x h a b d e f g j k l m=>
 x (T408 a b d e f g j k l m i0) h
def k271_15:KF:=K3 y8 y11 y12 fun c i x h a b d=>
 tR (bK .shl b (.int .u64 (.ofNat 32)) h) fun e h=>
 tR (Rq e d h) fun f h=>
 U [i0,i0,iS] [.mk 0 1 (.c i1),.mk 1 1 (.c f)] h fun g h=>
 S 3 a g h fun j h=>
 .ret (T415 a (.bool true)) h
def k271_14:KF:=K3 y8 y11 y12 fun c i x h a b d=>
 Y b (ni 2147483647) h fun e h=>
 gD e false (fun f=>f b h) h fun f h=>
 gD e false (fun g=>tR (mE f (pi 2147483647) h) fun j h=>
 g j h) h fun g h=>
 tR (dm (.c e) (.c (.bool true)) (.c g) .nil h) fun j h=>
 I j (U [i0,i0,iS] [] h fun k h=>
 S 3 a k h fun l h=>
 .ret (T415 a (.bool false)) h) (x (T416 a b d) h)
def k271_13:KF:=K7 y6 y8 y10 y11 y12 y13 y14 fun c i x h a b d e f g j=>
 A 0 a h fun k h=>
 L k h fun l h=>
 tR (aW l (.str [109,105,110]) h) fun m h=>
 I m (M 3 g h fun n h=>
 S 3 b n h fun o h=>
 .ret (T415 b (.bool true)) h) (tR (aW l (.str [109,97,120]) h) fun n h=>
 I n (M 3 j h fun o h=>
 S 3 b o h fun p h=>
 .ret (T415 b (.bool true)) h) (tR (aW l (.str [99,111,117,110,116]) h) fun o h=>
 I o (U [i0,i0,iS] [.mk 0 1 (.c i1),.mk 1 1 (.c d)] h fun p h=>
 S 3 b p h fun q h=>
 .ret (T415 b (.bool true)) h) (x (T416 b e f) h)))
def k271_0:KF:=K4 y0 y1 y2 y3 fun c i x h a b d e=>
 B 360 d h fun f h=>
 O 34 3 (.k1 (Y3 i0 i0 iS)) h fun g h=>
 O 34 3 (.k1 (Y3 i0 i0 iS)) h fun j h=>
 O 34 3 (.k1 (Y3 i0 i0 iS)) h fun k h=>
 x (T407 a b e f g i0 i0 i0 j k) h
def x271:AC:=(.ah k271_0 (.seq (.ah k271_1 (.block 0 (.loop (.ah k271_2 (.seq (.block 1 (.ah k271_3 (.seq (.seq (.ops [m d34 r16,
 m d35 r1,
 oc d36 270 [r34,r35],
 m d37 r36,
 .g .h2 .h5 false d38 (.op (.mv r1)),
 .g .h2 .h5 false d39 (.op (.mv r16)),
 .g .h2 .h5 false d40 (.call 270 [r38,r39]),
 o d41 (.pick r37 (.c (.bool true)) r40)]) (.ah k271_4 .skip)) (.ah k271_5 (.seq (.iB [w (o d19 (.alloc 34 3 (.k1 (Y3 i0 i0 iS)))),
 q 1 (m d56 r3),
 q 1 (m d57 r15),
 q 1 (o d58 (.cn 2 r56 r57)),
 qf 1 d59 0 r58,
 ql 1 d60 r59,
 qf 1 d61 1 r6,
 ql 1 d62 r61,
 q 1 (o d63 (.cn 3 r60 r62)),
 q 1 (o d64 (.jO 3 r63)),
 w (o .no (.uK 3 r19 r64))]) (.seq (.seq (.ops [m d65 r18,
 m d66 r65,
 .g .h4 .h2 false d67 (.op (.jO 3 r19)),
 .g .h4 .h2 false d68 (.op (.jO 3 r13)),
 .g .h4 .h2 false d69 (.call 174 [r67,r68]),
 o d70 (.pick r66 (.c (.bool true)) r69)]) (.ah k271_6 .skip)) (.seq (.seq (.ops [m d72 r18,
 m d73 r72,
 .g .h4 .h9 false d74 (.op (.jO 3 r14)),
 .g .h4 .h9 false d75 (.op (.jO 3 r19)),
 .g .h4 .h9 false d76 (.call 174 [r74,r75]),
 o d77 (.pick r73 (.c (.bool true)) r76)]) (.ah k271_7 .skip)) (.ah k271_8 (.block 2 (.loop (.seq (.seq (.ops [m d79 r20,
 m d80 r17,
 o d81 (.bin .lt r79 r80),
 m d82 r81,
 .g .h5 .h2 true d83 (.op (.cG 0 r6)),
 .g .h5 .h2 true d84 (.op (.bZ r83)),
 .g .h5 .h2 true d85 (.op (.bin .seq r84 (.c (.str [115,117,109])))),
 o d86 (.pick r82 r85 (.c (.bool false)))]) (.ah k271_9 .skip)) (.ah k271_10 (.ah k271_11 .skip))))))))))))) (.ah k271_12 .skip)))))) (.ah k271_13 (.ah k271_14 (.ah k271_15 .skip)))))
def f271:AF:=.mk x271 [.agg 3 .h0 .h8,.t .h0 .h9]
def x274:AC:=b274
def f274:AF:=.mk x274 []
def x275:AC:=b275
def f275:AF:=.mk x275 []
def x276:AC:=b276
def f276:AF:=.mk x276 []
def x277:AC:=b277
def f277:AF:=.mk x277 [.t .h0 .h4,.t .h0 .h5]
def x278:AC:=b278
def f278:AF:=.mk x278 [.t .h0 .h2]
def x279:AC:=b279
def f279:AF:=.mk x279 [.t .h0 .h4]
def x280:AC:=b280
def f280:AF:=.mk x280 [.agg 5 .h0 .h4,.t .h0 .h5,.t .h0 .h6,.t .h0 .h7]
def x281:AC:=b281
def f281:AF:=.Ek x281 []
def x282:AC:=b282
def f282:AF:=.mk x282 [.t .h0 .h2]
def x283:AC:=b283
def f283:AF:=.mk x283 [.t .h0 .h2]
def x284:AC:=b284
def f284:AF:=.mk x284 [.t .h0 .h4]
def x285:AC:=b285
def f285:AF:=.mk x285 [.agg 4 .h0 .h4]
def x286:AC:=b286
def f286:AF:=.mk x286 [.t .h0 .h4]
def x287:AC:=b287
def f287:AF:=.mk x287 [.agg 3 .h0 .h4]
def x288:AC:=b288
def f288:AF:=.mk x288 [.t .h0 .h2]
def x289:AC:=b289
def f289:AF:=.mk x289 [.t .h0 .h4]
def x290:AC:=b290
def f290:AF:=.mk x290 [.t .h0 .h2]
def x291:AC:=b291
def f291:AF:=.mk x291 [.t .h0 .h4]
def x292:AC:=b292
def f292:AF:=.mk x292 [.t .h0 .h4]
def x298:AC:=b298
def f298:AF:=.mk x298 [.t .h0 .h2]
def k301_2:KF:=K4 y0 y1 y7 y8 fun c i x h a b d e=>
 Y e d h fun f h=>
 I f (X 3 a e h fun g h=>
 M 3 g h fun j h=>
 tT (cd c b [j] h) fun k h=>
 I k (.ret (T3 e) h) (D e i1 h fun l h=>
 .nm (T85 a b d l) h)) (.ex 0 (T85 a b d e) h)
def k301_1:KF:=K2 y0 y1 fun c i x h a b=>
 G a h fun d h=>
 x (T85 a b d i0) h
def k301_3:KF:=fun c i x r h=>
 .ret (T3 (ni 0)) h
def k301_0:KF:=K2 y0 y1 fun c i x h a b=>
 x (T16 a b) h
def x301:AC:=(.ah k301_0 (.seq (.ah k301_1 (.block 0 (.loop (.ah k301_2 .skip)))) (.ah k301_3 .skip)))
def f301:AF:=.mk x301 [.t .h0 .h4]
def k302_0:KF:=K1 y0 fun c i x h a=>
 I (.bool true) (C c 340 [a] h fun b h=>
 .ret (T2 b) h) (C c 341 [a] h fun b h=>
 .ret (T2 b) h)
def x302:AC:=(.ah k302_0 .skip)
def f302:AF:=.mk x302 [.t .h0 .h2]
def k303_4:KF:=K6 y0 y1 y2 y11 y12 y13 fun c i x h a b d e f g=>
 D g i1 h fun j h=>
 .nm (T439 a b d e f j) h
def k303_3:KF:=K6 y0 y1 y2 y11 y12 y13 fun c i x h a b d e f g=>
 X 3 e g h fun j h=>
 M 3 j h fun k h=>
 O 34 3 (.k1 (Y3 i0 i0 iS)) h fun l h=>
 S 3 l k h fun m h=>
 G b h fun n h=>
 tR (nN g n h) fun o h=>
 I o (.ret (T91 i1) h) (X 3 b g h fun p h=>
 M 3 p h fun q h=>
 O 34 3 (.k1 (Y3 i0 i0 iS)) h fun s h=>
 S 3 s q h fun t h=>
 M 3 l h fun v h=>
 M 3 s h fun w h=>
 tT (cd c d [v,w] h) fun y h=>
 tR (cP y i0 h) fun z h=>
 I z (.ret (T91 y) h) (x (T439 a b d e f g) h))
def k303_2:KF:=K6 y0 y1 y2 y11 y12 y13 fun c i x h a b d e f g=>
 Y g f h fun j h=>
 I j (x (T439 a b d e f g) h) (.ex 0 (T16 a b) h)
def k303_1:KF:=K3 y0 y1 y2 fun c i x h a b d=>
 G a h fun e h=>
 x (T439 a b d a e i0) h
def k303_5:KF:=K2 y0 y1 fun c i x h a b=>
 G a h fun d h=>
 G b h fun e h=>
 Y d e h fun f h=>
 I f (.ret (T91 (ni 0)) h) (.ret (T91 i0) h)
def k303_0:KF:=K3 y0 y1 y2 fun c i x h a b d=>
 x (T366 a b d) h
def x303:AC:=(.ah k303_0 (.seq (.ah k303_1 (.block 0 (.loop (.ah k303_2 (.ah k303_3 (.ah k303_4 .skip)))))) (.ah k303_5 .skip)))
def f303:AF:=.mk x303 [.t .h0 .h6]
def k304_0:KF:=K2 y0 y1 fun c i x h a b=>
 B 34 a h fun d h=>
 B 34 b h fun e h=>
 M 3 d h fun f h=>
 M 3 e h fun g h=>
 C c 305 [f,g] h fun j h=>
 I j (.ret (T3 (ni 0)) h) (M 3 e h fun k h=>
 M 3 d h fun l h=>
 C c 305 [k,l] h fun m h=>
 I m (.ret (T3 i1) h) (.ret (T3 i0) h))
def x304:AC:=(.ah k304_0 .skip)
def f304:AF:=.mk x304 [.t .h0 .h4]
def k305_1:KF:=K3 y2 y3 y5 fun c i x h a b d=>
 I d (.ret (T3 (.bool false)) h) (A 0 a h fun e h=>
 L e h fun f h=>
 A 0 b h fun g h=>
 L g h fun j h=>
 tR (cP f j h) fun k h=>
 I k (A 0 a h fun l h=>
 L l h fun m h=>
 Q m i1 h fun n h=>
 .ret (T3 n) h) (A 0 a h fun l h=>
 L l h fun m h=>
 Q m i1 h fun n h=>
 I n (A 1 a h fun o h=>
 L o h fun p h=>
 A 1 b h fun q h=>
 L q h fun s h=>
 Y p s h fun t h=>
 .ret (T3 t) h) (.nm (T73 a b) h)))
def k305_2:KF:=K2 y2 y3 fun c i x h a b=>
 A 2 a h fun d h=>
 L d h fun e h=>
 A 2 b h fun f h=>
 L f h fun g h=>
 tR (BQ e g h) fun j h=>
 .ret (T3 j) h
def k305_0:KF:=K2 y0 y1 fun c i x h a b=>
 B 34 a h fun d h=>
 B 34 b h fun e h=>
 x (T73 d e) h
def x305:AC:=(.ah k305_0 (.seq (.block 0 (.seq (.ops [o d6 (.jO 3 r2),
 oc d7 154 [r6],
 o d8 (.un .not r7),
 m d9 r8,
 .g .h0 .h9 false d10 (.op (.jO 3 r3)),
 .g .h0 .h9 false d11 (.call 154 [r10]),
 .g .h0 .h9 false d12 (.op (.un .not r11)),
 o d13 (.pick r9 (.c (.bool true)) r12),
 m d5 r13]) (.ah k305_1 .skip))) (.ah k305_2 .skip)))
def f305:AF:=.mk x305 [.t .h0 .h4]
def k306_1:KF:=K6 y0 y1 y2 y6 y7 y8 fun c i x h a b d e f g=>
 tR (Ao g b h) fun j h=>
 I j (C c 342 [a,f,g,d] h fun k h=>
 D g e h fun l h=>
 .nm (T440 a b d e g l) h) (.ex 0 (T440 a b d e f g) h)
def k306_5:KF:=K6 y0 y1 y2 y6 y7 y8 fun c i x h a b d e f g=>
 tR (Ao g b h) fun j h=>
 I j (D f e h fun k h=>
 C c 343 [a,f,k,g,d] h fun l h=>
 tR (vf (pi 2) e h) fun m h=>
 D g m h fun n h=>
 .nm (T440 a b d e g n) h) (.ex 4 (T440 a b d e f g) h)
def k306_6:KF:=K5 y0 y1 y2 y6 y7 fun c i x h a b d e f=>
 D f e h fun g h=>
 Y g b h fun j h=>
 I j (C c 343 [a,f,g,b,d] h fun k h=>
 tR (vf e (pi 2) h) fun l h=>
 .nm (T379 a b d l) h) (tR (vf e (pi 2) h) fun k h=>
 .nm (T379 a b d k) h)
def k306_4:KF:=K4 y0 y1 y2 y6 fun c i x h a b d e=>
 tR (vf (pi 2) e h) fun f h=>
 x (T440 a b d e i0 f) h
def k306_3:KF:=K4 y0 y1 y2 y6 fun c i x h a b d e=>
 Y e b h fun f h=>
 I f (x (T379 a b d e) h) (.ex 2 T28 h)
def k306_2:KF:=K5 y0 y1 y2 y6 y7 fun c i x h a b d e f=>
 C c 342 [a,f,b,d] h fun g h=>
 x (T379 a b d e) h
def k306_0:KF:=K3 y0 y1 y2 fun c i x h a b d=>
 x (T440 a b d (pi 20) i0 (pi 20)) h
def x306:AC:=(.ah k306_0 (.seq (.block 0 (.loop (.ah k306_1 .skip))) (.ah k306_2 (.block 2 (.loop (.ah k306_3 (.block 3 (.ah k306_4 (.seq (.block 4 (.loop (.ah k306_5 .skip))) (.ah k306_6 .skip))))))))))
def f306:AF:=.mk x306 []
def k307_0:KF:=K1 y0 fun c i x h a=>
 O 34 3 (.k1 (Y3 i0 i0 iS)) h fun b h=>
 U [i0,i0,iS] [.mk 0 1 (.c i1),.mk 1 1 (.c a)] h fun d h=>
 S 3 b d h fun e h=>
 .ret (T2 b) h
def x307:AC:=(.ah k307_0 .skip)
def f307:AF:=.mk x307 [.agg 3 .h0 .h2]
def x308:AC:=b308
def f308:AF:=.mk x308 [.agg 3 .h0 .h4,.t .h0 .h5]
def x309:AC:=b309
def f309:AF:=.mk x309 [.t .h0 .h4]
def k310_2:KF:=K4 y1 y5 y6 y7 fun c i x h a b d e=>
 X 2 b e h fun f h=>
 M 2 f h fun g h=>
 O 27 2 (.k1 (Y2 .ai (.aj .f64 0 0))) h fun j h=>
 S 2 j g h fun k h=>
 x (T449 a j b d e) h
def k310_3:KF:=K4 y1 y5 y6 y7 fun c i x h a b d e=>
 D e i1 h fun f h=>
 .nm (T448 a b d f) h
def k310_1:KF:=K4 y1 y5 y6 y7 fun c i x h a b d e=>
 Y e d h fun f h=>
 I f (x (T448 a b d e) h) (.ex 0 T28 h)
def k310_0:KF:=K2 y0 y1 fun c i x h a b=>
 G a h fun d h=>
 x (T448 b a d i0) h
def x310:AC:=(.ah k310_0 (.block 0 (.loop (.ah k310_1 (.seq (.block 1 (.ah k310_2 (.iB [qf 0 d12 1 r4,
 ql 0 d13 r12,
 w (oc d14 158 [r13]),
 ql 1 d11 r1,
 q 0 (o d15 (.bin .add r11 r14)),
 q 0 (o d16 (.max true [r15,(.c (pi 1024))])),
 w (os r1 r16)]))) (.ah k310_3 .skip))))))
def f310:AF:=.mk x310 []
def k311_0:KF:=K1 y0 fun c i x h a=>
 C c 346 [.ai,a] h fun b h=>
 .ret (T2 b) h
def x311:AC:=(.ah k311_0 .skip)
def f311:AF:=.mk x311 [.t .h0 .h2]
def x313:AC:=b313
def f313:AF:=.mk x313 [.agg 3 .h0 .h4,.t .h0 .h5]
def k314_3:KF:=K5 y1 y2 y3 y6 y10 fun c i x h a b d e f=>
 A 1 d h fun g h=>
 L g h fun j h=>
 tR (aW j (.str [105,102]) h) fun k h=>
 x (T458 a b d e f k) h
def k314_9:KF:=K3 y6 y10 y12 fun c i x h a b d=>
 M 3 b h fun e h=>
 M 3 d h fun f h=>
 C c 174 [e,f] h fun g h=>
 C c 350 [g] h fun j h=>
 S 3 a j h fun k h=>
 .ret (T29 a i0) h
def k314_13:KF:=K6 y3 y6 y10 y12 y97 y139 fun c i x h a b d e f g=>
 I g (A 1 d h fun j h=>
 L j h fun k h=>
 Q k i0 h fun l h=>
 C c 350 [l] h fun m h=>
 S 3 b m h fun n h=>
 .ret (T29 b i0) h) (tR (aW f (.str [108,101,110]) h) fun j h=>
 I j (A 2 d h fun k h=>
 L k h fun l h=>
 tR (iw l h) fun m h=>
 C c 349 [m] h fun n h=>
 S 3 b n h fun o h=>
 .ret (T29 b i0) h) (tR (aW f (.str [99,97,116]) h) fun k h=>
 I k (A 2 d h fun l h=>
 L l h fun m h=>
 tR (iw m h) fun n h=>
 A 2 e h fun o h=>
 L o h fun p h=>
 tR (iw p h) fun q h=>
 D n q h fun s h=>
 tR (mE s (pi 40) h) fun t h=>
 I t (U [i0,i0,iS] [] h fun v h=>
 S 3 b v h fun w h=>
 .ret (T29 b (pi 3)) h) (A 2 d h fun v h=>
 L v h fun w h=>
 A 2 e h fun y h=>
 L y h fun z h=>
 tR (df w z h) fun a0 h=>
 U [i0,i0,iS] [.mk 0 1 (.c (pi 2)),.mk 2 1 (.c a0)] h fun a1 h=>
 S 3 b a1 h fun a2 h=>
 .ret (T29 b i0) h)) (.nm (T460 a b d e) h)))
def k314_12:KF:=K5 y3 y6 y10 y12 y97 fun c i x h a b d e f=>
 tR (aW f (.str [110,111,116]) h) fun g h=>
 x (T466 a b d e f g) h
def k314_11:KF:=K5 y3 y6 y10 y12 y97 fun c i x h a b d e f=>
 tR (aW f (.str [111,114]) h) fun g h=>
 x (T465 a b d e f g) h
def k314_10:KF:=K5 y3 y6 y10 y12 y97 fun c i x h a b d e f=>
 tR (aW f (.str [97,110,100]) h) fun g h=>
 x (T464 a b d e f g) h
def k314_8:KF:=K5 y3 y6 y10 y12 y97 fun c i x h a b d e f=>
 tR (aW f (.str [108,116]) h) fun g h=>
 x (T463 a b d e f g) h
def k314_7:KF:=K5 y3 y6 y10 y12 y97 fun c i x h a b d e f=>
 tR (aW f (.str [101,113]) h) fun g h=>
 x (T462 a b d e f g) h
def k314_6:KF:=K4 y3 y6 y10 y12 fun c i x h a b d e=>
 A 1 a h fun f h=>
 L f h fun g h=>
 x (T461 a b d e g) h
def k314_14:KF:=K4 y3 y6 y10 y12 fun c i x h a b d e=>
 A 1 a h fun f h=>
 L f h fun g h=>
 A 1 d h fun j h=>
 L j h fun k h=>
 A 1 e h fun l h=>
 L l h fun m h=>
 C c 351 [g,k,m] h fun n h=>
 E 0 n h fun o h=>
 E 1 n h fun p h=>
 tR (bG p h) fun q h=>
 I q (U [i0,i0,iS] [] h fun s h=>
 S 3 b s h fun t h=>
 .ret (T29 b (pi 26)) h) (C c 349 [o] h fun s h=>
 S 3 b s h fun t h=>
 .ret (T29 b i0) h)
def k314_5:KF:=K6 y1 y2 y3 y6 y10 y12 fun c i x h a b d e f g=>
 A 3 d h fun j h=>
 L j h fun k h=>
 G k h fun l h=>
 tR (mE l i1 h) fun m h=>
 I m (A 3 d h fun n h=>
 L n h fun o h=>
 X 4 o i1 h fun p h=>
 M 4 p h fun q h=>
 C c 314 [q,a,b] h fun s h=>
 E 0 s h fun t h=>
 E 1 s h fun v h=>
 S 3 g t h fun w h=>
 tR (cP v i0 h) fun y h=>
 I y (U [i0,i0,iS] [] h fun z h=>
 S 3 e z h fun a0 h=>
 .ret (T29 e v) h) (x (T460 d e f g) h)) (x (T460 d e f g) h)
def k314_4:KF:=K5 y1 y2 y3 y6 y10 fun c i x h a b d e f=>
 O 34 3 (.k1 (Y3 i0 i0 iS)) h fun g h=>
 x (T459 a b d e f g) h
def k314_2:KF:=K4 y1 y2 y3 y6 fun c i x h a b d e=>
 A 3 d h fun f h=>
 L f h fun g h=>
 X 4 g i0 h fun j h=>
 M 4 j h fun k h=>
 C c 314 [k,a,b] h fun l h=>
 E 0 l h fun m h=>
 E 1 l h fun n h=>
 O 34 3 (.k1 (Y3 i0 i0 iS)) h fun o h=>
 S 3 o m h fun p h=>
 tR (cP n i0 h) fun q h=>
 I q (U [i0,i0,iS] [] h fun s h=>
 S 3 e s h fun t h=>
 .ret (T29 e n) h) (x (T392 a b d e o) h)
def k314_1:KF:=K4 y1 y2 y3 y6 fun c i x h a b d e=>
 A 0 d h fun f h=>
 L f h fun g h=>
 Q g i1 h fun j h=>
 I j (A 1 d h fun k h=>
 L k h fun l h=>
 C c 235 [a,l] h fun m h=>
 E 0 m h fun n h=>
 E 1 m h fun o h=>
 X 3 b n h fun p h=>
 M 3 p h fun q h=>
 S 3 e q h fun s h=>
 .ret (T29 e i0) h) (Q g (pi 2) h fun k h=>
 I k (A 2 d h fun l h=>
 L l h fun m h=>
 C c 349 [m] h fun n h=>
 S 3 e n h fun o h=>
 .ret (T29 e i0) h) (Q g (pi 3) h fun l h=>
 I l (A 1 d h fun m h=>
 L m h fun n h=>
 U [i0,i0,iS] [.mk 0 1 (.c (pi 2)),.mk 2 1 (.c n)] h fun o h=>
 S 3 e o h fun p h=>
 .ret (T29 e i0) h) (x (T302 a b d e) h)))
def k314_0:KF:=K3 y0 y1 y2 fun c i x h a b d=>
 B 202 a h fun e h=>
 O 34 3 (.k1 (Y3 i0 i0 iS)) h fun f h=>
 x (T302 b d e f) h
def x314:AC:=(.ah k314_0 (.ah k314_1 (.ah k314_2 (.seq (.ah k314_3 (.cond r56 (.bad 0) .skip)) (.ah k314_4 (.ah k314_5 (.seq (.ah k314_6 (.block 1 (.ah k314_7 (.cond r98 (.seq (.ops [o d100 (.jO 3 r10),
 o d101 (.jO 3 r12),
 oc d102 174 [r100,r101],
 o d103 (.un .not r102),
 m d104 r103,
 .g .h6 .h8 true d105 (.op (.jO 3 r12)),
 .g .h6 .h8 true d106 (.op (.jO 3 r10)),
 .g .h6 .h8 true d107 (.call 174 [r105,r106]),
 .g .h6 .h8 true d108 (.op (.un .not r107)),
 o d109 (.pick r104 r108 (.c (.bool false))),
 oc d110 350 [r109],
 o .no (.uK 3 r6 r110),
 m d7 a0]) .ret) (.ah k314_8 (.cond r111 (.ah k314_9 .skip) (.ah k314_10 (.cond r117 (.seq (.ops [of d119 1 r10,
 ol d120 r119,
 o d121 (.bin .ne r120 a0),
 m d122 r121,
 .g .h7 .ha true d123 (.op (.cG 1 r12)),
 .g .h7 .ha true d124 (.op (.bZ r123)),
 .g .h7 .ha true d125 (.op (.bin .ne r124 a0)),
 o d126 (.pick r122 r125 (.c (.bool false))),
 oc d127 350 [r126],
 o .no (.uK 3 r6 r127),
 m d7 a0]) .ret) (.ah k314_11 (.cond r128 (.seq (.ops [of d130 1 r10,
 ol d131 r130,
 o d132 (.bin .ne r131 a0),
 m d133 r132,
 .g .h8 .h5 false d134 (.op (.cG 1 r12)),
 .g .h8 .h5 false d135 (.op (.bZ r134)),
 .g .h8 .h5 false d136 (.op (.bin .ne r135 a0)),
 o d137 (.pick r133 (.c (.bool true)) r136),
 oc d138 350 [r137],
 o .no (.uK 3 r6 r138),
 m d7 a0]) .ret) (.ah k314_12 (.ah k314_13 .skip)))))))))))) (.ah k314_14 .skip))))))))
def f314:AF:=.mk x314 [.agg 3 .h0 .h6,.t .h0 .h7]
def x315:AC:=b315
def f315:AF:=.mk x315 [.t .h0 .h2]
def x317:AC:=b317
def f317:AF:=.mk x317 []
def x318:AC:=b318
def f318:AF:=.mk x318 []
def x319:AC:=b319
def f319:AF:=.mk x319 []
end
end Go.Am.Seat
