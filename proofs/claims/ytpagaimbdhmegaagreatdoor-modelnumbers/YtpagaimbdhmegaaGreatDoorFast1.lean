/- The program's code in a form that runs fast, written by program. Nothing is asked. -/
import Derived.Test.YtpagaimbdhmegaaGreatDoorFast0
set_option linter.all false
namespace Go.Am.Seat
set_option maxRecDepth 20000
noncomputable section
def x167:AC:=b167
def f167:AF:=.mk x167 [.t .h0 .h4]
def x168:AC:=b168
def f168:AF:=.mk x168 [.t .h0 .h2]
def k169_0:KF:=K1 y0 fun c i x h a=>
 tR (bK (.jO .s) a .ah h) fun b h=>
 I b (.ret (T3 .ah) h) (tR (bs 100 3 0 [] [] h) fun d h=>
 tR (cW 100 3 d a h) fun e h=>
 .ret (T3 e) h)
def x169:AC:=(.ag k169_0 .skip)
def f169:AF:=.mk x169 [.t .h0 .h2]
def k170_4:KF:=K4 y0 y6 y7 y8 fun c i x h a b d e=>
 D e i1 h fun f h=>
 .nm (T236 a b d f) h
def k170_3:KF:=K4 y0 y6 y7 y8 fun c i x h a b d e=>
 X 2 b e h fun f h=>
 M 2 f h fun g h=>
 O 125 2 (.k1 (Y2 iS .ah)) h fun j h=>
 S 2 j g h fun k h=>
 A 0 j h fun l h=>
 L l h fun m h=>
 C c 119 [m] h fun n h=>
 tR (bG n h) fun o h=>
 I o (.ret (T3 (pi 20)) h) (tR (cq 2 (.c a) .none (.some (.c e)) .none .nil h) fun p h=>
 C c 260 [p,(.fn 261 [j])] h fun q h=>
 I q (.ret (T3 (pi 21)) h) (A 1 j h fun s h=>
 L s h fun t h=>
 C c 77 [t] h fun v h=>
 tR (bU v i0 h) fun w h=>
 I w (.ret (T3 v) h) (x (T236 a b d e) h)))
def k170_2:KF:=K4 y0 y6 y7 y8 fun c i x h a b d e=>
 Y e d h fun f h=>
 I f (x (T236 a b d e) h) (.ex 0 T17 h)
def k170_1:KF:=K1 y0 fun c i x h a=>
 G a h fun b h=>
 x (T236 a a b i0) h
def k170_5:KF:=fun c i x r h=>
 .ret (T3 i0) h
def k170_0:KF:=K1 y0 fun c i x h a=>
 x (T0 a) h
def x170:AC:=(.ag k170_0 (.seq (.ag k170_1 (.block 0 (.loop (.ag k170_2 (.ag k170_3 (.ag k170_4 .skip)))))) (.ag k170_5 .skip)))
def f170:AF:=.mk x170 [.t .h0 .h2]
def k171_0:KF:=K1 y0 fun c i x h a=>
 x (T0 a) h
def x171:AC:=(.ag k171_0 (.seq (.ops [m d3 r0,
 oc d4 72 [r3],
 m d5 r4,
 .g .h0 .h5 true d6 (.op (.mv r0)),
 .g .h0 .h5 true d7 (.call 172 [r6,(.c (.fn 262 []))]),
 .g .h0 .h5 true d8 (.op (.un .not r7)),
 o d9 (.pick r5 r8 (.c (.bool false))),
 m d2 r9]) .ret))
def f171:AF:=.mk x171 [.t .h0 .h2]
def k172_0:KF:=K2 y0 y1 fun c i x h a b=>
 C c 263 [a,b] h fun d h=>
 tR (fm d i0 h) fun e h=>
 .ret (T9 e) h
def x172:AC:=(.ag k172_0 .skip)
def f172:AF:=.mk x172 [.t .h0 .h4]
def k173_0:KF:=K2 y0 y1 fun c i x h a b=>
 B 142 a h fun d h=>
 A 1 b h fun e h=>
 L e h fun f h=>
 A 0 d h fun g h=>
 L g h fun j h=>
 C c 174 [f,j] h fun k h=>
 tR (bG k h) fun l h=>
 .ret (T47 l) h
def x173:AC:=(.ag k173_0 .skip)
def f173:AF:=.mk x173 [.t .h0 .h3]
def k174_4:KF:=K5 y0 y12 y13 y14 y31 fun c i x h a b d e f=>
 I f (.ret (T9 (.bool false)) h) (.nm (T237 a b d e) h)
def k174_3:KF:=K4 y0 y12 y13 y14 fun c i x h a b d e=>
 X 3 b e h fun f h=>
 M 3 f h fun g h=>
 O 100 3 (.k1 (Y3 i0 i0 iS)) h fun j h=>
 S 3 j g h fun k h=>
 x (T238 a e j b d e) h
def k174_5:KF:=K4 y0 y12 y13 y14 fun c i x h a b d e=>
 D e i1 h fun f h=>
 .nm (T237 a b d f) h
def k174_2:KF:=K4 y0 y12 y13 y14 fun c i x h a b d e=>
 Y e d h fun f h=>
 I f (x (T237 a b d e) h) (.ex 0 T17 h)
def k174_1:KF:=K2 y0 y1 fun c i x h a b=>
 G b h fun d h=>
 x (T237 a b d i0) h
def k174_6:KF:=fun c i x r h=>
 .ret (T9 (.bool true)) h
def k174_0:KF:=K2 y0 y1 fun c i x h a b=>
 G a h fun d h=>
 G b h fun e h=>
 tR (bU d e h) fun f h=>
 I f (.ret (T9 (.bool false)) h) (x (T20 a b) h)
def x174:AC:=(.ag k174_0 (.seq (.ag k174_1 (.block 0 (.loop (.ag k174_2 (.seq (.block 1 (.ag k174_3 (.seq (.da [q 0 (o d19 (.cV 3 r6)),
 w (oc d20 180 [r19]),
 q 0 (o d21 (.un .not r20)),
 q 0 (m d22 r21),
 q 0 (.g .h1 .h6 false d23 (.op (.br 0 r6))),
 q 0 (.g .h1 .h6 false d24 (.op (.bq r23))),
 q 0 (.g .h1 .h6 false d25 (.op (.mv r0))),
 q 0 (.g .h1 .h6 false d26 (.op (.mv r5))),
 q 0 (.g .h1 .h6 false d27 (.op (.bF 2 r25 r26))),
 q 0 (.g .h1 .h6 false d28 (.op (.br 1 r27))),
 q 0 (.g .h1 .h6 false d29 (.op (.bq r28))),
 q 0 (.g .h1 .h6 false d30 (.op (.bin .ne r24 r29))),
 q 0 (o d31 (.pick r22 (.c (.bool true)) r30))]) (.ag k174_4 .skip)))) (.ag k174_5 .skip)))))) (.ag k174_6 .skip)))
def f174:AF:=.mk x174 [.t .h0 .h4]
def k175_4:KF:=K7 y1 y2 y5 y6 y15 y16 y17 fun c i x h a b d e f g j=>
 D j i1 h fun k h=>
 .nm (T240 a b d e f g k) h
def k175_3:KF:=K7 y1 y2 y5 y6 y15 y16 y17 fun c i x h a b d e f g j=>
 X 8 f j h fun k h=>
 M 8 k h fun l h=>
 O 131 8 (.k1 (Y8 i0 iS .ah .ah .ah .ah .ah .ah)) h fun m h=>
 S 8 m l h fun n h=>
 M 8 m h fun o h=>
 C c 175 [o,a] h fun p h=>
 E 0 p h fun q h=>
 E 1 p h fun s h=>
 O 263 2 (.k1 (Y2 i0 iS)) h fun t h=>
 S 2 t s h fun v h=>
 A 0 t h fun w h=>
 L w h fun y h=>
 tR (bU y i0 h) fun z h=>
 I z (tQ (cV 2 t h) fun a0=>
 tX (RV.gh (gS 2 d a0 h)) fun a1 h=>
 .ret (T49 .ah d) h) (tR (bs 28 1 1 [.ah] [.mk 0 1 (.c q)] h) fun a0 h=>
 tR (cW 28 1 e a0 h) fun a1 h=>
 x (T240 a b d a1 f g j) h)
def k175_2:KF:=K7 y1 y2 y5 y6 y15 y16 y17 fun c i x h a b d e f g j=>
 Y j g h fun k h=>
 I k (x (T240 a b d e f g j) h) (.ex 0 (T239 a b d e) h)
def k175_1:KF:=K4 y1 y2 y5 y6 fun c i x h a b d e=>
 A 7 b h fun f h=>
 L f h fun g h=>
 G g h fun j h=>
 x (T240 a b d e g j i0) h
def k175_7:KF:=K3 y1 y2 y5 fun c i x h a b d=>
 C c 126 [a,(.fn 264 [b])] h fun e h=>
 Y e i0 h fun f h=>
 I f (tQ (fA 1 b h) fun g=>
 tQ (lD g h) fun j=>
 tQ (bl [i0,iS] [.mk 0 1 (.c (pi 20)),.mk 1 1 (.c j)] h) fun k=>
 tX (RV.gh (gS 2 d k h)) fun l h=>
 .ret (T49 .ah d) h) (X 2 a e h fun g h=>
 A 1 g h fun j h=>
 L j h fun k h=>
 C c 78 [k] h fun l h=>
 U [i0,iS] [] h fun m h=>
 S 2 d m h fun n h=>
 .ret (T49 l d) h)
def k175_10:KF:=K5 y2 y5 y6 y37 y79 fun c i x h a b d e f=>
 I f (tQ (cV 8 a h) fun g=>
 tQ (iX 1 d i0 h) fun j=>
 tQ (lD j h) fun k=>
 tX (c 266 [g,k] h) fun l h=>
 tQ (ext 0 l h) fun m=>
 tQ (ext 1 l h) fun n=>
 tX (RV.gh (gS 2 b n h)) fun o h=>
 .ret (T49 m b) h) (Q e (pi 4) h fun g h=>
 I g (tQ (cV 8 a h) fun j=>
 tQ (iX 1 d i0 h) fun k=>
 tQ (lD k h) fun l=>
 tQ (iX 1 d i1 h) fun m=>
 tQ (lD m h) fun n=>
 tX (c 267 [j,l,n] h) fun o h=>
 tQ (ext 0 o h) fun p=>
 tQ (ext 1 o h) fun q=>
 tX (RV.gh (gS 2 b q h)) fun s h=>
 .ret (T49 p b) h) (Q e (pi 5) h fun j h=>
 I j (tQ (iX 1 d i0 h) fun k=>
 tQ (lD k h) fun l=>
 tQ (iX 1 d i1 h) fun m=>
 tQ (lD m h) fun n=>
 tX (c 268 [l,n] h) fun o h=>
 tQ (ext 0 o h) fun p=>
 tQ (ext 1 o h) fun q=>
 tX (RV.gh (gS 2 b q h)) fun s h=>
 .ret (T49 p b) h) (Q e (pi 7) h fun k h=>
 I k (tQ (cV 8 a h) fun l=>
 tQ (iX 1 d i0 h) fun m=>
 tQ (lD m h) fun n=>
 tX (c 269 [l,n] h) fun o h=>
 tQ (ext 0 o h) fun p=>
 tQ (ext 1 o h) fun q=>
 tX (RV.gh (gS 2 b q h)) fun s h=>
 .ret (T49 p b) h) (.nm (T245 b d) h))))
def k175_9:KF:=K4 y2 y5 y6 y37 fun c i x h a b d e=>
 Q e (pi 3) h fun f h=>
 x (T244 a b d e f) h
def k175_8:KF:=K4 y2 y5 y6 y37 fun c i x h a b d e=>
 Q e (pi 2) h fun f h=>
 x (T243 a b d e f) h
def k175_6:KF:=K5 y1 y2 y5 y6 y37 fun c i x h a b d e f=>
 Q f i1 h fun g h=>
 x (T242 a b d e f g) h
def k175_5:KF:=K4 y1 y2 y5 y6 fun c i x h a b d e=>
 A 0 b h fun f h=>
 L f h fun g h=>
 x (T241 a b d e g) h
def k175_11:KF:=K2 y5 y6 fun c i x h a b=>
 X 1 b i0 h fun d h=>
 L d h fun e h=>
 U [i0,iS] [] h fun f h=>
 S 2 a f h fun g h=>
 .ret (T49 e a) h
def k175_0:KF:=K2 y0 y1 fun c i x h a b=>
 B 131 a h fun d h=>
 O 263 2 (.k1 (Y2 i0 iS)) h fun e h=>
 x (T239 b d e .ah) h
def x175:AC:=(.ag k175_0 (.seq (.ag k175_1 (.block 0 (.loop (.ag k175_2 (.ag k175_3 (.ag k175_4 .skip)))))) (.seq (.ag k175_5 (.block 2 (.ag k175_6 (.cond r38 (.ag k175_7 .skip) (.ag k175_8 (.cond r55 (.bad 0) (.ag k175_9 (.ag k175_10 .skip)))))))) (.ag k175_11 .skip))))
def f175:AF:=.mk x175 [.t .h0 .h4,.agg 2 .h0 .h5]
def k176_3:KF:=K3 y1 y3 y6 fun c i x h a b d=>
 C c 82 [a,(.fn 270 [b])] h fun e h=>
 tQ (iX 3 a e h) fun f=>
 tQ (fA 1 f h) fun g=>
 tQ (lD g h) fun j=>
 tQ (iX 3 a e h) fun k=>
 tQ (fA 2 k h) fun l=>
 tQ (lD l h) fun m=>
 tQ (bl [.ah,.ah] [.mk 0 1 (.c j),.mk 1 1 (.c m)] h) fun n=>
 tX (RV.gh (gS 2 d n h)) fun o h=>
 .ret (T27 d i0) h
def k176_5:KF:=K3 y2 y3 y6 fun c i x h a b d=>
 tQ (cV 8 b h) fun e=>
 tQ (iX 2 a i0 h) fun f=>
 tQ (fA 0 f h) fun g=>
 tQ (lD g h) fun j=>
 tQ (iX 2 a i0 h) fun k=>
 tQ (fA 1 k h) fun l=>
 tQ (lD l h) fun m=>
 tX (c 271 [e,j,m] h) fun n h=>
 tQ (ext 0 n h) fun o=>
 tQ (ext 1 n h) fun p=>
 X 2 a i0 h fun q h=>
 A 0 q h fun s h=>
 L s h fun t h=>
 U [.ah,.ah] [.mk 0 1 (.c t),.mk 1 1 (.c o)] h fun v h=>
 S 2 d v h fun w h=>
 x (T27 d p) h
def k176_7:KF:=K3 y2 y3 y6 fun c i x h a b d=>
 tQ (cV 8 b h) fun e=>
 tQ (iX 2 a i0 h) fun f=>
 tQ (fA 0 f h) fun g=>
 tQ (lD g h) fun j=>
 tQ (iX 2 a i0 h) fun k=>
 tQ (fA 1 k h) fun l=>
 tQ (lD l h) fun m=>
 tX (c 272 [e,j,m] h) fun n h=>
 tQ (ext 0 n h) fun o=>
 tQ (ext 1 n h) fun p=>
 x (T251 a b d o p) h
def k176_9:KF:=K2 y2 y6 fun c i x h a b=>
 tQ (iX 2 a i0 h) fun d=>
 tQ (fA 1 d h) fun e=>
 tQ (lD e h) fun f=>
 tQ (iX 2 a i1 h) fun g=>
 tQ (fA 1 g h) fun j=>
 tQ (lD j h) fun k=>
 tX (c 147 [f,k] h) fun l h=>
 tQ (ext 0 l h) fun m=>
 tQ (ext 1 l h) fun n=>
 X 2 a i0 h fun o h=>
 A 0 o h fun p h=>
 L p h fun q h=>
 U [.ah,.ah] [.mk 0 1 (.c q),.mk 1 1 (.c m)] h fun s h=>
 S 2 b s h fun t h=>
 .ret (T27 b n) h
def k176_11:KF:=K3 y2 y3 y6 fun c i x h a b d=>
 tQ (cV 8 b h) fun e=>
 tQ (iX 2 a i0 h) fun f=>
 tQ (fA 0 f h) fun g=>
 tQ (lD g h) fun j=>
 tQ (iX 2 a i1 h) fun k=>
 tQ (fA 0 k h) fun l=>
 tQ (lD l h) fun m=>
 tQ (iX 2 a i0 h) fun n=>
 tQ (fA 1 n h) fun o=>
 tQ (lD o h) fun p=>
 tQ (iX 2 a i1 h) fun q=>
 tQ (fA 1 q h) fun s=>
 tQ (lD s h) fun t=>
 tX (c 274 [e,j,m,p,t] h) fun v h=>
 tQ (ext 0 v h) fun w=>
 tQ (ext 1 v h) fun y=>
 x (T254 a b d w y) h
def k176_13:KF:=K3 y2 y3 y6 fun c i x h a b d=>
 tQ (cV 8 b h) fun e=>
 tQ (iX 2 a i0 h) fun f=>
 tQ (cV 2 f h) fun g=>
 tX (c 275 [e,g] h) fun j h=>
 tQ (ext 0 j h) fun k=>
 tQ (ext 1 j h) fun l=>
 x (T256 a b d k l) h
def k176_12:KF:=K4 y2 y3 y6 y20 fun c i x h a b d e=>
 Q e (pi 7) h fun f h=>
 x (T255 a b d f) h
def k176_10:KF:=K4 y2 y3 y6 y20 fun c i x h a b d e=>
 Q e (pi 4) h fun f h=>
 x (T253 a b d e f) h
def k176_8:KF:=K4 y2 y3 y6 y20 fun c i x h a b d e=>
 Q e (pi 5) h fun f h=>
 x (T252 a b d e f) h
def k176_6:KF:=K4 y2 y3 y6 y20 fun c i x h a b d e=>
 Q e (pi 3) h fun f h=>
 x (T250 a b d e f) h
def k176_4:KF:=K4 y2 y3 y6 y20 fun c i x h a b d e=>
 Q e (pi 2) h fun f h=>
 x (T249 a b d e f) h
def k176_2:KF:=K5 y1 y2 y3 y6 y20 fun c i x h a b d e f=>
 Q f i1 h fun g h=>
 x (T248 a b d e f g) h
def k176_1:KF:=K4 y1 y2 y3 y6 fun c i x h a b d e=>
 A 0 d h fun f h=>
 L f h fun g h=>
 x (T247 a b d e g) h
def k176_0:KF:=K3 y0 y1 y2 fun c i x h a b d=>
 B 131 a h fun e h=>
 O 190 2 (.k1 (Y2 .ah .ah)) h fun f h=>
 x (T246 b d e f) h
def x176:AC:=(.ag k176_0 (.seq (.ag k176_1 (.block 0 (.ag k176_2 (.cond r21 (.ag k176_3 .skip) (.ag k176_4 (.cond r37 (.ag k176_5 .ret) (.ag k176_6 (.cond r59 (.ag k176_7 (.seq (.da [q 0 (m d75 r2),
 q 0 (o d76 (.bF 2 r75 a0)),
 qf 0 d77 0 r76,
 ql 0 d78 r77,
 w (o d79 (.aU 28 1 1 [.ah] [.mk 0 1 r78])),
 q 1 (o d74 (.cV 8 r3)),
 w (oc d80 273 [r74,r79]),
 q 2 (m d81 r11),
 q 0 (o d82 (.build [.ah,.ah] [.mk 0 1 r80,.mk 1 1 r81])),
 w (o .no (.gS 2 r6 r82)),
 q 3 (m d83 r12),
 q 0 (m d7 r83)]) .ret)) (.ag k176_8 (.cond r84 (.ag k176_9 .skip) (.ag k176_10 (.cond r105 (.ag k176_11 (.seq (.da [q 0 (m d129 r2),
 q 0 (o d130 (.bF 2 r129 a0)),
 qf 0 d131 0 r130,
 ql 0 d132 r131,
 q 0 (m d133 r2),
 q 0 (o d134 (.bF 2 r133 a1)),
 qf 0 d135 0 r134,
 ql 0 d136 r135,
 w (o d137 (.aU 28 1 2 [.ah,.ah] [.mk 0 1 r132,.mk 1 1 r136])),
 q 1 (o d128 (.cV 8 r3)),
 w (oc d138 273 [r128,r137]),
 q 2 (m d139 r15),
 q 0 (o d140 (.build [.ah,.ah] [.mk 0 1 r138,.mk 1 1 r139])),
 w (o .no (.gS 2 r6 r140)),
 q 3 (m d141 r16),
 q 0 (m d7 r141)]) .ret)) (.ag k176_12 (.cond r142 (.ag k176_13 (.seq (.da [q 0 (m d153 r2),
 q 0 (o d154 (.bF 2 r153 a0)),
 qf 0 d155 0 r154,
 ql 0 d156 r155,
 w (o d157 (.aU 28 1 1 [.ah] [.mk 0 1 r156])),
 q 1 (o d152 (.cV 8 r3)),
 w (oc d158 273 [r152,r157]),
 q 2 (m d159 r17),
 q 0 (o d160 (.build [.ah,.ah] [.mk 0 1 r158,.mk 1 1 r159])),
 w (o .no (.gS 2 r6 r160)),
 q 3 (m d161 r18),
 q 0 (m d7 r161)]) .ret)) .skip)))))))))))))) (.seq (.da [q 0 (m d166 r2),
 q 0 (o d167 (.bF 2 r166 a0)),
 qf 0 d168 1 r167,
 ql 0 d169 r168,
 w (oc d170 276 [r169]),
 q 1 (m d162 r2),
 q 1 (o d163 (.bF 2 r162 a0)),
 qf 1 d164 0 r163,
 ql 1 d165 r164,
 q 0 (o d171 (.build [.ah,.ah] [.mk 0 1 r165,.mk 1 1 r170])),
 w (o .no (.gS 2 r6 r171)),
 q 0 (m d7 a0)]) .ret)))
def f176:AF:=.mk x176 [.agg 2 .h0 .h6,.t .h0 .h7]
def k177_2:KF:=K4 y3 y6 y7 y8 fun c i x h a b d e=>
 Y e d h fun f h=>
 I f (X 2 b e h fun g h=>
 M 2 g h fun j h=>
 O 142 2 (.k1 (Y2 .ah (.cG .f64 0 0))) h fun k h=>
 S 2 k j h fun l h=>
 A 1 k h fun m h=>
 L m h fun n h=>
 C c 183 [n] h fun o h=>
 D a o h fun p h=>
 tR (fH p (pi 512) h) fun q h=>
 I q (.ret (T3 (.bool true)) h) (D e i1 h fun s h=>
 .nm (T77 p b d s) h)) (.ex 0 (T77 a b d e) h)
def k177_1:KF:=K2 y0 y3 fun c i x h a b=>
 G a h fun d h=>
 x (T77 b a d i0) h
def k177_3:KF:=fun c i x r h=>
 .ret (T3 (.bool false)) h
def k177_0:KF:=K1 y0 fun c i x h a=>
 x (T24 a i0) h
def x177:AC:=(.ag k177_0 (.seq (.ag k177_1 (.block 0 (.loop (.ag k177_2 .skip)))) (.ag k177_3 .skip)))
def f177:AF:=.mk x177 [.t .h0 .h2]
def k178_0:KF:=K2 y0 y1 fun c i x h a b=>
 C c 277 [a,b] h fun d h=>
 tR (fm d i0 h) fun e h=>
 .ret (T9 e) h
def x178:AC:=(.ag k178_0 .skip)
def f178:AF:=.mk x178 [.t .h0 .h4]
def k179_0:KF:=K1 y0 fun c i x h a=>
 B 100 a h fun b h=>
 M 3 b h fun d h=>
 C c 180 [d] h fun e h=>
 tR (bG e h) fun f h=>
 .ret (T3 f) h
def x179:AC:=(.ag k179_0 .skip)
def f179:AF:=.mk x179 [.t .h0 .h2]
def k180_3:KF:=K1 y1 fun c i x h a=>
 A 2 a h fun b h=>
 L b h fun d h=>
 tR (aC d iS h) fun e h=>
 .ret (T3 e) h
def k180_4:KF:=K2 y1 y4 fun c i x h a b=>
 Q b (pi 2) h fun d h=>
 x (T259 a d) h
def k180_2:KF:=K2 y1 y4 fun c i x h a b=>
 Q b i1 h fun d h=>
 x (T258 a b d) h
def k180_1:KF:=K1 y1 fun c i x h a=>
 A 0 a h fun b h=>
 L b h fun d h=>
 x (T257 a d) h
def k180_5:KF:=fun c i x r h=>
 .ret (T3 (.bool false)) h
def k180_0:KF:=K1 y0 fun c i x h a=>
 B 100 a h fun b h=>
 x (T1 b) h
def x180:AC:=(.ag k180_0 (.seq (.ag k180_1 (.block 0 (.ag k180_2 (.cond r5 (.ag k180_3 .skip) (.ag k180_4 (.cond r10 (.seq (.ops [of d12 1 r1,
 ol d13 r12,
 o d14 (.bin .eq r13 a0),
 m d15 r14,
 .g .h0 .hf true d16 (.op (.br 2 r1)),
 .g .h0 .hf true d17 (.op (.bq r16)),
 .g .h0 .hf true d18 (.op (.dI r17)),
 .g .h0 .hf true d19 (.op (.bin .le r18 (.c (pi 40)))),
 o d20 (.pick r15 r19 (.c (.bool false))),
 m d2 r20]) .ret) .skip)))))) (.ag k180_5 .skip)))
def f180:AF:=.mk x180 [.t .h0 .h2]
def k181_0:KF:=K1 y0 fun c i x h a=>
 x (T0 a) h
def x181:AC:=(.ag k181_0 (.seq (.ops [m d3 r0,
 o d4 (.bin (.DP .geq) r3 (.c (.ji .f64 0))),
 m d5 r4,
 .g .h0 .h5 true d6 (.op (.mv r0)),
 .g .h0 .h5 true d7 (.op (.bin (.DP .leq) r6 (.c (.ji .f64 4832362400168542208)))),
 o d8 (.pick r5 r7 (.c (.bool false))),
 m d9 r8,
 .g .h0 .h9 true d10 (.op (.mv r0)),
 .g .h0 .h9 true d11 (.op (.mv r0)),
 .g .h0 .h9 true d12 (.call 278 [r11]),
 .g .h0 .h9 true d13 (.op (.bin (.DP .eql) r10 r12)),
 o d14 (.pick r9 r13 (.c (.bool false))),
 m d2 r14]) .ret))
def f181:AF:=.mk x181 [.t .h0 .h2]
def k182_0:KF:=K1 y0 fun c i x h a=>
 tR (Bu false [a,i0] h) fun b h=>
 tR (mV a h) fun d h=>
 tR (Bu false [d,i0] h) fun e h=>
 C c 221 [b,e] h fun f h=>
 .ret (T3 f) h
def x182:AC:=(.ag k182_0 .skip)
def f182:AF:=.mk x182 [.t .h0 .h2]
def k183_0:KF:=K1 y0 fun c i x h a=>
 C c 279 [a] h fun b h=>
 E 0 b h fun d h=>
 E 1 b h fun e h=>
 E 2 b h fun f h=>
 Z d e h fun g h=>
 .ret (T3 g) h
def x183:AC:=(.ag k183_0 .skip)
def f183:AF:=.mk x183 [.t .h0 .h2]
def k184_4:KF:=K6 y0 y1 y2 y11 y12 y13 fun c i x h a b d e f g=>
 D g i1 h fun j h=>
 .nm (T260 a b d e f j) h
def k184_3:KF:=K6 y0 y1 y2 y11 y12 y13 fun c i x h a b d e f g=>
 X 3 e g h fun j h=>
 M 3 j h fun k h=>
 O 100 3 (.k1 (Y3 i0 i0 iS)) h fun l h=>
 S 3 l k h fun m h=>
 G b h fun n h=>
 tR (fm g n h) fun o h=>
 I o (.ret (T6 i1) h) (X 3 b g h fun p h=>
 M 3 p h fun q h=>
 O 100 3 (.k1 (Y3 i0 i0 iS)) h fun s h=>
 S 3 s q h fun t h=>
 M 3 l h fun v h=>
 M 3 s h fun w h=>
 tT (cd c d [v,w] h) fun y h=>
 tR (bU y i0 h) fun z h=>
 I z (.ret (T6 y) h) (x (T260 a b d e f g) h))
def k184_2:KF:=K6 y0 y1 y2 y11 y12 y13 fun c i x h a b d e f g=>
 Y g f h fun j h=>
 I j (x (T260 a b d e f g) h) (.ex 0 (T20 a b) h)
def k184_1:KF:=K3 y0 y1 y2 fun c i x h a b d=>
 G a h fun e h=>
 x (T260 a b d a e i0) h
def k184_5:KF:=K2 y0 y1 fun c i x h a b=>
 G a h fun d h=>
 G b h fun e h=>
 Y d e h fun f h=>
 I f (.ret (T6 (ni 0)) h) (.ret (T6 i0) h)
def k184_0:KF:=K3 y0 y1 y2 fun c i x h a b d=>
 x (T51 a b d) h
def x184:AC:=(.ag k184_0 (.seq (.ag k184_1 (.block 0 (.loop (.ag k184_2 (.ag k184_3 (.ag k184_4 .skip)))))) (.ag k184_5 .skip)))
def f184:AF:=.mk x184 [.t .h0 .h6]
def k185_0:KF:=K2 y0 y1 fun c i x h a b=>
 B 100 a h fun d h=>
 B 100 b h fun e h=>
 M 3 d h fun f h=>
 M 3 e h fun g h=>
 C c 186 [f,g] h fun j h=>
 I j (.ret (T9 (ni 0)) h) (M 3 e h fun k h=>
 M 3 d h fun l h=>
 C c 186 [k,l] h fun m h=>
 I m (.ret (T9 i1) h) (.ret (T9 i0) h))
def x185:AC:=(.ag k185_0 .skip)
def f185:AF:=.mk x185 [.t .h0 .h4]
def k186_1:KF:=K3 y2 y3 y5 fun c i x h a b d=>
 I d (.ret (T9 (.bool false)) h) (A 0 a h fun e h=>
 L e h fun f h=>
 A 0 b h fun g h=>
 L g h fun j h=>
 tR (bU f j h) fun k h=>
 I k (A 0 a h fun l h=>
 L l h fun m h=>
 Q m i1 h fun n h=>
 .ret (T9 n) h) (A 0 a h fun l h=>
 L l h fun m h=>
 Q m i1 h fun n h=>
 I n (A 1 a h fun o h=>
 L o h fun p h=>
 A 1 b h fun q h=>
 L q h fun s h=>
 Y p s h fun t h=>
 .ret (T9 t) h) (.nm (T2 a b) h)))
def k186_2:KF:=K2 y2 y3 fun c i x h a b=>
 A 2 a h fun d h=>
 L d h fun e h=>
 A 2 b h fun f h=>
 L f h fun g h=>
 tR (zR e g h) fun j h=>
 .ret (T9 j) h
def k186_0:KF:=K2 y0 y1 fun c i x h a b=>
 B 100 a h fun d h=>
 B 100 b h fun e h=>
 x (T2 d e) h
def x186:AC:=(.ag k186_0 (.seq (.block 0 (.seq (.ops [o d6 (.cV 3 r2),
 oc d7 180 [r6],
 o d8 (.un .not r7),
 m d9 r8,
 .g .h0 .h9 false d10 (.op (.cV 3 r3)),
 .g .h0 .h9 false d11 (.call 180 [r10]),
 .g .h0 .h9 false d12 (.op (.un .not r11)),
 o d13 (.pick r9 (.c (.bool true)) r12),
 m d5 r13]) (.ag k186_1 .skip))) (.ag k186_2 .skip)))
def f186:AF:=.mk x186 [.t .h0 .h4]
def k187_3:KF:=K1 y4 fun c i x h a=>
 I a (.ret (T3 (.bool true)) h) (.nm T17 h)
def k187_2:KF:=K1 y3 fun c i x h a=>
 tR (aC a (.str [116,97,98,108,101]) h) fun b h=>
 I b (x (T9 b) h) (tR (aC a (.str [102,105,108,116,101,114]) h) fun d h=>
 I d (x (T9 d) h) (tR (aC a (.str [112,114,111,106,101,99,116]) h) fun e h=>
 I e (x (T9 e) h) (tR (aC a (.str [106,111,105,110]) h) fun f h=>
 I f (x (T9 f) h) (tR (aC a (.str [117,110,105,111,110]) h) fun g h=>
 I g (x (T9 g) h) (tR (aC a (.str [100,105,115,116,105,110,99,116]) h) fun j h=>
 I j (x (T9 j) h) (tR (aC a (.str [103,114,111,117,112]) h) fun k h=>
 I k (x (T9 k) h) (tR (aC a (.str [99,111,117,110,116]) h) fun l h=>
 I l (x (T9 l) h) (tR (aC a (.str [115,117,109]) h) fun m h=>
 I m (x (T9 m) h) (tR (aC a (.str [109,105,110]) h) fun n h=>
 I n (x (T9 n) h) (tR (aC a (.str [109,97,120]) h) fun o h=>
 I o (x (T9 o) h) (tR (aC a (.str [97,100,100]) h) fun p h=>
 I p (x (T9 p) h) (tR (aC a (.str [115,117,98]) h) fun q h=>
 I q (x (T9 q) h) (tR (aC a (.str [109,117,108]) h) fun s h=>
 I s (x (T9 s) h) (tR (aC a (.str [110,101,103]) h) fun t h=>
 I t (x (T9 t) h) (tR (aC a (.str [101,113]) h) fun v h=>
 I v (x (T9 v) h) (tR (aC a (.str [108,116]) h) fun w h=>
 I w (x (T9 w) h) (tR (aC a (.str [97,110,100]) h) fun y h=>
 I y (x (T9 y) h) (tR (aC a (.str [111,114]) h) fun z h=>
 I z (x (T9 z) h) (tR (aC a (.str [110,111,116]) h) fun a0 h=>
 I a0 (x (T9 a0) h) (tR (aC a (.str [99,97,116]) h) fun a1 h=>
 I a1 (x (T9 a1) h) (tR (aC a (.str [108,101,110]) h) fun a2 h=>
 I a2 (x (T9 a2) h) (tR (aC a (.str [105,102]) h) fun a3 h=>
 x (T9 a3) h))))))))))))))))))))))
def k187_1:KF:=K1 y0 fun c i x h a=>
 x (T47 a) h
def k187_4:KF:=fun c i x r h=>
 .ret (T3 (.bool false)) h
def k187_0:KF:=K1 y0 fun c i x h a=>
 x (T0 a) h
def x187:AC:=(.ag k187_0 (.seq (.ag k187_1 (.block 0 (.ag k187_2 (.ag k187_3 .skip)))) (.ag k187_4 .skip)))
def f187:AF:=.mk x187 [.t .h0 .h2]
def k188_2:KF:=K4 y0 y1 y7 y8 fun c i x h a b d e=>
 Y e d h fun f h=>
 I f (X 2 a e h fun g h=>
 M 2 g h fun j h=>
 tT (cd c b [j] h) fun k h=>
 I k (.ret (T9 e) h) (D e i1 h fun l h=>
 .nm (T62 a b d l) h)) (.ex 0 (T62 a b d e) h)
def k188_1:KF:=K2 y0 y1 fun c i x h a b=>
 G a h fun d h=>
 x (T62 a b d i0) h
def k188_3:KF:=fun c i x r h=>
 .ret (T9 (ni 0)) h
def k188_0:KF:=K2 y0 y1 fun c i x h a b=>
 x (T20 a b) h
def x188:AC:=(.ag k188_0 (.seq (.ag k188_1 (.block 0 (.loop (.ag k188_2 .skip)))) (.ag k188_3 .skip)))
def f188:AF:=.mk x188 [.t .h0 .h4]
def k189_0:KF:=K2 y0 y1 fun c i x h a b=>
 B 103 a h fun d h=>
 A 0 d h fun e h=>
 L e h fun f h=>
 L b h fun g h=>
 tR (aC f g h) fun j h=>
 .ret (T47 j) h
def x189:AC:=(.ag k189_0 .skip)
def f189:AF:=.mk x189 [.t .h0 .h3]
def x190:AC:=b190
def f190:AF:=.mk x190 []
def k199_2:KF:=K2 y0 y2 fun c i x h a b=>
 tR (fm a (.int .u64 (.ofNat 256)) h) fun d h=>
 I d (tR (bK .shr a (.int .u64 (.ofNat 8)) h) fun e h=>
 D b (pi 8) h fun f h=>
 tR (cK (.toInt .u8) e h) fun g h=>
 tR (eh (.c (.str [0,1,2,2,3,3,3,3,4,4,4,4,4,4,4,4,5,5,5,5,5,5,5,5,5,5,5,5,5,5,5,5,6,6,6,6,6,6,6,6,6,6,6,6,6,6,6,6,6,6,6,6,6,6,6,6,6,6,6,6,6,6,6,6,7,7,7,7,7,7,7,7,7,7,7,7,7,7,7,7,7,7,7,7,7,7,7,7,7,7,7,7,7,7,7,7,7,7,7,7,7,7,7,7,7,7,7,7,7,7,7,7,7,7,7,7,7,7,7,7,7,7,7,7,7,7,7,7,8,8,8,8,8,8,8,8,8,8,8,8,8,8,8,8,8,8,8,8,8,8,8,8,8,8,8,8,8,8,8,8,8,8,8,8,8,8,8,8,8,8,8,8,8,8,8,8,8,8,8,8,8,8,8,8,8,8,8,8,8,8,8,8,8,8,8,8,8,8,8,8,8,8,8,8,8,8,8,8,8,8,8,8,8,8,8,8,8,8,8,8,8,8,8,8,8,8,8,8,8,8,8,8,8,8,8,8,8,8,8,8,8,8,8,8,8,8,8,8,8,8,8,8,8,8,8,8])) (.c g) .nil h) fun j h=>
 tR (cK (.toInt .i64) j h) fun k h=>
 D f k h fun l h=>
 x (T3 l) h) (tR (cK (.toInt .u8) a h) fun e h=>
 tR (eh (.c (.str [0,1,2,2,3,3,3,3,4,4,4,4,4,4,4,4,5,5,5,5,5,5,5,5,5,5,5,5,5,5,5,5,6,6,6,6,6,6,6,6,6,6,6,6,6,6,6,6,6,6,6,6,6,6,6,6,6,6,6,6,6,6,6,6,7,7,7,7,7,7,7,7,7,7,7,7,7,7,7,7,7,7,7,7,7,7,7,7,7,7,7,7,7,7,7,7,7,7,7,7,7,7,7,7,7,7,7,7,7,7,7,7,7,7,7,7,7,7,7,7,7,7,7,7,7,7,7,7,8,8,8,8,8,8,8,8,8,8,8,8,8,8,8,8,8,8,8,8,8,8,8,8,8,8,8,8,8,8,8,8,8,8,8,8,8,8,8,8,8,8,8,8,8,8,8,8,8,8,8,8,8,8,8,8,8,8,8,8,8,8,8,8,8,8,8,8,8,8,8,8,8,8,8,8,8,8,8,8,8,8,8,8,8,8,8,8,8,8,8,8,8,8,8,8,8,8,8,8,8,8,8,8,8,8,8,8,8,8,8,8,8,8,8,8,8,8,8,8,8,8,8,8,8,8,8,8])) (.c e) .nil h) fun f h=>
 tR (cK (.toInt .i64) f h) fun g h=>
 D b g h fun j h=>
 x (T3 j) h)
def k199_1:KF:=K2 y0 y2 fun c i x h a b=>
 tR (fm a (.int .u64 (.ofNat 65536)) h) fun d h=>
 I d (tR (bK .shr a (.int .u64 (.ofNat 16)) h) fun e h=>
 D b (pi 16) h fun f h=>
 x (T128 e f) h) (x (T128 a b) h)
def k199_0:KF:=K1 y0 fun c i x h a=>
 tR (fm a (.int .u64 (.ofNat 4294967296)) h) fun b h=>
 I b (tR (bK .shr a (.int .u64 (.ofNat 32)) h) fun d h=>
 x (T128 d (pi 32)) h) (x (T128 a i0) h)
def x199:AC:=(.ag k199_0 (.ag k199_1 (.ag k199_2 .ret)))
def f199:AF:=.mk x199 [.t .h0 .h2]
def x201:AC:=b201
def f201:AF:=.mk x201 [.t .h0 .h4]
def x202:AC:=b202
def f202:AF:=.mk x202 [.t .h0 .h4]
def k203_0:KF:=K2 y0 y1 fun c i x h a b=>
 B 131 a h fun d h=>
 B 131 b h fun e h=>
 x (T2 d e) h
def x203:AC:=(.ag k203_0 (.seq (.ops [of d5 0 r2,
 ol d6 r5,
 of d7 0 r3,
 ol d8 r7,
 o d9 (.bin .eq r6 r8),
 m d10 r9,
 .g .h0 .ha true d11 (.op (.br 1 r2)),
 .g .h0 .ha true d12 (.op (.bq r11)),
 .g .h0 .ha true d13 (.op (.br 1 r3)),
 .g .h0 .ha true d14 (.op (.bq r13)),
 .g .h0 .ha true d15 (.op (.bin .seq r12 r14)),
 o d16 (.pick r10 r15 (.c (.bool false))),
 m d17 r16,
 .g .h1 .h1 true d18 (.op (.br 2 r2)),
 .g .h1 .h1 true d19 (.op (.bq r18)),
 .g .h1 .h1 true d20 (.op (.br 2 r3)),
 .g .h1 .h1 true d21 (.op (.bq r20)),
 .g .h1 .h1 true d22 (.call 286 [r19,r21,(.c (.fn 287 []))]),
 o d23 (.pick r17 r22 (.c (.bool false))),
 m d24 r23,
 .g .h1 .h8 true d25 (.op (.br 3 r2)),
 .g .h1 .h8 true d26 (.op (.bq r25)),
 .g .h1 .h8 true d27 (.op (.br 3 r3)),
 .g .h1 .h8 true d28 (.op (.bq r27)),
 .g .h1 .h8 true d29 (.call 288 [r26,r28]),
 o d30 (.pick r24 r29 (.c (.bool false))),
 m d31 r30,
 .g .h1 .hf true d32 (.op (.br 4 r2)),
 .g .h1 .hf true d33 (.op (.bq r32)),
 .g .h1 .hf true d34 (.op (.br 4 r3)),
 .g .h1 .hf true d35 (.op (.bq r34)),
 .g .h1 .hf true d36 (.call 288 [r33,r35]),
 o d37 (.pick r31 r36 (.c (.bool false))),
 m d38 r37,
 .g .h2 .h6 true d39 (.op (.br 5 r2)),
 .g .h2 .h6 true d40 (.op (.bq r39)),
 .g .h2 .h6 true d41 (.op (.br 5 r3)),
 .g .h2 .h6 true d42 (.op (.bq r41)),
 .g .h2 .h6 true d43 (.call 288 [r40,r42]),
 o d44 (.pick r38 r43 (.c (.bool false))),
 m d45 r44,
 .g .h2 .hd true d46 (.op (.br 6 r2)),
 .g .h2 .hd true d47 (.op (.bq r46)),
 .g .h2 .hd true d48 (.op (.br 6 r3)),
 .g .h2 .hd true d49 (.op (.bq r48)),
 .g .h2 .hd true d50 (.call 289 [r47,r49]),
 o d51 (.pick r45 r50 (.c (.bool false))),
 m d52 r51,
 .g .h3 .h4 true d53 (.op (.br 7 r2)),
 .g .h3 .h4 true d54 (.op (.bq r53)),
 .g .h3 .h4 true d55 (.op (.br 7 r3)),
 .g .h3 .h4 true d56 (.op (.bq r55)),
 .g .h3 .h4 true d57 (.call 290 [r54,r56,(.c (.fn 203 []))]),
 o d58 (.pick r52 r57 (.c (.bool false))),
 m d4 r58]) .ret))
def f203:AF:=.mk x203 [.t .h0 .h4]
def x204:AC:=b204
def f204:AF:=.mk x204 []
def k205_2:KF:=K4 y1 y4 y9 y10 fun c i x h a b d e=>
 .nm (T266 b d e (pi 11) a) h
def k205_4:KF:=K6 y1 y4 y8 y9 y11 y12 fun c i x h a b d e f g=>
 C c 301 [d,a,(.fn 299 [])] h fun j h=>
 x (T268 a b d e j f g) h
def k205_6:KF:=K6 y1 y4 y8 y9 y11 y12 fun c i x h a b d e f g=>
 A 0 e h fun j h=>
 W j (pi 3) h fun k h=>
 C c 302 [d,a] h fun l h=>
 E 0 l h fun m h=>
 E 1 l h fun n h=>
 A 2 e h fun o h=>
 W o m h fun p h=>
 Y n i0 h fun q h=>
 I q (.nm (T266 b e n (pi 12) a) h) (.nm (T266 b e n f g) h)
def k205_5:KF:=K7 y1 y4 y8 y9 y11 y12 y13 fun c i x h a b d e f g j=>
 C c 300 [j] h fun k h=>
 gD k false (fun l=>l j h) h fun l h=>
 gD k false (fun m=>Q l (.int .u8 (.ofNat 45)) h fun n h=>
 m n h) h fun m h=>
 tR (bQ (.c k) (.c (.bool true)) (.c m) .nil h) fun n h=>
 x (T269 a b d e f g n) h
def k205_3:KF:=K7 y1 y4 y8 y9 y11 y12 y13 fun c i x h a b d e f g j=>
 C c 299 [j] h fun k h=>
 x (T267 a b d e f g j k) h
def k205_1:KF:=K8 y0 y1 y4 y8 y9 y10 y11 y12 fun c i x h a b d e f g j k=>
 tR (eh (.c e) (.c b) .nil h) fun l h=>
 x (T265 a b d e f g j k l) h
def k205_7:KF:=K5 y4 y9 y10 y11 y12 fun c i x h a b d e f=>
 M 5 b h fun g h=>
 S 5 a g h fun j h=>
 .ret (T92 a d e f) h
def k205_0:KF:=K2 y0 y1 fun c i x h a b=>
 O 219 5 (.k1 (Y5 i0 iS i0 .ah i0)) h fun d h=>
 J a h fun e h=>
 A 0 e h fun f h=>
 L f h fun g h=>
 U [i0,iS,i0,.ah,i0] [.mk 4 1 (.c b)] h fun j h=>
 O 219 5 (.k1 (Y5 i0 iS i0 .ah i0)) h fun k h=>
 S 5 k j h fun l h=>
 D b i1 h fun m h=>
 x (T264 a b d g k m i0 i0) h
def x205:AC:=(.ag k205_0 (.seq (.ag k205_1 (.block 0 (.seq (.ops [m d28 r0,
 oc d29 207 [r28],
 m d30 r29,
 .g .h1 .he true d31 (.op (.mv r13)),
 .g .h1 .he true d32 (.call 299 [r31]),
 .g .h1 .he true d33 (.op (.mv r32)),
 .g .h2 .h1 false d34 (.op (.mv r13)),
 .g .h2 .h1 false d35 (.call 300 [r34]),
 .g .h1 .he true d36 (.op (.pick r33 (.c (.bool true)) r35)),
 .g .h1 .he true d37 (.op (.mv r36)),
 .g .h2 .h5 false d38 (.op (.mv r13)),
 .g .h2 .h5 false d39 (.op (.bin .eq r38 (.c (.int .u8 (.ofNat 45))))),
 .g .h1 .he true d40 (.op (.pick r37 (.c (.bool true)) r39)),
 .g .h1 .he true d41 (.op (.mv r40)),
 .g .h2 .h9 false d42 (.op (.mv r13)),
 .g .h2 .h9 false d43 (.op (.bin .eq r42 (.c (.int .u8 (.ofNat 34))))),
 .g .h1 .he true d44 (.op (.pick r41 (.c (.bool true)) r43)),
 o d45 (.pick r30 r44 (.c (.bool false))),
 m d27 r45]) (.cond r27 (.ag k205_2 .skip) (.ag k205_3 (.cond r47 (.ag k205_4 (.da [qf 0 d57 0 r9,
 w (os r57 a2),
 q 1 (m d53 r8),
 q 1 (m d54 r1),
 q 1 (m d55 r10),
 q 1 (o d56 (.DD r53 (.some r54) (.some r55))),
 qf 0 d58 1 r9,
 w (os r58 r56)])) (.ag k205_5 (.cond r59 (.ag k205_6 .skip) (.bad 0))))))))) (.ag k205_7 .skip)))
def f205:AF:=.mk x205 [.agg 5 .h0 .h4,.t .h0 .h5,.t .h0 .h6,.t .h0 .h7]
def k206_2:KF:=K3 y29 y30 y32 fun c i x h a b d=>
 X 5 d b h fun e h=>
 S 5 e a h fun f h=>
 .nm T17 h
def k206_1:KF:=K2 y0 y3 fun c i x h a b=>
 J a h fun d h=>
 A 1 d h fun e h=>
 L e h fun f h=>
 G f h fun g h=>
 tR (fH g i0 h) fun j h=>
 x (T270 a b g j) h
def k206_0:KF:=K2 y0 y1 fun c i x h a b=>
 B 219 b h fun d h=>
 x (T24 a d) h
def x206:AC:=(.ag k206_0 (.seq (.ag k206_1 (.cond r11 (.seq (.seq (.alt (.da [w (o d12 (.alloc 4 1 (.k1 (Y1 (.bool false))))),
 w (os r12 (.c (.bool true))),
 w (os r12 (.c (.bool false))),
 ql 0 d13 r12])
 (.da [w (o d12 (.alloc 4 1 (.k1 (Y1 (.bool false))))),
 w (os r12 (.c (.bool false))),
 w (os r12 (.c (.bool true))),
 ql 0 d13 r12])) (.cond r13 (.seq (.da [w (o d31 (.aU 219 5 1 [i0,iS,i0,.ah,i0] [.mk 0 5 (.c (.agg [i0,iS,i0,.ah,i0]))])),
 q 1 (m d14 r0),
 qj 1 d15 r14,
 qf 1 d16 1 r15,
 ql 1 d17 r16,
 q 1 (m d18 r4),
 q 1 (o d19 (.bin .sub r18 a1)),
 q 1 (m d20 r0),
 qj 1 d21 r20,
 qf 1 d22 1 r21,
 ql 1 d23 r22,
 q 1 (m d24 r4),
 q 1 (o d25 (.bin .sub r24 a1)),
 q 1 (o d26 (.bF 5 r23 r25)),
 qf 1 d27 3 r26,
 ql 1 d28 r27,
 q 1 (o d29 (.cV 5 r3)),
 q 1 (o d30 (.len r28)),
 w (o d32 (.app 219 5 r28 r31)),
 q 0 (o d33 (.bF 5 r17 r19)),
 qf 0 d34 3 r33,
 w (os r34 r32)]) (.ag k206_2 .skip)) (.da [q 0 (o d51 (.cV 5 r3)),
 w (o d52 (.aU 219 5 1 [i0,iS,i0,.ah,i0] [.mk 0 5 r51])),
 q 1 (m d42 r0),
 qj 1 d43 r42,
 qf 1 d44 1 r43,
 ql 1 d45 r44,
 q 1 (m d46 r4),
 q 1 (o d47 (.bin .sub r46 a1)),
 q 1 (o d48 (.bF 5 r45 r47)),
 qf 1 d49 3 r48,
 ql 1 d50 r49,
 w (o d53 (.app 219 5 r50 r52)),
 q 2 (m d36 r0),
 qj 2 d37 r36,
 qf 2 d38 1 r37,
 ql 2 d39 r38,
 q 2 (m d40 r4),
 q 2 (o d41 (.bin .sub r40 a1)),
 q 0 (o d54 (.bF 5 r39 r41)),
 qf 0 d55 3 r54,
 w (os r55 r53)]))) .ret) .skip)) (.alt (.da [w (o d62 (.aU 219 5 1 [i0,iS,i0,.ah,i0] [.mk 0 5 (.c (.agg [i0,iS,i0,.ah,i0]))])),
 q 1 (m d56 r0),
 qj 1 d57 r56,
 qf 1 d58 2 r57,
 ql 1 d59 r58,
 q 1 (o d60 (.cV 5 r3)),
 q 1 (o d61 (.len r59)),
 w (o d63 (.app 219 5 r59 r62)),
 q 0 (o d64 (.bF 5 r63 r61)),
 w (o .no (.gS 5 r64 r60)),
 qj 1 d65 r56,
 qf 1 d66 2 r65,
 w (os r66 r63)])
 (.da [w (o d62 (.aU 219 5 1 [i0,iS,i0,.ah,i0] [.mk 0 5 (.c (.agg [i0,iS,i0,.ah,i0]))])),
 q 1 (m d56 r0),
 qj 1 d57 r56,
 qf 1 d58 2 r57,
 ql 1 d59 r58,
 q 1 (o d60 (.cV 5 r3)),
 q 1 (o d61 (.len r59)),
 w (o d63 (.app 219 5 r59 r62)),
 qj 0 d65 r56,
 qf 0 d66 2 r65,
 w (os r66 r63),
 q 1 (o d64 (.bF 5 r63 r61)),
 w (o .no (.gS 5 r64 r60))]))))
def f206:AF:=.Dy x206 []
def k207_0:KF:=K1 y0 fun c i x h a=>
 J a h fun b h=>
 A 2 b h fun d h=>
 L d h fun e h=>
 G e h fun f h=>
 tR (fH f i0 h) fun g h=>
 .ret (T3 g) h
def x207:AC:=(.ag k207_0 .skip)
def f207:AF:=.mk x207 [.t .h0 .h2]
def k208_3:KF:=K1 y20 fun c i x h a=>
 I a (.ret (T3 i1) h) (.nm T17 h)
def k208_5:KF:=K1 y3 fun c i x h a=>
 Q a (pi 3) h fun b h=>
 I b (.ret (T3 (pi 2)) h) (.nm T17 h)
def k208_7:KF:=K1 y36 fun c i x h a=>
 I a (.ret (T3 (pi 3)) h) (.nm T17 h)
def k208_9:KF:=K1 y54 fun c i x h a=>
 I a (.ret (T3 (pi 4)) h) (.nm T17 h)
def k208_11:KF:=K1 y3 fun c i x h a=>
 Q a (pi 3) h fun b h=>
 I b (.ret (T3 (pi 5)) h) (.nm T17 h)
def k208_13:KF:=K1 y3 fun c i x h a=>
 Q a (pi 2) h fun b h=>
 I b (.ret (T3 (pi 6)) h) (.nm T17 h)
def k208_15:KF:=K1 y81 fun c i x h a=>
 I a (.ret (T3 (pi 7)) h) (.nm T17 h)
def k208_14:KF:=K3 y1 y3 y8 fun c i x h a b d=>
 tR (aC d (.str [103,114,111,117,112]) h) fun e h=>
 x (T278 a b e) h
def k208_12:KF:=K3 y1 y3 y8 fun c i x h a b d=>
 tR (aC d (.str [100,105,115,116,105,110,99,116]) h) fun e h=>
 x (T277 a b d e) h
def k208_10:KF:=K3 y1 y3 y8 fun c i x h a b d=>
 tR (aC d (.str [117,110,105,111,110]) h) fun e h=>
 x (T276 a b d e) h
def k208_8:KF:=K3 y1 y3 y8 fun c i x h a b d=>
 tR (aC d (.str [106,111,105,110]) h) fun e h=>
 x (T275 a b d e) h
def k208_6:KF:=K3 y1 y3 y8 fun c i x h a b d=>
 tR (aC d (.str [112,114,111,106,101,99,116]) h) fun e h=>
 x (T274 a b d e) h
def k208_4:KF:=K3 y1 y3 y8 fun c i x h a b d=>
 tR (aC d (.str [102,105,108,116,101,114]) h) fun e h=>
 x (T273 a b d e) h
def k208_2:KF:=K3 y1 y3 y8 fun c i x h a b d=>
 tR (aC d (.str [116,97,98,108,101]) h) fun e h=>
 x (T272 a b d e) h
def k208_1:KF:=K2 y1 y3 fun c i x h a b=>
 M 5 a h fun d h=>
 C c 304 [d] h fun e h=>
 x (T271 a b e) h
def k208_16:KF:=fun c i x r h=>
 .ret (T3 i0) h
def k208_0:KF:=K1 y0 fun c i x h a=>
 B 219 a h fun b h=>
 A 3 b h fun d h=>
 L d h fun e h=>
 G e h fun f h=>
 x (T148 b f) h
def x208:AC:=(.ag k208_0 (.seq (.ag k208_1 (.block 0 (.ag k208_2 (.cond r9 (.seq (.ops [m d11 r3,
 o d12 (.bin .eq r11 a2),
 m d13 r12,
 .g .h0 .hd true d14 (.op (.br 3 r1)),
 .g .h0 .hd true d15 (.op (.bq r14)),
 .g .h0 .hd true d16 (.op (.bF 5 r15 a1)),
 .g .h0 .hd true d17 (.op (.br 0 r16)),
 .g .h0 .hd true d18 (.op (.bq r17)),
 .g .h0 .hd true d19 (.op (.bin .eq r18 a2)),
 o d20 (.pick r13 r19 (.c (.bool false)))]) (.ag k208_3 .skip)) (.ag k208_4 (.cond r21 (.ag k208_5 .skip) (.ag k208_6 (.cond r25 (.seq (.ops [m d27 r3,
 o d28 (.bin .ge r27 (.c (pi 3))),
 m d29 r28,
 .g .h1 .hd true d30 (.op (.br 3 r1)),
 .g .h1 .hd true d31 (.op (.bq r30)),
 .g .h1 .hd true d32 (.op (.mv r3)),
 .g .h1 .hd true d33 (.op (.bin .sub r32 a1)),
 .g .h1 .hd true d34 (.op (.JZ 5 r31 (.some a1) (.some r33) .none)),
 .g .h1 .hd true d35 (.call 305 [r34,(.c (.fn 306 []))]),
 o d36 (.pick r29 r35 (.c (.bool false)))]) (.ag k208_7 .skip)) (.ag k208_8 (.cond r37 (.seq (.ops [m d39 r3,
 o d40 (.bin .eq r39 (.c (pi 5))),
 m d41 r40,
 .g .h2 .h9 true d42 (.op (.br 3 r1)),
 .g .h2 .h9 true d43 (.op (.bq r42)),
 .g .h2 .h9 true d44 (.op (.bF 5 r43 a1)),
 .g .h2 .h9 true d45 (.op (.cV 5 r44)),
 .g .h2 .h9 true d46 (.call 307 [r45]),
 o d47 (.pick r41 r46 (.c (.bool false))),
 m d48 r47,
 .g .h3 .h0 true d49 (.op (.br 3 r1)),
 .g .h3 .h0 true d50 (.op (.bq r49)),
 .g .h3 .h0 true d51 (.op (.bF 5 r50 a2)),
 .g .h3 .h0 true d52 (.op (.cV 5 r51)),
 .g .h3 .h0 true d53 (.call 307 [r52]),
 o d54 (.pick r48 r53 (.c (.bool false)))]) (.ag k208_9 .skip)) (.ag k208_10 (.cond r55 (.ag k208_11 .skip) (.ag k208_12 (.cond r59 (.ag k208_13 .skip) (.ag k208_14 (.cond r63 (.seq (.ops [m d65 r3,
 o d66 (.bin .ge r65 (.c (pi 3))),
 m d67 r66,
 .g .h4 .h3 true d68 (.op (.br 3 r1)),
 .g .h4 .h3 true d69 (.op (.bq r68)),
 .g .h4 .h3 true d70 (.op (.bF 5 r69 a1)),
 .g .h4 .h3 true d71 (.op (.cV 5 r70)),
 .g .h4 .h3 true d72 (.call 307 [r71]),
 o d73 (.pick r67 r72 (.c (.bool false))),
 m d74 r73,
 .g .h4 .ha true d75 (.op (.br 3 r1)),
 .g .h4 .ha true d76 (.op (.bq r75)),
 .g .h4 .ha true d77 (.op (.mv r3)),
 .g .h4 .ha true d78 (.op (.bin .sub r77 a1)),
 .g .h4 .ha true d79 (.op (.JZ 5 r76 (.some a2) (.some r78) .none)),
 .g .h4 .ha true d80 (.call 305 [r79,(.c (.fn 308 []))]),
 o d81 (.pick r74 r80 (.c (.bool false)))]) (.ag k208_15 .skip)) .skip)))))))))))))))) (.ag k208_16 .skip)))
def f208:AF:=.mk x208 [.t .h0 .h2]
def k209_0:KF:=K2 y0 y1 fun c i x h a b=>
 B 219 b h fun d h=>
 A 1 d h fun e h=>
 L e h fun f h=>
 C c 119 [f] h fun g h=>
 tR (bG g h) fun j h=>
 I j (A 4 d h fun k h=>
 L k h fun l h=>
 C c 139 [a,(pi 20),l] h fun m h=>
 A 1 d h fun n h=>
 L n h fun o h=>
 .ret (T9 o) h) (A 1 d h fun k h=>
 L k h fun l h=>
 .ret (T9 l) h)
def x209:AC:=(.ag k209_0 .skip)
def f209:AF:=.mk x209 [.t .h0 .h4]
def k210_0:KF:=K2 y0 y1 fun c i x h a b=>
 B 219 b h fun d h=>
 O 299 4 (.k1 (Y4 i0 iS i0 .ah)) h fun e h=>
 M 5 d h fun f h=>
 C c 309 [f] h fun g h=>
 E 0 g h fun j h=>
 E 1 g h fun k h=>
 E 2 g h fun l h=>
 O 299 4 (.k1 (Y4 i0 iS i0 .ah)) h fun m h=>
 S 4 m j h fun n h=>
 tR (bU k i0 h) fun o h=>
 I o (C c 139 [a,k,l] h fun p h=>
 M 4 m h fun q h=>
 S 4 e q h fun s h=>
 x (T9 e) h) (M 4 m h fun p h=>
 S 4 e p h fun q h=>
 x (T9 e) h)
def x210:AC:=(.ag k210_0 .ret)
def f210:AF:=.mk x210 [.agg 4 .h0 .h4]
def k211_2:KF:=K5 y0 y5 y8 y9 y10 fun c i x h a b d e f=>
 Y f e h fun g h=>
 I g (X 5 d f h fun j h=>
 M 5 j h fun k h=>
 O 219 5 (.k1 (Y5 i0 iS i0 .ah i0)) h fun l h=>
 S 5 l k h fun m h=>
 M 5 l h fun n h=>
 C c 209 [a,n] h fun o h=>
 tR (bs 9 1 1 [iS] [.mk 0 1 (.c o)] h) fun p h=>
 tR (cW 9 1 b p h) fun q h=>
 D f i1 h fun s h=>
 .nm (T279 a q d e s) h) (.ex 0 (T279 a b d e f) h)
def k211_1:KF:=K3 y0 y1 y5 fun c i x h a b d=>
 G b h fun e h=>
 x (T279 a d b e i0) h
def k211_3:KF:=K1 y5 fun c i x h a=>
 .ret (T9 a) h
def k211_0:KF:=K2 y0 y1 fun c i x h a b=>
 x (T46 a b .ah) h
def x211:AC:=(.ag k211_0 (.seq (.ag k211_1 (.block 0 (.loop (.ag k211_2 .skip)))) (.ag k211_3 .skip)))
def f211:AF:=.mk x211 [.t .h0 .h4]
def k212_3:KF:=K4 y0 y3 y4 y5 fun c i x h a b d e=>
 A 3 b h fun f h=>
 L f h fun g h=>
 G g h fun j h=>
 Q j (pi 3) h fun k h=>
 I k (A 3 b h fun l h=>
 L l h fun m h=>
 X 5 m (pi 2) h fun n h=>
 M 5 n h fun o h=>
 C c 209 [a,o] h fun p h=>
 A 2 e h fun q h=>
 W q p h fun s h=>
 M 3 e h fun t h=>
 S 3 d t h fun v h=>
 .ret (T9 d) h) (M 3 e h fun l h=>
 S 3 d l h fun m h=>
 .ret (T9 d) h)
def k212_2:KF:=K5 y0 y3 y4 y5 y6 fun c i x h a b d e f=>
 tR (bG f h) fun g h=>
 I g (A 3 b h fun j h=>
 L j h fun k h=>
 X 5 k i1 h fun l h=>
 A 4 l h fun m h=>
 L m h fun n h=>
 C c 139 [a,(pi 12),n] h fun o h=>
 x (T34 a b d e) h) (x (T34 a b d e) h)
def k212_1:KF:=K5 y0 y3 y4 y5 y6 fun c i x h a b d e f=>
 A 3 b h fun g h=>
 L g h fun j h=>
 G j h fun k h=>
 Q k (pi 2) h fun l h=>
 I l (A 1 e h fun m h=>
 L m h fun n h=>
 tR (aC n (.str [99,111,117,110,116]) h) fun o h=>
 x (T7 a b d e o) h) (x (T7 a b d e f) h)
def k212_0:KF:=K2 y0 y1 fun c i x h a b=>
 B 219 b h fun d h=>
 O 303 3 (.k1 (Y3 iS iS iS)) h fun e h=>
 x (T25 a d e) h
def x212:AC:=(.ag k212_0 (.seq (.da [q 0 (m d7 r0),
 qf 0 d8 3 r3,
 ql 0 d9 r8,
 q 0 (o d10 (.bF 5 r9 a0)),
 q 0 (o d11 (.cV 5 r10)),
 w (oc d12 209 [r7,r11]),
 qf 1 d13 3 r3,
 ql 1 d14 r13,
 q 1 (o d15 (.bF 5 r14 a1)),
 qf 1 d16 1 r15,
 ql 1 d17 r16,
 q 0 (o d18 (.build [iS,iS,iS] [.mk 0 1 r12,.mk 1 1 r17])),
 n (o d5 (.alloc 303 3 (.k1 (Y3 iS iS iS)))),
 w (o .no (.gS 3 r5 r18))]) (.seq (.ops [of d19 1 r5,
 ol d20 r19,
 o d21 (.bin .seq r20 (.c (.str [115,117,109]))),
 m d22 r21,
 .g .h1 .h6 false d23 (.op (.br 1 r5)),
 .g .h1 .h6 false d24 (.op (.bq r23)),
 .g .h1 .h6 false d25 (.op (.bin .seq r24 (.c (.str [109,105,110])))),
 o d26 (.pick r22 (.c (.bool true)) r25),
 m d27 r26,
 .g .h1 .hb false d28 (.op (.br 1 r5)),
 .g .h1 .hb false d29 (.op (.bq r28)),
 .g .h1 .hb false d30 (.op (.bin .seq r29 (.c (.str [109,97,120])))),
 o d31 (.pick r27 (.c (.bool true)) r30),
 m d6 r31]) (.ag k212_1 (.ag k212_2 (.ag k212_3 .skip))))))
def f212:AF:=.mk x212 [.agg 3 .h0 .h4]
def k213_2:KF:=K3 y0 y1 y5 fun c i x h a b d=>
 tR (dI b h) fun e h=>
 G a h fun f h=>
 Z f i1 h fun g h=>
 tR (kX (pi 9223372036854775807) g h) fun j h=>
 tR (fm e j h) fun k h=>
 x (T281 a b d k) h
def k213_3:KF:=K3 y0 y1 y5 fun c i x h a b d=>
 tR (dI b h) fun e h=>
 G a h fun f h=>
 Z f i1 h fun g h=>
 tR (gu e g h) fun j h=>
 D d j h fun k h=>
 .nm (T46 a b k) h
def k213_1:KF:=K3 y0 y1 y5 fun c i x h a b d=>
 tR (dI b h) fun e h=>
 tR (fH e i0 h) fun f h=>
 x (T280 a b d f) h
def k213_7:KF:=K7 y0 y1 y5 y7 y39 y40 y41 fun c i x h a b d e f g j=>
 tR (dI e h) fun k h=>
 Z (pi 9223372036854775807) d h fun l h=>
 tR (fH k l h) fun m h=>
 x (T284 a b d e f g j m) h
def k213_8:KF:=K7 y0 y1 y5 y7 y39 y40 y41 fun c i x h a b d e f g j=>
 tR (dI e h) fun k h=>
 D d k h fun l h=>
 .nm (T282 a b l f g j) h
def k213_6:KF:=K6 y0 y1 y5 y39 y40 y41 fun c i x h a b d e f g=>
 X 1 e g h fun j h=>
 L j h fun k h=>
 x (T283 a b d k e f g) h
def k213_9:KF:=K6 y0 y1 y5 y39 y40 y41 fun c i x h a b d e f g=>
 D g i1 h fun j h=>
 .nm (T282 a b d e f j) h
def k213_5:KF:=K6 y0 y1 y5 y39 y40 y41 fun c i x h a b d e f g=>
 Y g f h fun j h=>
 I j (x (T282 a b d e f g) h) (.ex 1 (T46 a b d) h)
def k213_4:KF:=K3 y0 y1 y5 fun c i x h a b d=>
 G a h fun e h=>
 x (T282 a b d a e i0) h
def k213_12:KF:=K5 y1 y8 y63 y64 y65 fun c i x h a b d e f=>
 Y f e h fun g h=>
 I g (X 1 d f h fun j h=>
 L j h fun k h=>
 C c 311 [b,a] h fun l h=>
 C c 311 [b,k] h fun m h=>
 D f i1 h fun n h=>
 .nm (T286 a b d e n) h) (.ex 3 (T286 a b d e f) h)
def k213_11:KF:=K3 y0 y1 y8 fun c i x h a b d=>
 tR (cq 1 (.c a) (.some (.c i1)) .none .none .nil h) fun e h=>
 G e h fun f h=>
 x (T286 b d e f i0) h
def k213_13:KF:=K1 y8 fun c i x h a=>
 C c 312 [a] h fun b h=>
 .ret (T9 b) h
def k213_10:KF:=K3 y0 y1 y5 fun c i x h a b d=>
 O 391 2 (.k1 (Y2 .dS .ah)) h fun e h=>
 C c 310 [e,d] h fun f h=>
 X 1 a i0 h fun g h=>
 L g h fun j h=>
 C c 311 [e,j] h fun k h=>
 x (T285 a b e) h
def k213_0:KF:=K2 y0 y1 fun c i x h a b=>
 G a h fun d h=>
 Q d i0 h fun e h=>
 I e (.ret (T9 iS) h) (Q d i1 h fun f h=>
 I f (X 1 a i0 h fun g h=>
 L g h fun j h=>
 .ret (T9 j) h) (x (T46 a b i0) h))
def x213:AC:=(.ag k213_0 (.seq (.ag k213_1 (.cond r22 (.seq (.ag k213_2 (.cond r29 (.ops [o d30 (.Ie 9 (.c (.str [115,116,114,105,110,103,115,58,32,74,111,105,110,32,111,117,116,112,117,116,32,108,101,110,103,116,104,32,111,118,101,114,102,108,111,119]))),
 o .no (.bad 400)]) .skip)) (.ag k213_3 .skip)) .skip)) (.seq (.ag k213_4 (.block 1 (.loop (.ag k213_5 (.seq (.block 2 (.ag k213_6 (.seq (.ag k213_7 (.cond r49 (.ops [o d50 (.Ie 9 (.c (.str [115,116,114,105,110,103,115,58,32,74,111,105,110,32,111,117,116,112,117,116,32,108,101,110,103,116,104,32,111,118,101,114,102,108,111,119]))),
 o .no (.bad 400)]) .skip)) (.ag k213_8 .skip)))) (.ag k213_9 .skip)))))) (.ag k213_10 (.seq (.ag k213_11 (.block 3 (.loop (.ag k213_12 .skip)))) (.ag k213_13 .skip))))))
def f213:AF:=.mk x213 [.t .h0 .h4]
def k214_0:KF:=K2 y0 y1 fun c i x h a b=>
 C c 313 [a,b] h fun d h=>
 .ret (T9 d) h
def x214:AC:=(.ag k214_0 .skip)
def f214:AF:=.mk x214 [.t .h0 .h4]
def k217_0:KF:=K1 y0 fun c i x h a=>
 O 219 5 (.k1 (Y5 i0 iS i0 .ah i0)) h fun b h=>
 U [i0,iS,i0,.ah,i0] [.mk 0 1 (.c i1),.mk 3 1 (.c a)] h fun d h=>
 S 5 b d h fun e h=>
 .ret (T3 b) h
def x217:AC:=(.ag k217_0 .skip)
def f217:AF:=.mk x217 [.agg 5 .h0 .h2]
def k218_0:KF:=K1 y0 fun c i x h a=>
 O 219 5 (.k1 (Y5 i0 iS i0 .ah i0)) h fun b h=>
 U [i0,iS,i0,.ah,i0] [.mk 0 1 (.c (pi 2)),.mk 1 1 (.c a)] h fun d h=>
 S 5 b d h fun e h=>
 .ret (T3 b) h
def x218:AC:=(.ag k218_0 .skip)
def f218:AF:=.mk x218 [.agg 5 .h0 .h2]
def k219_5:KF:=K5 y2 y3 y33 y34 y35 fun c i x h a b d e f=>
 X 4 d f h fun g h=>
 M 4 g h fun j h=>
 O 299 4 (.k1 (Y4 i0 iS i0 .ah)) h fun k h=>
 S 4 k j h fun l h=>
 x (T288 a b k d e f) h
def k219_6:KF:=K5 y2 y3 y33 y34 y35 fun c i x h a b d e f=>
 D f i1 h fun g h=>
 .nm (T287 a b d e g) h
def k219_4:KF:=K5 y2 y3 y33 y34 y35 fun c i x h a b d e f=>
 Y f e h fun g h=>
 I g (x (T287 a b d e f) h) (.ex 1 (T2 a b) h)
def k219_3:KF:=K3 y1 y2 y3 fun c i x h a b d=>
 A 3 a h fun e h=>
 L e h fun f h=>
 G f h fun g h=>
 x (T287 b d f g i0) h
def k219_7:KF:=K2 y2 y3 fun c i x h a b=>
 M 5 b h fun d h=>
 S 5 a d h fun e h=>
 .ret (T3 a) h
def k219_2:KF:=K2 y1 y2 fun c i x h a b=>
 A 1 a h fun d h=>
 L d h fun e h=>
 U [i0,iS,i0,.ah,i0] [.mk 0 1 (.c (pi 2)),.mk 1 1 (.c e)] h fun f h=>
 tR (bs 219 5 1 [i0,iS,i0,.ah,i0] [.mk 0 5 (.c f)] h) fun g h=>
 U [i0,iS,i0,.ah,i0] [.mk 0 1 (.c i1),.mk 3 1 (.c g)] h fun j h=>
 O 219 5 (.k1 (Y5 i0 iS i0 .ah i0)) h fun k h=>
 S 5 k j h fun l h=>
 x (T150 a b k) h
def k219_1:KF:=K2 y1 y2 fun c i x h a b=>
 A 0 a h fun d h=>
 L d h fun e h=>
 Q e i1 h fun f h=>
 I f (A 1 a h fun g h=>
 L g h fun j h=>
 U [i0,iS,i0,.ah,i0] [.mk 0 1 (.c (pi 2)),.mk 1 1 (.c j)] h fun k h=>
 S 5 b k h fun l h=>
 .ret (T3 b) h) (Q e (pi 2) h fun g h=>
 I g (A 2 a h fun j h=>
 L j h fun k h=>
 U [i0,iS,i0,.ah,i0] [.mk 0 1 (.c (pi 3)),.mk 2 1 (.c k)] h fun l h=>
 S 5 b l h fun m h=>
 .ret (T3 b) h) (Q e (pi 3) h fun j h=>
 I j (A 1 a h fun k h=>
 L k h fun l h=>
 U [i0,iS,i0,.ah,i0] [.mk 0 1 (.c (pi 4)),.mk 1 1 (.c l)] h fun m h=>
 S 5 b m h fun n h=>
 .ret (T3 b) h) (x (T21 a b) h)))
def k219_0:KF:=K1 y0 fun c i x h a=>
 B 299 a h fun b h=>
 O 219 5 (.k1 (Y5 i0 iS i0 .ah i0)) h fun d h=>
 M 4 b h fun e h=>
 C c 314 [e] h fun f h=>
 tR (bG f h) fun g h=>
 I g (U [i0,iS,i0,.ah,i0] [.mk 0 1 (.c i1)] h fun j h=>
 S 5 d j h fun k h=>
 .ret (T3 d) h) (x (T21 b d) h)
def x219:AC:=(.ag k219_0 (.ag k219_1 (.ag k219_2 (.seq (.ag k219_3 (.block 1 (.loop (.ag k219_4 (.seq (.block 2 (.ag k219_5 (.da [q 0 (o d41 (.cV 4 r5)),
 w (oc d42 219 [r41]),
 w (o d43 (.aU 219 5 1 [i0,iS,i0,.ah,i0] [.mk 0 5 r42])),
 qf 2 d39 3 r3,
 ql 2 d40 r39,
 w (o d44 (.app 219 5 r40 r43)),
 qf 0 d45 3 r3,
 w (os r45 r44)]))) (.ag k219_6 .skip)))))) (.ag k219_7 .skip)))))
def f219:AF:=.mk x219 [.agg 5 .h0 .h2]
def k220_3:KF:=K5 y2 y3 y7 y8 y9 fun c i x h a b d e f=>
 X 1 d f h fun g h=>
 L g h fun j h=>
 x (T291 a b j d e f) h
def k220_4:KF:=K5 y2 y3 y7 y8 y9 fun c i x h a b d e f=>
 D f i1 h fun g h=>
 .nm (T290 a b d e g) h
def k220_2:KF:=K5 y2 y3 y7 y8 y9 fun c i x h a b d e f=>
 Y f e h fun g h=>
 I g (x (T290 a b d e f) h) (.ex 0 (T2 a b) h)
def k220_1:KF:=K3 y0 y2 y3 fun c i x h a b d=>
 G a h fun e h=>
 x (T290 b d a e i0) h
def k220_5:KF:=K2 y2 y3 fun c i x h a b=>
 M 5 b h fun d h=>
 S 5 a d h fun e h=>
 .ret (T3 a) h
def k220_0:KF:=K1 y0 fun c i x h a=>
 O 219 5 (.k1 (Y5 i0 iS i0 .ah i0)) h fun b h=>
 C c 217 [.ah] h fun d h=>
 O 219 5 (.k1 (Y5 i0 iS i0 .ah i0)) h fun e h=>
 S 5 e d h fun f h=>
 x (T289 a b e) h
def x220:AC:=(.ag k220_0 (.seq (.ag k220_1 (.block 0 (.loop (.ag k220_2 (.seq (.block 1 (.ag k220_3 (.da [q 0 (m d15 r5),
 w (oc d16 218 [r15]),
 w (o d17 (.aU 219 5 1 [i0,iS,i0,.ah,i0] [.mk 0 5 r16])),
 qf 2 d13 3 r3,
 ql 2 d14 r13,
 w (o d18 (.app 219 5 r14 r17)),
 qf 0 d19 3 r3,
 w (os r19 r18)]))) (.ag k220_4 .skip)))))) (.ag k220_5 .skip)))
def f220:AF:=.mk x220 [.agg 5 .h0 .h2]
def k221_0:KF:=K2 y0 y1 fun c i x h a b=>
 tR (cK (.Om .f64) a h) fun d h=>
 tR (cK (.Om .f64) b h) fun e h=>
 tR (jN .f64 (.c d) (.c e) .nil h) fun f h=>
 .ret (T9 f) h
def x221:AC:=(.ag k221_0 .skip)
def f221:AF:=.mk x221 [.t .h0 .h4]
def x222:AC:=b222
def f222:AF:=.mk x222 [.t .h0 .h4]
def x223:AC:=b223
def f223:AF:=.mk x223 [.t .h0 .h2]
def x224:AC:=b224
def f224:AF:=.mk x224 []
def x225:AC:=b225
def f225:AF:=.mk x225 [.t .h0 .h3]
def k226_4:KF:=K5 y0 y11 y12 y13 y26 fun c i x h a b d e f=>
 I f (.ret (T2 .ah i1) h) (.nm (T298 a b d e) h)
def k226_3:KF:=K4 y0 y11 y12 y13 fun c i x h a b d e=>
 X 2 b e h fun f h=>
 M 2 f h fun g h=>
 O 142 2 (.k1 (Y2 .ah (.cG .f64 0 0))) h fun j h=>
 S 2 j g h fun k h=>
 x (T299 a j b d e) h
def k226_5:KF:=K4 y0 y11 y12 y13 fun c i x h a b d e=>
 D e i1 h fun f h=>
 .nm (T298 a b d f) h
def k226_2:KF:=K4 y0 y11 y12 y13 fun c i x h a b d e=>
 Y e d h fun f h=>
 I f (x (T298 a b d e) h) (.ex 0 (T0 a) h)
def k226_1:KF:=K1 y0 fun c i x h a=>
 G a h fun b h=>
 x (T298 a a b i0) h
def k226_10:KF:=K6 y0 y6 y7 y8 y9 y53 fun c i x h a b d e f g=>
 I g (.nm (T301 a b d e f) h) (.ex 4 (T301 a b d e f) h)
def k226_12:KF:=K5 y0 y6 y7 y8 y9 fun c i x h a b d e f=>
 D d i1 h fun g h=>
 .nm (T301 a b g e f) h
def k226_11:KF:=K5 y0 y6 y7 y8 y9 fun c i x h a b d e f=>
 X 2 a d h fun g h=>
 A 1 g h fun j h=>
 L j h fun k h=>
 C c 327 [f,k] h fun l h=>
 E 0 l h fun m h=>
 E 1 l h fun n h=>
 tR (bG n h) fun o h=>
 I o (.ret (T2 .ah (pi 27)) h) (x (T301 a b d e m) h)
def k226_13:KF:=K5 y0 y6 y7 y8 y9 fun c i x h a b d e f=>
 tR (bK (.NM .neq) f (.cG .f64 0 0) h) fun g h=>
 I g (C c 106 [e,f] h fun j h=>
 tR (bs 142 2 1 [.ah,(.cG .f64 0 0)] [.mk 0 2 (.c j)] h) fun k h=>
 tR (cW 142 2 b k h) fun l h=>
 .nm (T300 a l d) h) (.nm (T300 a b d) h)
def k226_9:KF:=K3 y0 y6 y7 fun c i x h a b d=>
 X 2 a d h fun e h=>
 A 0 e h fun f h=>
 L f h fun g h=>
 x (T301 a b d g (.cG .f64 0 0)) h
def k226_8:KF:=K3 y0 y6 y7 fun c i x h a b d=>
 G a h fun e h=>
 Y d e h fun f h=>
 I f (x (T300 a b d) h) (.ex 2 (T6 b) h)
def k226_7:KF:=K2 y0 y6 fun c i x h a b=>
 x (T300 a b i0) h
def k226_14:KF:=K1 y6 fun c i x h a=>
 .ret (T2 a i0) h
def k226_6:KF:=K1 y0 fun c i x h a=>
 C c 324 [a] h fun b h=>
 C c 325 [b,(.fn 326 [])] h fun d h=>
 x (T53 b .ah) h
def k226_0:KF:=K1 y0 fun c i x h a=>
 x (T0 a) h
def x226:AC:=(.ag k226_0 (.seq (.ag k226_1 (.block 0 (.loop (.ag k226_2 (.seq (.block 1 (.ag k226_3 (.seq (.ops [of d17 0 r5,
 ol d18 r17,
 oc d19 114 [r18],
 o d20 (.un .not r19),
 m d21 r20,
 .g .h1 .h5 false d22 (.op (.br 1 r5)),
 .g .h1 .h5 false d23 (.op (.bq r22)),
 .g .h1 .h5 false d24 (.call 115 [r23]),
 .g .h1 .h5 false d25 (.op (.un .not r24)),
 o d26 (.pick r21 (.c (.bool true)) r25)]) (.ag k226_4 .skip)))) (.ag k226_5 .skip)))))) (.ag k226_6 (.seq (.ag k226_7 (.block 2 (.loop (.ag k226_8 (.block 3 (.ag k226_9 (.seq (.block 4 (.loop (.seq (.seq (.ops [m d41 r7,
 m d42 r0,
 o d43 (.len r42),
 o d44 (.bin .lt r41 r43),
 m d45 r44,
 .g .h2 .hd true d46 (.op (.mv r0)),
 .g .h2 .hd true d47 (.op (.mv r7)),
 .g .h2 .hd true d48 (.op (.bF 2 r46 r47)),
 .g .h2 .hd true d49 (.op (.br 0 r48)),
 .g .h2 .hd true d50 (.op (.bq r49)),
 .g .h2 .hd true d51 (.op (.mv r8)),
 .g .h2 .hd true d52 (.call 75 [r50,r51]),
 o d53 (.pick r45 r52 (.c (.bool false)))]) (.ag k226_10 .skip)) (.ag k226_11 (.ag k226_12 .skip))))) (.ag k226_13 .skip)))))))) (.ag k226_14 .skip)))))
def f226:AF:=.mk x226 [.t .h0 .h2,.t .h0 .h3]
def x227:AC:=b227
def f227:AF:=.mk x227 [.t .h0 .h2]
def x228:AC:=b228
def f228:AF:=.mk x228 [.t .h0 .h2]
def x229:AC:=b229
def f229:AF:=.mk x229 [.t .h0 .h4]
def k230_0:KF:=K1 y0 fun c i x h a=>
 tR (fm a (.int .u8 (.ofNat 97)) h) fun b h=>
 gD b true (fun d=>d a h) h fun d h=>
 gD b true (fun e=>tR (oZ d (.int .u8 (.ofNat 122)) h) fun f h=>
 e f h) h fun e h=>
 tR (bQ (.c b) (.c e) (.c (.bool false)) .nil h) fun f h=>
 .ret (T3 f) h
def x230:AC:=(.ag k230_0 .skip)
def f230:AF:=.mk x230 [.t .h0 .h2]
def k231_0:KF:=K1 y0 fun c i x h a=>
 tR (fm a (.int .u8 (.ofNat 48)) h) fun b h=>
 gD b true (fun d=>d a h) h fun d h=>
 gD b true (fun e=>tR (oZ d (.int .u8 (.ofNat 57)) h) fun f h=>
 e f h) h fun e h=>
 tR (bQ (.c b) (.c e) (.c (.bool false)) .nil h) fun f h=>
 .ret (T3 f) h
def x231:AC:=(.ag k231_0 .skip)
def f231:AF:=.mk x231 [.t .h0 .h2]
def k232_4:KF:=K5 y0 y1 y4 y12 y48 fun c i x h a b d e f=>
 I f (.nm (T307 a b d e) h) (.ex 0 (T307 a b d e) h)
def k232_5:KF:=K4 y0 y1 y4 y12 fun c i x h a b d e=>
 D e i1 h fun f h=>
 .nm (T307 a b d f) h
def k232_6:KF:=K4 y0 y1 y4 y12 fun c i x h a b d e=>
 tR (fS (.c a) (.some (.c b)) (.some (.c e)) .nil h) fun f h=>
 U [i0,iS,i0,.ah,i0] [.mk 0 1 (.c (pi 2)),.mk 1 1 (.c f),.mk 4 1 (.c b)] h fun g h=>
 S 5 d g h fun j h=>
 .ret (T92 d e i0 i0) h
def k232_3:KF:=K3 y0 y1 y4 fun c i x h a b d=>
 x (T307 a b d b) h
def k232_2:KF:=K3 y0 y1 y4 fun c i x h a b d=>
 tR (eh (.c a) (.c b) .nil h) fun e h=>
 C c 230 [e] h fun f h=>
 x (T306 a b d f) h
def k232_8:KF:=K4 y1 y4 y13 y14 fun c i x h a b d e=>
 U [i0,iS,i0,.ah,i0] [.mk 0 1 (.c (pi 3)),.mk 2 1 (.c d),.mk 4 1 (.c a)] h fun f h=>
 S 5 b f h fun g h=>
 .ret (T92 b e i0 i0) h
def k232_7:KF:=K3 y0 y1 y4 fun c i x h a b d=>
 C c 330 [a,b] h fun e h=>
 E 0 e h fun f h=>
 E 1 e h fun g h=>
 E 2 e h fun j h=>
 tR (bG j h) fun k h=>
 I k (U [i0,iS,i0,.ah,i0] [] h fun l h=>
 S 5 d l h fun m h=>
 .ret (T92 d i0 (pi 12) b) h) (x (T308 b d f g) h)
def k232_1:KF:=K3 y0 y1 y4 fun c i x h a b d=>
 tR (eh (.c a) (.c b) .nil h) fun e h=>
 Q e (.int .u8 (.ofNat 34)) h fun f h=>
 I f (C c 329 [a,b] h fun g h=>
 E 0 g h fun j h=>
 E 1 g h fun k h=>
 E 2 g h fun l h=>
 E 3 g h fun m h=>
 U [i0,iS,i0,.ah,i0] [.mk 0 1 (.c (pi 4)),.mk 1 1 (.c j),.mk 4 1 (.c b)] h fun n h=>
 S 5 d n h fun o h=>
 .ret (T92 d k l m) h) (x (T305 a b d) h)
def k232_0:KF:=K2 y0 y1 fun c i x h a b=>
 O 241 5 (.k1 (Y5 i0 iS i0 .ah i0)) h fun d h=>
 x (T305 a b d) h
def x232:AC:=(.ag k232_0 (.ag k232_1 (.seq (.ag k232_2 (.cond r37 (.ag k232_3 (.seq (.block 0 (.loop (.seq (.seq (.ops [m d39 r12,
 m d40 r0,
 o d41 (.dI r40),
 o d42 (.bin .lt r39 r41),
 m d43 r42,
 .g .h2 .hb true d44 (.op (.mv r0)),
 .g .h2 .hb true d45 (.op (.mv r12)),
 .g .h2 .hb true d46 (.op (.idxs r44 r45)),
 .g .h2 .hb true d47 (.call 230 [r46]),
 o d48 (.pick r43 r47 (.c (.bool false)))]) (.ag k232_4 .skip)) (.ag k232_5 .skip)))) (.ag k232_6 .skip))) .skip)) (.ag k232_7 (.ag k232_8 .skip)))))
def f232:AF:=.mk x232 [.agg 5 .h0 .h4,.t .h0 .h5,.t .h0 .h6,.t .h0 .h7]
def k233_4:KF:=K1 y4 fun c i x h a=>
 Q a (pi 3) h fun b h=>
 .ret (T3 b) h
def k233_6:KF:=K1 y4 fun c i x h a=>
 Q a (pi 2) h fun b h=>
 .ret (T3 b) h
def k233_11:KF:=K4 y3 y4 y5 y69 fun c i x h a b d e=>
 I e (.ret (T3 (.bool false)) h) (.nm (T315 a b d) h)
def k233_12:KF:=K3 y3 y4 y5 fun c i x h a b d=>
 D d i1 h fun e h=>
 .nm (T315 a b e) h
def k233_10:KF:=K3 y3 y4 y5 fun c i x h a b d=>
 Z b i1 h fun e h=>
 Y d e h fun f h=>
 I f (x (T315 a b d) h) (.ex 1 T17 h)
def k233_9:KF:=K2 y3 y4 fun c i x h a b=>
 x (T315 a b i1) h
def k233_13:KF:=fun c i x r h=>
 .ret (T3 (.bool true)) h
def k233_8:KF:=K2 y3 y4 fun c i x h a b=>
 Y b (pi 3) h fun d h=>
 I d (.ret (T3 (.bool false)) h) (x (T314 a b) h)
def k233_16:KF:=K3 y3 y4 y120 fun c i x h a b d=>
 I d (.ret (T3 (.bool false)) h) (.nm (T314 a b) h)
def k233_20:KF:=K4 y3 y4 y6 y151 fun c i x h a b d e=>
 I e (.ret (T3 (.bool false)) h) (.nm (T318 a b d) h)
def k233_19:KF:=K3 y3 y4 y6 fun c i x h a b d=>
 X 5 a d h fun e h=>
 M 5 e h fun f h=>
 O 241 5 (.k1 (Y5 i0 iS i0 .ah i0)) h fun g h=>
 S 5 g f h fun j h=>
 x (T319 a b d g) h
def k233_21:KF:=K3 y3 y4 y6 fun c i x h a b d=>
 D d i1 h fun e h=>
 .nm (T318 a b e) h
def k233_18:KF:=K3 y3 y4 y6 fun c i x h a b d=>
 Z b i1 h fun e h=>
 Y d e h fun f h=>
 I f (x (T318 a b d) h) (.ex 3 T17 h)
def k233_17:KF:=K2 y3 y4 fun c i x h a b=>
 x (T318 a b (pi 2)) h
def k233_22:KF:=fun c i x r h=>
 .ret (T3 (.bool true)) h
def k233_15:KF:=K3 y3 y4 y13 fun c i x h a b d=>
 tR (aC d (.str [103,114,111,117,112]) h) fun e h=>
 x (T317 a b e) h
def k233_14:KF:=K3 y3 y4 y13 fun c i x h a b d=>
 tR (aC d (.str [106,111,105,110]) h) fun e h=>
 x (T316 a b d e) h
def k233_7:KF:=K3 y3 y4 y13 fun c i x h a b d=>
 tR (aC d (.str [112,114,111,106,101,99,116]) h) fun e h=>
 x (T313 a b d e) h
def k233_5:KF:=K3 y3 y4 y13 fun c i x h a b d=>
 tR (aC d (.str [100,105,115,116,105,110,99,116]) h) fun e h=>
 x (T312 a b d e) h
def k233_3:KF:=K3 y3 y4 y13 fun c i x h a b d=>
 tR (aC d (.str [102,105,108,116,101,114]) h) fun e h=>
 I e (x (T311 a b d e) h) (tR (aC d (.str [117,110,105,111,110]) h) fun f h=>
 x (T311 a b d f) h)
def k233_2:KF:=K3 y3 y4 y13 fun c i x h a b d=>
 tR (aC d (.str [116,97,98,108,101]) h) fun e h=>
 x (T310 a b d e) h
def k233_1:KF:=K3 y1 y3 y4 fun c i x h a b d=>
 M 5 a h fun e h=>
 C c 234 [e] h fun f h=>
 x (T309 b d f) h
def k233_23:KF:=fun c i x r h=>
 .ret (T3 (.bool false)) h
def k233_0:KF:=K1 y0 fun c i x h a=>
 B 241 a h fun b h=>
 A 3 b h fun d h=>
 L d h fun e h=>
 G e h fun f h=>
 x (T170 b e f) h
def x233:AC:=(.ag k233_0 (.seq (.ag k233_1 (.block 0 (.ag k233_2 (.cond r14 (.seq (.ops [m d16 r4,
 o d17 (.bin .eq r16 a2),
 m d18 r17,
 .g .h1 .h2 true d19 (.op (.mv r3)),
 .g .h1 .h2 true d20 (.op (.bF 5 r19 a1)),
 .g .h1 .h2 true d21 (.op (.br 0 r20)),
 .g .h1 .h2 true d22 (.op (.bq r21)),
 .g .h1 .h2 true d23 (.op (.bin .eq r22 a2)),
 o d24 (.pick r18 r23 (.c (.bool false))),
 m d2 r24]) .ret) (.ag k233_3 (.cond r25 (.ag k233_4 .skip) (.ag k233_5 (.cond r30 (.ag k233_6 .skip) (.ag k233_7 (.cond r34 (.ag k233_8 (.seq (.ag k233_9 (.block 1 (.loop (.ag k233_10 (.seq (.block 2 (.seq (.ops [m d44 r3,
 m d45 r5,
 o d46 (.bF 5 r44 r45),
 of d47 0 r46,
 ol d48 r47,
 o d49 (.bin .ne r48 a1),
 m d50 r49,
 .g .h3 .h2 false d51 (.op (.mv r3)),
 .g .h3 .h2 false d52 (.op (.mv r5)),
 .g .h3 .h2 false d53 (.op (.bF 5 r51 r52)),
 .g .h3 .h2 false d54 (.op (.br 3 r53)),
 .g .h3 .h2 false d55 (.op (.bq r54)),
 .g .h3 .h2 false d56 (.op (.len r55)),
 .g .h3 .h2 false d57 (.op (.bin .ne r56 a2)),
 o d58 (.pick r50 (.c (.bool true)) r57),
 m d59 r58,
 .g .h3 .hb false d60 (.op (.mv r3)),
 .g .h3 .hb false d61 (.op (.mv r5)),
 .g .h3 .hb false d62 (.op (.bF 5 r60 r61)),
 .g .h3 .hb false d63 (.op (.br 3 r62)),
 .g .h3 .hb false d64 (.op (.bq r63)),
 .g .h3 .hb false d65 (.op (.bF 5 r64 a0)),
 .g .h3 .hb false d66 (.op (.br 0 r65)),
 .g .h3 .hb false d67 (.op (.bq r66)),
 .g .h3 .hb false d68 (.op (.bin .ne r67 a2)),
 o d69 (.pick r59 (.c (.bool true)) r68)]) (.ag k233_11 .skip))) (.ag k233_12 .skip)))))) (.ag k233_13 .skip))) (.ag k233_14 (.cond r70 (.seq (.ops [m d72 r4,
 o d73 (.bin .eq r72 (.c (pi 5))),
 m d74 r73,
 .g .h4 .ha true d75 (.op (.mv r3)),
 .g .h4 .ha true d76 (.op (.bF 5 r75 a1)),
 .g .h4 .ha true d77 (.op (.br 0 r76)),
 .g .h4 .ha true d78 (.op (.bq r77)),
 .g .h4 .ha true d79 (.op (.bin .eq r78 a1)),
 o d80 (.pick r74 r79 (.c (.bool false))),
 m d81 r80,
 .g .h5 .h1 true d82 (.op (.mv r3)),
 .g .h5 .h1 true d83 (.op (.bF 5 r82 a2)),
 .g .h5 .h1 true d84 (.op (.br 0 r83)),
 .g .h5 .h1 true d85 (.op (.bq r84)),
 .g .h5 .h1 true d86 (.op (.bin .eq r85 a1)),
 o d87 (.pick r81 r86 (.c (.bool false))),
 m d88 r87,
 .g .h5 .h8 true d89 (.op (.mv r3)),
 .g .h5 .h8 true d90 (.op (.bF 5 r89 a1)),
 .g .h5 .h8 true d91 (.op (.br 3 r90)),
 .g .h5 .h8 true d92 (.op (.bq r91)),
 .g .h5 .h8 true d93 (.call 331 [r92]),
 o d94 (.pick r88 r93 (.c (.bool false))),
 m d95 r94,
 .g .h5 .hf true d96 (.op (.mv r3)),
 .g .h5 .hf true d97 (.op (.bF 5 r96 a2)),
 .g .h5 .hf true d98 (.op (.br 3 r97)),
 .g .h5 .hf true d99 (.op (.bq r98)),
 .g .h5 .hf true d100 (.call 331 [r99]),
 o d101 (.pick r95 r100 (.c (.bool false))),
 m d2 r101]) .ret) (.ag k233_15 (.cond r102 (.seq (.seq (.ops [m d104 r4,
 o d105 (.bin .lt r104 (.c (pi 3))),
 m d106 r105,
 .g .h6 .ha false d107 (.op (.mv r3)),
 .g .h6 .ha false d108 (.op (.bF 5 r107 a1)),
 .g .h6 .ha false d109 (.op (.br 0 r108)),
 .g .h6 .ha false d110 (.op (.bq r109)),
 .g .h6 .ha false d111 (.op (.bin .ne r110 a1)),
 o d112 (.pick r106 (.c (.bool true)) r111),
 m d113 r112,
 .g .h7 .h1 false d114 (.op (.mv r3)),
 .g .h7 .h1 false d115 (.op (.bF 5 r114 a1)),
 .g .h7 .h1 false d116 (.op (.br 3 r115)),
 .g .h7 .h1 false d117 (.op (.bq r116)),
 .g .h7 .h1 false d118 (.call 331 [r117]),
 .g .h7 .h1 false d119 (.op (.un .not r118)),
 o d120 (.pick r113 (.c (.bool true)) r119)]) (.ag k233_16 .skip)) (.seq (.ag k233_17 (.block 3 (.loop (.ag k233_18 (.seq (.block 4 (.ag k233_19 (.seq (.ops [of d131 0 r7,
 ol d132 r131,
 o d133 (.bin .ne r132 a1),
 m d134 r133,
 .g .h8 .h6 false d135 (.op (.br 3 r7)),
 .g .h8 .h6 false d136 (.op (.bq r135)),
 .g .h8 .h6 false d137 (.call 331 [r136]),
 .g .h8 .h6 false d138 (.op (.un .not r137)),
 o d139 (.pick r134 (.c (.bool true)) r138),
 m d140 r139,
 .g .h8 .hc false d141 (.op (.br 3 r7)),
 .g .h8 .hc false d142 (.op (.bq r141)),
 .g .h8 .hc false d143 (.op (.len r142)),
 .g .h8 .hc false d144 (.op (.bin .ne r143 a2)),
 .g .h8 .hc false d145 (.op (.mv r144)),
 .g .h9 .h1 true d146 (.op (.br 3 r7)),
 .g .h9 .h1 true d147 (.op (.bq r146)),
 .g .h9 .h1 true d148 (.op (.len r147)),
 .g .h9 .h1 true d149 (.op (.bin .ne r148 (.c (pi 3)))),
 .g .h8 .hc false d150 (.op (.pick r145 r149 (.c (.bool false)))),
 o d151 (.pick r140 (.c (.bool true)) r150)]) (.ag k233_20 .skip)))) (.ag k233_21 .skip)))))) (.ag k233_22 .skip))) .skip)))))))))))))) (.ag k233_23 .skip)))
def f233:AF:=.mk x233 [.t .h0 .h2]
def k234_1:KF:=K2 y1 y19 fun c i x h a b=>
 I b (A 3 a h fun d h=>
 L d h fun e h=>
 X 5 e i0 h fun f h=>
 A 1 f h fun g h=>
 L g h fun j h=>
 .ret (T3 j) h) (.nm T17 h)
def k234_2:KF:=fun c i x r h=>
 .ret (T3 iS) h
def k234_0:KF:=K1 y0 fun c i x h a=>
 B 241 a h fun b h=>
 x (T1 b) h
def x234:AC:=(.ag k234_0 (.seq (.seq (.ops [of d3 0 r1,
 ol d4 r3,
 o d5 (.bin .eq r4 a1),
 m d6 r5,
 .g .h0 .h6 true d7 (.op (.br 3 r1)),
 .g .h0 .h6 true d8 (.op (.bq r7)),
 .g .h0 .h6 true d9 (.op (.len r8)),
 .g .h0 .h6 true d10 (.op (.bin .gt r9 a0)),
 o d11 (.pick r6 r10 (.c (.bool false))),
 m d12 r11,
 .g .h0 .hc true d13 (.op (.br 3 r1)),
 .g .h0 .hc true d14 (.op (.bq r13)),
 .g .h0 .hc true d15 (.op (.bF 5 r14 a0)),
 .g .h0 .hc true d16 (.op (.br 0 r15)),
 .g .h0 .hc true d17 (.op (.bq r16)),
 .g .h0 .hc true d18 (.op (.bin .eq r17 a2)),
 o d19 (.pick r12 r18 (.c (.bool false)))]) (.ag k234_1 .skip)) (.ag k234_2 .skip)))
def f234:AF:=.mk x234 [.t .h0 .h2]
def k235_0:KF:=K1 y0 fun c i x h a=>
 B 241 a h fun b h=>
 A 1 b h fun d h=>
 L d h fun e h=>
 C c 96 [e] h fun f h=>
 tR (bG f h) fun g h=>
 I g (tQ (fA 4 b h) fun j=>
 tQ (lD j h) fun k=>
 .ret (T4 iS (pi 20) k) h) (A 1 b h fun j h=>
 L j h fun k h=>
 .ret (T4 k i0 i0) h)
def x235:AC:=(.ag k235_0 .skip)
def f235:AF:=.mk x235 [.t .h0 .h2,.t .h0 .h3,.t .h0 .h4]
def k236_3:KF:=K2 y1 y2 fun c i x h a b=>
 A 1 a h fun d h=>
 L d h fun e h=>
 C c 96 [e] h fun f h=>
 tR (bG f h) fun g h=>
 x (T322 a b g) h
def k236_4:KF:=K2 y1 y2 fun c i x h a b=>
 A 1 a h fun d h=>
 L d h fun e h=>
 U [i0,iS,i0,.ah] [.mk 0 1 (.c i1),.mk 1 1 (.c e)] h fun f h=>
 S 4 b f h fun g h=>
 .ret (T4 b i0 i0) h
def k236_5:KF:=K3 y1 y2 y11 fun c i x h a b d=>
 Q d (pi 3) h fun e h=>
 I e (A 2 a h fun f h=>
 L f h fun g h=>
 U [i0,iS,i0,.ah] [.mk 0 1 (.c (pi 2)),.mk 2 1 (.c g)] h fun j h=>
 S 4 b j h fun k h=>
 .ret (T4 b i0 i0) h) (Q d (pi 4) h fun f h=>
 I f (A 1 a h fun g h=>
 L g h fun j h=>
 U [i0,iS,i0,.ah] [.mk 0 1 (.c (pi 3)),.mk 1 1 (.c j)] h fun k h=>
 S 4 b k h fun l h=>
 .ret (T4 b i0 i0) h) (.nm (T21 a b) h))
def k236_2:KF:=K3 y1 y2 y11 fun c i x h a b d=>
 Q d (pi 2) h fun e h=>
 x (T321 a b d e) h
def k236_1:KF:=K2 y1 y2 fun c i x h a b=>
 A 0 a h fun d h=>
 L d h fun e h=>
 x (T320 a b e) h
def k236_10:KF:=K4 y1 y2 y5 y6 fun c i x h a b d e=>
 D e i1 h fun f h=>
 .nm (T239 a b d f) h
def k236_9:KF:=K4 y1 y2 y5 y6 fun c i x h a b d e=>
 A 3 a h fun f h=>
 L f h fun g h=>
 X 5 g e h fun j h=>
 M 5 j h fun k h=>
 C c 236 [k] h fun l h=>
 E 0 l h fun m h=>
 E 1 l h fun n h=>
 E 2 l h fun o h=>
 O 299 4 (.k1 (Y4 i0 iS i0 .ah)) h fun p h=>
 S 4 p m h fun q h=>
 tR (bU n i0 h) fun s h=>
 I s (U [i0,iS,i0,.ah] [] h fun t h=>
 S 4 b t h fun v h=>
 .ret (T4 b n o) h) (A 3 d h fun t h=>
 L t h fun v h=>
 M 4 p h fun w h=>
 tR (bs 299 4 1 [i0,iS,i0,.ah] [.mk 0 4 (.c w)] h) fun y h=>
 tR (cW 299 4 v y h) fun z h=>
 A 3 d h fun a0 h=>
 W a0 z h fun a1 h=>
 x (T239 a b d e) h)
def k236_8:KF:=K4 y1 y2 y5 y6 fun c i x h a b d e=>
 A 3 a h fun f h=>
 L f h fun g h=>
 G g h fun j h=>
 Y e j h fun k h=>
 I k (x (T239 a b d e) h) (.ex 1 (T89 b d) h)
def k236_7:KF:=K3 y1 y2 y5 fun c i x h a b d=>
 x (T239 a b d i1) h
def k236_11:KF:=K2 y2 y5 fun c i x h a b=>
 M 4 b h fun d h=>
 S 4 a d h fun e h=>
 .ret (T4 a i0 i0) h
def k236_6:KF:=K2 y1 y2 fun c i x h a b=>
 A 3 a h fun d h=>
 L d h fun e h=>
 X 5 e i0 h fun f h=>
 A 1 f h fun g h=>
 L g h fun j h=>
 U [i0,iS,i0,.ah] [.mk 0 1 (.c (pi 4)),.mk 1 1 (.c j)] h fun k h=>
 O 299 4 (.k1 (Y4 i0 iS i0 .ah)) h fun l h=>
 S 4 l k h fun m h=>
 x (T323 a b l) h
def k236_0:KF:=K1 y0 fun c i x h a=>
 B 241 a h fun b h=>
 O 299 4 (.k1 (Y4 i0 iS i0 .ah)) h fun d h=>
 x (T21 b d) h
def x236:AC:=(.ag k236_0 (.seq (.ag k236_1 (.block 0 (.ag k236_2 (.cond r12 (.seq (.ag k236_3 (.cond r17 (.seq (.da [q 0 (o d18 (.build [i0,iS,i0,.ah] [])),
 w (o .no (.gS 4 r2 r18)),
 qf 1 d19 4 r1,
 ql 1 d20 r19,
 q 0 (m d3 (.c (pi 20))),
 q 0 (m d4 r20)]) .ret) .skip)) (.ag k236_4 .skip)) (.ag k236_5 .skip))))) (.seq (.seq (.ops [of d34 0 r1,
 ol d35 r34,
 o d36 (.bin .ne r35 a1),
 m d37 r36,
 .g .h2 .h5 false d38 (.op (.br 3 r1)),
 .g .h2 .h5 false d39 (.op (.bq r38)),
 .g .h2 .h5 false d40 (.op (.len r39)),
 .g .h2 .h5 false d41 (.op (.bin .eq r40 a0)),
 o d42 (.pick r37 (.c (.bool true)) r41),
 m d43 r42,
 .g .h2 .hb false d44 (.op (.br 3 r1)),
 .g .h2 .hb false d45 (.op (.bq r44)),
 .g .h2 .hb false d46 (.op (.bF 5 r45 a0)),
 .g .h2 .hb false d47 (.op (.br 0 r46)),
 .g .h2 .hb false d48 (.op (.bq r47)),
 .g .h2 .hb false d49 (.op (.bin .ne r48 a2)),
 o d50 (.pick r43 (.c (.bool true)) r49),
 m d51 r50,
 .g .h3 .h3 false d52 (.op (.br 3 r1)),
 .g .h3 .h3 false d53 (.op (.bq r52)),
 .g .h3 .h3 false d54 (.op (.bF 5 r53 a0)),
 .g .h3 .h3 false d55 (.op (.br 1 r54)),
 .g .h3 .h3 false d56 (.op (.bq r55)),
 .g .h3 .h3 false d57 (.call 332 [r56]),
 .g .h3 .h3 false d58 (.op (.bin .eq r57 a0)),
 o d59 (.pick r51 (.c (.bool true)) r58)]) (.cond r59 (.seq (.da [q 0 (o d60 (.build [i0,iS,i0,.ah] [])),
 w (o .no (.gS 4 r2 r60)),
 qf 1 d61 4 r1,
 ql 1 d62 r61,
 q 0 (m d3 (.c (pi 12))),
 q 0 (m d4 r62)]) .ret) .skip)) (.seq (.seq (.da [qf 0 d67 3 r1,
 ql 0 d68 r67,
 q 0 (o d69 (.bF 5 r68 a0)),
 qf 0 d70 1 r69,
 ql 0 d71 r70,
 w (oc d72 332 [r71]),
 qf 1 d63 3 r1,
 ql 1 d64 r63,
 q 1 (o d65 (.len r64)),
 q 1 (o d66 (.bin .sub r65 a1)),
 q 0 (o d73 (.bin .ne r66 r72))]) (.cond r73 (.seq (.da [q 0 (o d74 (.build [i0,iS,i0,.ah] [])),
 w (o .no (.gS 4 r2 r74)),
 qf 1 d75 4 r1,
 ql 1 d76 r75,
 q 0 (m d3 (.c (pi 23))),
 q 0 (m d4 r76)]) .ret) .skip)) (.ag k236_6 (.seq (.ag k236_7 (.block 1 (.loop (.ag k236_8 (.ag k236_9 (.ag k236_10 .skip)))))) (.ag k236_11 .skip)))))))
def f236:AF:=.mk x236 [.agg 4 .h0 .h2,.t .h0 .h3,.t .h0 .h4]
def k237_4:KF:=K3 y0 y5 y6 fun c i x h a b d=>
 D d i1 h fun e h=>
 .nm (T324 a b e) h
def k237_3:KF:=K3 y0 y5 y6 fun c i x h a b d=>
 X 5 a d h fun e h=>
 M 5 e h fun f h=>
 C c 235 [f] h fun g h=>
 E 0 g h fun j h=>
 E 1 g h fun k h=>
 E 2 g h fun l h=>
 tR (bU k i0 h) fun m h=>
 I m (.ret (T4 .ah k l) h) (tR (bs 9 1 1 [iS] [.mk 0 1 (.c j)] h) fun n h=>
 tR (cW 9 1 b n h) fun o h=>
 x (T324 a o d) h)
def k237_2:KF:=K3 y0 y5 y6 fun c i x h a b d=>
 G a h fun e h=>
 Y d e h fun f h=>
 I f (x (T324 a b d) h) (.ex 0 (T85 b) h)
def k237_1:KF:=K2 y0 y5 fun c i x h a b=>
 x (T324 a b i0) h
def k237_5:KF:=K1 y5 fun c i x h a=>
 .ret (T4 a i0 i0) h
def k237_0:KF:=K1 y0 fun c i x h a=>
 x (T54 a .ah) h
def x237:AC:=(.ag k237_0 (.seq (.ag k237_1 (.block 0 (.loop (.ag k237_2 (.ag k237_3 (.ag k237_4 .skip)))))) (.ag k237_5 .skip)))
def f237:AF:=.mk x237 [.t .h0 .h2,.t .h0 .h3,.t .h0 .h4]
def k238_3:KF:=K4 y0 y2 y5 y8 fun c i x h a b d e=>
 X 5 a i1 h fun f h=>
 A 1 f h fun g h=>
 L g h fun j h=>
 U [iS,iS,iS] [.mk 0 1 (.c d),.mk 1 1 (.c j),.mk 2 1 (.c e)] h fun k h=>
 S 3 b k h fun l h=>
 .ret (T4 b i0 i0) h
def k238_2:KF:=K3 y0 y2 y5 fun c i x h a b d=>
 X 5 a (pi 2) h fun e h=>
 M 5 e h fun f h=>
 C c 235 [f] h fun g h=>
 E 0 g h fun j h=>
 E 1 g h fun k h=>
 E 2 g h fun l h=>
 tR (bU k i0 h) fun m h=>
 I m (U [iS,iS,iS] [] h fun n h=>
 S 3 b n h fun o h=>
 .ret (T4 b k l) h) (x (T325 a b d j) h)
def k238_1:KF:=K3 y0 y2 y5 fun c i x h a b d=>
 G a h fun e h=>
 Q e (pi 2) h fun f h=>
 I f (U [iS,iS,iS] [.mk 0 1 (.c d),.mk 1 1 (.c (.str [99,111,117,110,116]))] h fun g h=>
 S 3 b g h fun j h=>
 .ret (T4 b i0 i0) h) (x (T130 a b d) h)
def k238_0:KF:=K1 y0 fun c i x h a=>
 O 303 3 (.k1 (Y3 iS iS iS)) h fun b h=>
 X 5 a i0 h fun d h=>
 M 5 d h fun e h=>
 C c 235 [e] h fun f h=>
 E 0 f h fun g h=>
 E 1 f h fun j h=>
 E 2 f h fun k h=>
 tR (bU j i0 h) fun l h=>
 I l (U [iS,iS,iS] [] h fun m h=>
 S 3 b m h fun n h=>
 .ret (T4 b j k) h) (x (T130 a b g) h)
def x238:AC:=(.ag k238_0 (.seq (.seq (.ops [m d22 r0,
 o d23 (.len r22),
 o d24 (.bin .eq r23 a2),
 m d25 r24,
 .g .h1 .h9 true d26 (.op (.mv r0)),
 .g .h1 .h9 true d27 (.op (.bF 5 r26 a1)),
 .g .h1 .h9 true d28 (.op (.br 1 r27)),
 .g .h1 .h9 true d29 (.op (.bq r28)),
 .g .h1 .h9 true d30 (.op (.bin .Kd r29 (.c (.str [99,111,117,110,116])))),
 o d31 (.pick r25 r30 (.c (.bool false)))]) (.cond r31 (.seq (.da [q 0 (o d32 (.build [iS,iS,iS] [])),
 w (o .no (.gS 3 r2 r32)),
 q 1 (m d33 r0),
 q 1 (o d34 (.bF 5 r33 a1)),
 qf 1 d35 4 r34,
 ql 1 d36 r35,
 q 0 (m d3 (.c (pi 12))),
 q 0 (m d4 r36)]) .ret) .skip)) (.ag k238_1 (.seq (.seq (.ops [m d42 r0,
 o d43 (.bF 5 r42 a1),
 of d44 1 r43,
 ol d45 r44,
 o d46 (.bin .Kd r45 (.c (.str [115,117,109]))),
 m d47 r46,
 .g .h2 .hf true d48 (.op (.mv r0)),
 .g .h2 .hf true d49 (.op (.bF 5 r48 a1)),
 .g .h2 .hf true d50 (.op (.br 1 r49)),
 .g .h2 .hf true d51 (.op (.bq r50)),
 .g .h2 .hf true d52 (.op (.bin .Kd r51 (.c (.str [109,105,110])))),
 o d53 (.pick r47 r52 (.c (.bool false))),
 m d54 r53,
 .g .h3 .h6 true d55 (.op (.mv r0)),
 .g .h3 .h6 true d56 (.op (.bF 5 r55 a1)),
 .g .h3 .h6 true d57 (.op (.br 1 r56)),
 .g .h3 .h6 true d58 (.op (.bq r57)),
 .g .h3 .h6 true d59 (.op (.bin .Kd r58 (.c (.str [109,97,120])))),
 o d60 (.pick r54 r59 (.c (.bool false)))]) (.cond r60 (.seq (.da [q 0 (o d61 (.build [iS,iS,iS] [])),
 w (o .no (.gS 3 r2 r61)),
 q 1 (m d62 r0),
 q 1 (o d63 (.bF 5 r62 a1)),
 qf 1 d64 4 r63,
 ql 1 d65 r64,
 q 0 (m d3 (.c (pi 12))),
 q 0 (m d4 r65)]) .ret) .skip)) (.ag k238_2 (.ag k238_3 .skip))))))
def f238:AF:=.mk x238 [.agg 3 .h0 .h2,.t .h0 .h3,.t .h0 .h4]
def k239_7:KF:=K3 y1 y3 y4 fun c i x h a b d=>
 D d i1 h fun e h=>
 .nm (T170 a b e) h
def k239_6:KF:=K3 y1 y3 y4 fun c i x h a b d=>
 tR (fH d i0 h) fun e h=>
 I e (tR (cA b (.str [32]) h) fun f h=>
 A 3 a h fun g h=>
 L g h fun j h=>
 X 5 j d h fun k h=>
 M 5 k h fun l h=>
 C c 239 [l] h fun m h=>
 tR (cA f m h) fun n h=>
 x (T170 a n d) h) (A 3 a h fun f h=>
 L f h fun g h=>
 X 5 g d h fun j h=>
 M 5 j h fun k h=>
 C c 239 [k] h fun l h=>
 tR (cA b l h) fun m h=>
 x (T170 a m d) h)
def k239_5:KF:=K3 y1 y3 y4 fun c i x h a b d=>
 A 3 a h fun e h=>
 L e h fun f h=>
 G f h fun g h=>
 Y d g h fun j h=>
 I j (x (T170 a b d) h) (.ex 1 (T47 b) h)
def k239_4:KF:=K2 y1 y3 fun c i x h a b=>
 x (T170 a b i0) h
def k239_8:KF:=K1 y3 fun c i x h a=>
 tR (cA a (.str [41]) h) fun b h=>
 .ret (T3 b) h
def k239_3:KF:=K1 y1 fun c i x h a=>
 x (T148 a (.str [40])) h
def k239_9:KF:=K2 y1 y6 fun c i x h a b=>
 Q b (pi 2) h fun d h=>
 I d (A 1 a h fun e h=>
 L e h fun f h=>
 .ret (T3 f) h) (Q b (pi 3) h fun e h=>
 I e (A 2 a h fun f h=>
 L f h fun g h=>
 C c 333 [g] h fun j h=>
 .ret (T3 j) h) (Q b (pi 4) h fun f h=>
 I f (A 1 a h fun g h=>
 L g h fun j h=>
 C c 334 [j] h fun k h=>
 .ret (T3 k) h) (.nm T17 h)))
def k239_2:KF:=K2 y1 y6 fun c i x h a b=>
 Q b i1 h fun d h=>
 x (T327 a b d) h
def k239_1:KF:=K1 y1 fun c i x h a=>
 A 0 a h fun b h=>
 L b h fun d h=>
 x (T326 a d) h
def k239_10:KF:=fun c i x r h=>
 .ret (T3 iS) h
def k239_0:KF:=K1 y0 fun c i x h a=>
 B 241 a h fun b h=>
 x (T1 b) h
def x239:AC:=(.ag k239_0 (.seq (.ag k239_1 (.block 0 (.ag k239_2 (.cond r7 (.ag k239_3 (.seq (.ag k239_4 (.block 1 (.loop (.ag k239_5 (.ag k239_6 (.ag k239_7 .skip)))))) (.ag k239_8 .skip))) (.ag k239_9 .skip))))) (.ag k239_10 .skip)))
def f239:AF:=.mk x239 [.t .h0 .h2]
def k240_5:KF:=K4 y1 y2 y3 y4 fun c i x h a b d e=>
 D e i1 h fun f h=>
 .nm (T328 a b d f) h
def k240_4:KF:=K4 y1 y2 y3 y4 fun c i x h a b d e=>
 A 3 a h fun f h=>
 L f h fun g h=>
 G g h fun j h=>
 Y e j h fun k h=>
 I k (x (T328 a b d e) h) (.ex 1 (T2 b d) h)
def k240_3:KF:=K3 y1 y2 y3 fun c i x h a b d=>
 x (T328 a b d i0) h
def k240_6:KF:=K2 y2 y3 fun c i x h a b=>
 M 5 b h fun d h=>
 S 5 a d h fun e h=>
 .ret (T3 a) h
def k240_2:KF:=K2 y1 y2 fun c i x h a b=>
 A 1 a h fun d h=>
 L d h fun e h=>
 U [i0,iS,i0,.ah,i0] [.mk 0 1 (.c (pi 2)),.mk 1 1 (.c e)] h fun f h=>
 tR (bs 241 5 1 [i0,iS,i0,.ah,i0] [.mk 0 5 (.c f)] h) fun g h=>
 U [i0,iS,i0,.ah,i0] [.mk 0 1 (.c i1),.mk 3 1 (.c g)] h fun j h=>
 O 241 5 (.k1 (Y5 i0 iS i0 .ah i0)) h fun k h=>
 S 5 k j h fun l h=>
 x (T150 a b k) h
def k240_1:KF:=K2 y1 y2 fun c i x h a b=>
 A 0 a h fun d h=>
 L d h fun e h=>
 Q e i1 h fun f h=>
 I f (A 1 a h fun g h=>
 L g h fun j h=>
 U [i0,iS,i0,.ah,i0] [.mk 0 1 (.c (pi 2)),.mk 1 1 (.c j)] h fun k h=>
 S 5 b k h fun l h=>
 .ret (T3 b) h) (Q e (pi 2) h fun g h=>
 I g (A 2 a h fun j h=>
 L j h fun k h=>
 U [i0,iS,i0,.ah,i0] [.mk 0 1 (.c (pi 3)),.mk 2 1 (.c k)] h fun l h=>
 S 5 b l h fun m h=>
 .ret (T3 b) h) (Q e (pi 3) h fun j h=>
 I j (A 1 a h fun k h=>
 L k h fun l h=>
 U [i0,iS,i0,.ah,i0] [.mk 0 1 (.c (pi 4)),.mk 1 1 (.c l)] h fun m h=>
 S 5 b m h fun n h=>
 .ret (T3 b) h) (x (T21 a b) h)))
def k240_0:KF:=K1 y0 fun c i x h a=>
 B 299 a h fun b h=>
 O 241 5 (.k1 (Y5 i0 iS i0 .ah i0)) h fun d h=>
 M 4 b h fun e h=>
 C c 335 [e] h fun f h=>
 tR (bG f h) fun g h=>
 I g (U [i0,iS,i0,.ah,i0] [.mk 0 1 (.c i1)] h fun j h=>
 S 5 d j h fun k h=>
 .ret (T3 d) h) (x (T21 b d) h)
def x240:AC:=(.ag k240_0 (.ag k240_1 (.ag k240_2 (.seq (.ag k240_3 (.block 1 (.loop (.ag k240_4 (.seq (.block 2 (.da [qf 0 d40 3 r1,
 ql 0 d41 r40,
 q 0 (m d42 r4),
 q 0 (o d43 (.bF 4 r41 r42)),
 q 0 (o d44 (.cV 4 r43)),
 w (oc d45 240 [r44]),
 w (o d46 (.aU 241 5 1 [i0,iS,i0,.ah,i0] [.mk 0 5 r45])),
 qf 2 d38 3 r3,
 ql 2 d39 r38,
 w (o d47 (.app 241 5 r39 r46)),
 qf 0 d48 3 r3,
 w (os r48 r47)])) (.ag k240_5 .skip)))))) (.ag k240_6 .skip)))))
def f240:AF:=.mk x240 [.agg 5 .h0 .h2]
def k241_4:KF:=K3 y0 y3 y4 fun c i x h a b d=>
 D d i1 h fun e h=>
 .nm (T25 a b e) h
def k241_3:KF:=K3 y0 y3 y4 fun c i x h a b d=>
 tR (fH d i0 h) fun e h=>
 I e (tR (cA b (.str [32]) h) fun f h=>
 X 1 a d h fun g h=>
 L g h fun j h=>
 tR (cA f j h) fun k h=>
 x (T25 a k d) h) (X 1 a d h fun f h=>
 L f h fun g h=>
 tR (cA b g h) fun j h=>
 x (T25 a j d) h)
def k241_2:KF:=K3 y0 y3 y4 fun c i x h a b d=>
 G a h fun e h=>
 Y d e h fun f h=>
 I f (x (T25 a b d) h) (.ex 0 (T47 b) h)
def k241_1:KF:=K2 y0 y3 fun c i x h a b=>
 x (T25 a b i0) h
def k241_5:KF:=K1 y3 fun c i x h a=>
 tR (cA a (.str [41]) h) fun b h=>
 .ret (T3 b) h
def k241_0:KF:=K1 y0 fun c i x h a=>
 x (T24 a (.str [40])) h
def x241:AC:=(.ag k241_0 (.seq (.ag k241_1 (.block 0 (.loop (.ag k241_2 (.ag k241_3 (.ag k241_4 .skip)))))) (.ag k241_5 .skip)))
def f241:AF:=.mk x241 [.t .h0 .h2]
def k242_0:KF:=K2 y0 y1 fun c i x h a b=>
 B 299 a h fun d h=>
 M 4 d h fun e h=>
 C c 335 [e] h fun f h=>
 tR (bG f h) fun g h=>
 I g (.ret (T49 i0 (pi 22)) h) (M 4 d h fun j h=>
 C c 336 [j,b] h fun k h=>
 E 0 k h fun l h=>
 E 1 k h fun m h=>
 .ret (T49 l m) h)
def x242:AC:=(.ag k242_0 .skip)
def f242:AF:=.mk x242 [.t .h0 .h4,.t .h0 .h5]
def k243_4:KF:=K4 y1 y2 y7 y8 fun c i x h a b d e=>
 D e i1 h fun f h=>
 .nm (T207 a b d f) h
def k243_3:KF:=K4 y1 y2 y7 y8 fun c i x h a b d e=>
 A 2 b h fun f h=>
 L f h fun g h=>
 X 4 g e h fun j h=>
 M 4 j h fun k h=>
 C c 242 [k,a] h fun l h=>
 E 0 l h fun m h=>
 E 1 l h fun n h=>
 tR (bU n i0 h) fun o h=>
 I o (.ret (T101 .ah n iS) h) (A 3 b h fun p h=>
 L p h fun q h=>
 X 1 q e h fun s h=>
 L s h fun t h=>
 C c 151 [d,t] h fun v h=>
 E 0 v h fun w h=>
 E 1 v h fun y h=>
 I y (tQ (fA 3 b h) fun z=>
 tQ (lD z h) fun a0=>
 tQ (iX 1 a0 e h) fun a1=>
 tQ (lD a1 h) fun a2=>
 .ret (T101 .ah (pi 21) a2) h) (A 3 b h fun z h=>
 L z h fun a0 h=>
 X 1 a0 e h fun a1 h=>
 L a1 h fun a2 h=>
 U [iS,i0] [.mk 0 1 (.c a2),.mk 1 1 (.c m)] h fun a3 h=>
 tR (bs 103 2 1 [iS,i0] [.mk 0 2 (.c a3)] h) fun a4 h=>
 tR (cW 103 2 d a4 h) fun a5 h=>
 x (T207 a b a5 e) h))
def k243_2:KF:=K4 y1 y2 y7 y8 fun c i x h a b d e=>
 A 3 b h fun f h=>
 L f h fun g h=>
 G g h fun j h=>
 Y e j h fun k h=>
 I k (x (T207 a b d e) h) (.ex 0 (T28 d) h)
def k243_1:KF:=K3 y1 y2 y7 fun c i x h a b d=>
 x (T207 a b d i0) h
def k243_5:KF:=K1 y7 fun c i x h a=>
 G a h fun b h=>
 tR (fH b (pi 6) h) fun d h=>
 I d (.ret (T101 .ah (pi 23) iS) h) (.ret (T101 a i0 iS) h)
def k243_0:KF:=K2 y0 y1 fun c i x h a b=>
 B 131 a h fun d h=>
 x (T206 b d .ah) h
def x243:AC:=(.ag k243_0 (.seq (.ag k243_1 (.block 0 (.loop (.ag k243_2 (.ag k243_3 (.ag k243_4 .skip)))))) (.ag k243_5 .skip)))
def f243:AF:=.mk x243 [.t .h0 .h4,.t .h0 .h5,.t .h0 .h6]
def x244:AC:=b244
def f244:AF:=.mk x244 [.t .h0 .h6,.t .h0 .h7,.t .h0 .h8]
def x245:AC:=b245
def f245:AF:=.mk x245 [.t .h0 .h4,.t .h0 .h5,.t .h0 .h6]
def k246_3:KF:=K4 y0 y1 y5 y67 fun c i x h a b d e=>
 I e (.ret (T9 (.bool false)) h) (.nm (T46 a b d) h)
def k246_4:KF:=K3 y0 y1 y5 fun c i x h a b d=>
 D d i1 h fun e h=>
 .nm (T46 a b e) h
def k246_2:KF:=K3 y0 y1 y5 fun c i x h a b d=>
 G a h fun e h=>
 Y d e h fun f h=>
 I f (x (T46 a b d) h) (.ex 0 T17 h)
def k246_1:KF:=K2 y0 y1 fun c i x h a b=>
 x (T46 a b i0) h
def k246_5:KF:=fun c i x r h=>
 .ret (T9 (.bool true)) h
def k246_0:KF:=K2 y0 y1 fun c i x h a b=>
 G a h fun d h=>
 G b h fun e h=>
 tR (bU d e h) fun f h=>
 I f (.ret (T9 (.bool false)) h) (x (T20 a b) h)
def x246:AC:=(.ag k246_0 (.seq (.ag k246_1 (.block 0 (.loop (.ag k246_2 (.seq (.block 1 (.seq (.da [q 0 (m d17 r0),
 q 0 (m d18 r5),
 q 0 (o d19 (.bF 4 r17 r18)),
 qf 0 d20 0 r19,
 ql 0 d21 r20,
 q 0 (m d22 r1),
 q 0 (m d23 r5),
 q 0 (o d24 (.bF 4 r22 r23)),
 qf 0 d25 0 r24,
 ql 0 d26 r25,
 q 0 (o d27 (.bin .ne r21 r26)),
 q 0 (m d28 r27),
 q 0 (.g .h1 .hc false d29 (.op (.mv r0))),
 q 0 (.g .h1 .hc false d30 (.op (.mv r5))),
 q 0 (.g .h1 .hc false d31 (.op (.bF 4 r29 r30))),
 q 0 (.g .h1 .hc false d32 (.op (.br 1 r31))),
 q 0 (.g .h1 .hc false d33 (.op (.bq r32))),
 q 0 (.g .h1 .hc false d34 (.op (.mv r1))),
 q 0 (.g .h1 .hc false d35 (.op (.mv r5))),
 q 0 (.g .h1 .hc false d36 (.op (.bF 4 r34 r35))),
 q 0 (.g .h1 .hc false d37 (.op (.br 1 r36))),
 q 0 (.g .h1 .hc false d38 (.op (.bq r37))),
 q 0 (.g .h1 .hc false d39 (.op (.bin .Kd r33 r38))),
 q 0 (o d40 (.pick r28 (.c (.bool true)) r39)),
 q 0 (m d41 r40),
 q 0 (.g .h2 .h9 false d42 (.op (.mv r0))),
 q 0 (.g .h2 .h9 false d43 (.op (.mv r5))),
 q 0 (.g .h2 .h9 false d44 (.op (.bF 4 r42 r43))),
 q 0 (.g .h2 .h9 false d45 (.op (.br 2 r44))),
 q 0 (.g .h2 .h9 false d46 (.op (.bq r45))),
 q 0 (.g .h2 .h9 false d47 (.op (.mv r1))),
 q 0 (.g .h2 .h9 false d48 (.op (.mv r5))),
 q 0 (.g .h2 .h9 false d49 (.op (.bF 4 r47 r48))),
 q 0 (.g .h2 .h9 false d50 (.op (.br 2 r49))),
 q 0 (.g .h2 .h9 false d51 (.op (.bq r50))),
 q 0 (.g .h2 .h9 false d52 (.op (.bin .ne r46 r51))),
 q 0 (o d53 (.pick r41 (.c (.bool true)) r52)),
 q 0 (m d54 r53),
 q 0 (.g .h3 .h6 false d55 (.op (.mv r0))),
 q 0 (.g .h3 .h6 false d56 (.op (.mv r5))),
 q 0 (.g .h3 .h6 false d57 (.op (.bF 4 r55 r56))),
 q 0 (.g .h3 .h6 false d58 (.op (.br 3 r57))),
 q 0 (.g .h3 .h6 false d59 (.op (.bq r58))),
 q 0 (.g .h3 .h6 false d60 (.op (.mv r1))),
 q 0 (.g .h3 .h6 false d61 (.op (.mv r5))),
 q 0 (.g .h3 .h6 false d62 (.op (.bF 4 r60 r61))),
 q 0 (.g .h3 .h6 false d63 (.op (.br 3 r62))),
 q 0 (.g .h3 .h6 false d64 (.op (.bq r63))),
 w (.g .h3 .h6 false d65 (.call 246 [r59,r64])),
 q 0 (.g .h3 .h6 false d66 (.op (.un .not r65))),
 q 0 (o d67 (.pick r54 (.c (.bool true)) r66))]) (.ag k246_3 .skip))) (.ag k246_4 .skip)))))) (.ag k246_5 .skip)))
def f246:AF:=.mk x246 [.t .h0 .h4]
def k247_2:KF:=K3 y0 y1 y5 fun c i x h a b d=>
 G a h fun e h=>
 Y d e h fun f h=>
 I f (tQ (iX 1 a d h) fun g=>
 tQ (lD g h) fun j=>
 tQ (iX 1 b d h) fun k=>
 tQ (lD k h) fun l=>
 tQ (pG j l h) fun m=>
 I m (.ret (T9 (.bool false)) h) (D d i1 h fun n h=>
 .nm (T46 a b n) h)) (.ex 0 (T46 a b d) h)
def k247_1:KF:=K2 y0 y1 fun c i x h a b=>
 x (T46 a b i0) h
def k247_3:KF:=fun c i x r h=>
 .ret (T9 (.bool true)) h
def k247_0:KF:=K2 y0 y1 fun c i x h a b=>
 G a h fun d h=>
 G b h fun e h=>
 tR (bU d e h) fun f h=>
 I f (.ret (T9 (.bool false)) h) (x (T20 a b) h)
def x247:AC:=(.ag k247_0 (.seq (.ag k247_1 (.block 0 (.loop (.ag k247_2 .skip)))) (.ag k247_3 .skip)))
def f247:AF:=.mk x247 [.t .h0 .h4]
def k248_2:KF:=K2 y0 y3 fun c i x h a b=>
 G a h fun d h=>
 Y b d h fun e h=>
 I e (X 2 a b h fun f h=>
 A 1 f h fun g h=>
 L g h fun j h=>
 C c 257 [j] h fun k h=>
 Y k i0 h fun l h=>
 I l (.ret (T3 (.bool false)) h) (D b i1 h fun m h=>
 .nm (T24 a m) h)) (.ex 0 (T24 a b) h)
def k248_1:KF:=K1 y0 fun c i x h a=>
 x (T24 a i0) h
def k248_3:KF:=K1 y0 fun c i x h a=>
 C c 256 [a] h fun b h=>
 .ret (T3 b) h
def k248_0:KF:=K1 y0 fun c i x h a=>
 x (T0 a) h
def x248:AC:=(.ag k248_0 (.seq (.ag k248_1 (.block 0 (.loop (.ag k248_2 .skip)))) (.ag k248_3 .skip)))
def f248:AF:=.mk x248 [.t .h0 .h2]
def x249:AC:=b249
def f249:AF:=.mk x249 [.t .h0 .h6,.t .h0 .h7,.t .h0 .h8]
def x250:AC:=b250
def f250:AF:=.mk x250 [.t .h0 .ha,.t .h0 .hb]
def x251:AC:=b251
def f251:AF:=.mk x251 [.t .h0 .h6,.t .h0 .h7]
def x252:AC:=b252
def f252:AF:=.mk x252 [.t .h0 .h4]
def x253:AC:=b253
def f253:AF:=.mk x253 [.t .h0 .h4]
def k254_4:KF:=K3 y0 y4 y42 fun c i x h a b d=>
 I d (.ret (T2 .ah i1) h) (.nm (T234 a b) h)
def k254_3:KF:=K2 y0 y4 fun c i x h a b=>
 X 2 a b h fun d h=>
 A 1 d h fun e h=>
 L e h fun f h=>
 C c 344 [f] h fun g h=>
 E 0 g h fun j h=>
 E 1 g h fun k h=>
 E 2 g h fun l h=>
 x (T358 a b l) h
def k254_5:KF:=K2 y0 y4 fun c i x h a b=>
 D b i1 h fun d h=>
 .nm (T234 a d) h
def k254_2:KF:=K2 y0 y4 fun c i x h a b=>
 G a h fun d h=>
 Y b d h fun e h=>
 I e (x (T234 a b) h) (.ex 0 (T0 a) h)
def k254_1:KF:=K1 y0 fun c i x h a=>
 x (T234 a i0) h
def k254_10:KF:=K5 y0 y8 y9 y10 y65 fun c i x h a b d e f=>
 I f (.nm (T360 a b d e) h) (.ex 4 (T360 a b d e) h)
def k254_11:KF:=K4 y0 y8 y9 y10 fun c i x h a b d e=>
 D e i1 h fun f h=>
 .nm (T360 a b d f) h
def k254_12:KF:=K5 y0 y8 y9 y10 y84 fun c i x h a b d e f=>
 I f (tQ (iX 2 b e h) fun g=>
 tQ (fA 1 g h) fun j=>
 tQ (lD j h) fun k=>
 tQ (iX 2 a d h) fun l=>
 tQ (fA 1 l h) fun m=>
 tQ (lD m h) fun n=>
 tX (c 347 [k,n] h) fun o h=>
 tQ (ext 0 o h) fun p=>
 tQ (ext 1 o h) fun q=>
 tR (bG q h) fun s h=>
 I s (.ret (T2 .ah (pi 27)) h) (X 2 b e h fun t h=>
 A 1 t h fun v h=>
 W v p h fun w h=>
 .ex 3 (T360 a b d e) h)) (.nm (T360 a b d e) h)
def k254_13:KF:=K5 y0 y8 y9 y10 y13 fun c i x h a b d e f=>
 tR (cq 2 (.c b) (.some (.c e)) .none .none .nil h) fun g h=>
 tR (cW 142 2 f g h) fun j h=>
 .nm (T61 a j d) h
def k254_9:KF:=K3 y0 y8 y9 fun c i x h a b d=>
 x (T360 a b d i0) h
def k254_14:KF:=K3 y0 y8 y9 fun c i x h a b d=>
 D d i1 h fun e h=>
 .nm (T61 a b e) h
def k254_8:KF:=K3 y0 y8 y9 fun c i x h a b d=>
 G a h fun e h=>
 Y d e h fun f h=>
 I f (x (T61 a b d) h) (.ex 2 (T31 b) h)
def k254_7:KF:=K2 y0 y8 fun c i x h a b=>
 x (T61 a b i0) h
def k254_18:KF:=K3 y8 y14 y15 fun c i x h a b d=>
 D d i1 h fun e h=>
 .nm (T362 a b e) h
def k254_17:KF:=K3 y8 y14 y15 fun c i x h a b d=>
 G a h fun e h=>
 Y d e h fun f h=>
 I f (X 2 a d h fun g h=>
 A 1 g h fun j h=>
 L j h fun k h=>
 tR (bK (.NM .neq) k (.cG .f64 0 0) h) fun l h=>
 I l (X 2 a d h fun m h=>
 M 2 m h fun n h=>
 tR (bs 142 2 1 [.ah,(.cG .f64 0 0)] [.mk 0 2 (.c n)] h) fun o h=>
 tR (cW 142 2 b o h) fun p h=>
 x (T362 a p d) h) (x (T362 a b d) h)) (.ex 6 (T363 b) h)
def k254_16:KF:=K2 y8 y14 fun c i x h a b=>
 x (T362 a b i0) h
def k254_19:KF:=K1 y14 fun c i x h a=>
 .ret (T2 a i0) h
def k254_15:KF:=K1 y8 fun c i x h a=>
 x (T361 a .ah) h
def k254_6:KF:=K1 y0 fun c i x h a=>
 x (T359 a .ah) h
def k254_0:KF:=K1 y0 fun c i x h a=>
 x (T0 a) h
def x254:AC:=(.ag k254_0 (.seq (.ag k254_1 (.block 0 (.loop (.ag k254_2 (.seq (.block 1 (.ag k254_3 (.seq (.ops [m d32 r7,
 o d33 (.un .not r32),
 m d34 r33,
 .g .h2 .h2 false d35 (.op (.mv r0)),
 .g .h2 .h2 false d36 (.op (.mv r4)),
 .g .h2 .h2 false d37 (.op (.bF 2 r35 r36)),
 .g .h2 .h2 false d38 (.op (.br 0 r37)),
 .g .h2 .h2 false d39 (.op (.bq r38)),
 .g .h2 .h2 false d40 (.call 345 [r39]),
 .g .h2 .h2 false d41 (.op (.un .not r40)),
 o d42 (.pick r34 (.c (.bool true)) r41)]) (.ag k254_4 .skip)))) (.ag k254_5 .skip)))))) (.ag k254_6 (.seq (.ag k254_7 (.block 2 (.loop (.ag k254_8 (.seq (.block 3 (.ag k254_9 (.seq (.block 4 (.loop (.seq (.seq (.da [q 0 (m d49 r10),
 q 0 (m d50 r8),
 q 0 (o d51 (.len r50)),
 q 0 (o d52 (.bin .lt r49 r51)),
 q 0 (m d53 r52),
 q 0 (.g .h3 .h5 true d54 (.op (.mv r8))),
 q 0 (.g .h3 .h5 true d55 (.op (.mv r10))),
 q 0 (.g .h3 .h5 true d56 (.op (.bF 2 r54 r55))),
 q 0 (.g .h3 .h5 true d57 (.op (.br 0 r56))),
 q 0 (.g .h3 .h5 true d58 (.op (.bq r57))),
 q 0 (.g .h3 .h5 true d59 (.op (.mv r0))),
 q 0 (.g .h3 .h5 true d60 (.op (.mv r9))),
 q 0 (.g .h3 .h5 true d61 (.op (.bF 2 r59 r60))),
 q 0 (.g .h3 .h5 true d62 (.op (.br 0 r61))),
 q 0 (.g .h3 .h5 true d63 (.op (.bq r62))),
 w (.g .h3 .h5 true d64 (.call 346 [r58,r63])),
 q 0 (o d65 (.pick r53 r64 (.c (.bool false))))]) (.ag k254_10 .skip)) (.ag k254_11 .skip)))) (.seq (.seq (.da [q 0 (m d68 r10),
 q 0 (m d69 r8),
 q 0 (o d70 (.len r69)),
 q 0 (o d71 (.bin .lt r68 r70)),
 q 0 (m d72 r71),
 q 0 (.g .h4 .h8 true d73 (.op (.mv r8))),
 q 0 (.g .h4 .h8 true d74 (.op (.mv r10))),
 q 0 (.g .h4 .h8 true d75 (.op (.bF 2 r73 r74))),
 q 0 (.g .h4 .h8 true d76 (.op (.br 0 r75))),
 q 0 (.g .h4 .h8 true d77 (.op (.bq r76))),
 q 0 (.g .h4 .h8 true d78 (.op (.mv r0))),
 q 0 (.g .h4 .h8 true d79 (.op (.mv r9))),
 q 0 (.g .h4 .h8 true d80 (.op (.bF 2 r78 r79))),
 q 0 (.g .h4 .h8 true d81 (.op (.br 0 r80))),
 q 0 (.g .h4 .h8 true d82 (.op (.bq r81))),
 w (.g .h4 .h8 true d83 (.call 258 [r77,r82])),
 q 0 (o d84 (.pick r72 r83 (.c (.bool false))))]) (.ag k254_12 .skip)) (.seq (.da [w (o d106 (.aU 142 2 0 [] [])),
 q 1 (m d107 r8),
 q 1 (m d108 r10),
 q 1 (o d109 (.JZ 2 r107 .none (.some r108) .none)),
 w (o d110 (.app 142 2 r106 r109)),
 q 2 (m d112 r0),
 q 2 (m d113 r9),
 q 2 (o d114 (.bF 2 r112 r113)),
 qf 2 d115 0 r114,
 ql 2 d116 r115,
 n (o d111 (.aU 100 3 0 [] [])),
 w (o d117 (.app 100 3 r111 r116)),
 q 3 (m d118 r0),
 q 3 (m d119 r9),
 q 3 (o d120 (.bF 2 r118 r119)),
 qf 3 d121 1 r120,
 ql 3 d122 r121,
 w (oc d123 348 [r122]),
 q 0 (o d124 (.build [.ah,(.cG .f64 0 0)] [.mk 0 1 r117,.mk 1 1 r123])),
 w (o d125 (.aU 142 2 1 [.ah,(.cG .f64 0 0)] [.mk 0 2 r124])),
 w (o d126 (.app 142 2 r110 r125)),
 q 0 (m d13 r126)]) (.ag k254_13 .skip)))))) (.ag k254_14 .skip)))))) (.ag k254_15 (.seq (.ag k254_16 (.block 6 (.loop (.ag k254_17 (.ag k254_18 .skip))))) (.ag k254_19 .skip)))))))
def f254:AF:=.mk x254 [.t .h0 .h2,.t .h0 .h3]
def k255_0:KF:=K1 y0 fun c i x h a=>
 B 100 a h fun b h=>
 x (T1 b) h
def x255:AC:=(.ag k255_0 (.seq (.ops [of d3 0 r1,
 ol d4 r3,
 o d5 (.bin .eq r4 a1),
 m d6 r5,
 .g .h0 .h6 true d7 (.op (.br 2 r1)),
 .g .h0 .h6 true d8 (.op (.bq r7)),
 .g .h0 .h6 true d9 (.op (.bin .seq r8 (.c iS))),
 o d10 (.pick r6 r9 (.c (.bool false))),
 m d11 r10,
 .g .h0 .hb false d12 (.op (.br 0 r1)),
 .g .h0 .hb false d13 (.op (.bq r12)),
 .g .h0 .hb false d14 (.op (.bin .eq r13 a2)),
 .g .h0 .hb false d15 (.op (.mv r14)),
 .g .h0 .hf true d16 (.op (.br 1 r1)),
 .g .h0 .hf true d17 (.op (.bq r16)),
 .g .h0 .hf true d18 (.op (.bin .eq r17 a0)),
 .g .h0 .hb false d19 (.op (.pick r15 r18 (.c (.bool false)))),
 .g .h0 .hb false d20 (.op (.mv r19)),
 .g .h1 .h4 true d21 (.op (.br 2 r1)),
 .g .h1 .h4 true d22 (.op (.bq r21)),
 .g .h1 .h4 true d23 (.op (.dI r22)),
 .g .h1 .h4 true d24 (.op (.bin .le r23 (.c (pi 40)))),
 .g .h0 .hb false d25 (.op (.pick r20 r24 (.c (.bool false)))),
 o d26 (.pick r11 (.c (.bool true)) r25),
 m d2 r26]) .ret))
def f255:AF:=.mk x255 [.t .h0 .h2]
def k256_4:KF:=K3 y0 y3 y59 fun c i x h a b d=>
 I d (.ret (T3 (.bool false)) h) (.nm (T24 a b) h)
def k256_3:KF:=K2 y0 y3 fun c i x h a b=>
 X 2 a b h fun d h=>
 A 1 d h fun e h=>
 L e h fun f h=>
 C c 344 [f] h fun g h=>
 E 0 g h fun j h=>
 E 1 g h fun k h=>
 E 2 g h fun l h=>
 x (T7 a b j k l) h
def k256_5:KF:=K2 y0 y3 fun c i x h a b=>
 D b i1 h fun d h=>
 .nm (T24 a d) h
def k256_2:KF:=K2 y0 y3 fun c i x h a b=>
 G a h fun d h=>
 Y b d h fun e h=>
 I e (x (T24 a b) h) (.ex 0 T17 h)
def k256_1:KF:=K1 y0 fun c i x h a=>
 x (T24 a i0) h
def k256_6:KF:=fun c i x r h=>
 .ret (T3 (.bool true)) h
def k256_0:KF:=K1 y0 fun c i x h a=>
 x (T0 a) h
def x256:AC:=(.ag k256_0 (.seq (.ag k256_1 (.block 0 (.loop (.ag k256_2 (.seq (.block 1 (.ag k256_3 (.seq (.da [q 0 (m d23 r6),
 q 0 (o d24 (.un .not r23)),
 q 0 (m d25 r24),
 q 0 (.g .h1 .h9 false d26 (.op (.mv r4))),
 q 0 (.g .h1 .h9 false d27 (.op (.bin .eq r26 a0))),
 q 0 (.g .h1 .h9 false d28 (.op (.mv r5))),
 q 0 (.g .h1 .h9 false d29 (.op (.bin .eq r28 a0))),
 q 0 (.g .h1 .h9 false d30 (.op (.bin .beq r27 r29))),
 q 0 (o d31 (.pick r25 (.c (.bool true)) r30)),
 q 0 (m d32 r31),
 q 0 (.g .h2 .h0 false d33 (.op (.mv r0))),
 q 0 (.g .h2 .h0 false d34 (.op (.mv r3))),
 q 0 (.g .h2 .h0 false d35 (.op (.bF 2 r33 r34))),
 q 0 (.g .h2 .h0 false d36 (.op (.br 0 r35))),
 q 0 (.g .h2 .h0 false d37 (.op (.bq r36))),
 w (.g .h2 .h0 false d38 (.call 345 [r37])),
 q 0 (.g .h2 .h0 false d39 (.op (.un .not r38))),
 q 0 (o d40 (.pick r32 (.c (.bool true)) r39)),
 q 0 (m d41 r40),
 q 0 (.g .h2 .h9 false d42 (.op (.mv r3))),
 q 0 (.g .h2 .h9 false d43 (.op (.bin .gt r42 a0))),
 q 0 (.g .h2 .h9 false d44 (.op (.mv r43))),
 q 0 (.g .h2 .hc true d45 (.op (.mv r0))),
 q 0 (.g .h2 .hc true d46 (.op (.mv r3))),
 q 0 (.g .h2 .hc true d47 (.op (.bin .sub r46 a1))),
 q 0 (.g .h2 .hc true d48 (.op (.bF 2 r45 r47))),
 q 0 (.g .h2 .hc true d49 (.op (.br 0 r48))),
 q 0 (.g .h2 .hc true d50 (.op (.bq r49))),
 q 0 (.g .h2 .hc true d51 (.op (.mv r0))),
 q 0 (.g .h2 .hc true d52 (.op (.mv r3))),
 q 0 (.g .h2 .hc true d53 (.op (.bF 2 r51 r52))),
 q 0 (.g .h2 .hc true d54 (.op (.br 0 r53))),
 q 0 (.g .h2 .hc true d55 (.op (.bq r54))),
 w (.g .h2 .hc true d56 (.call 346 [r50,r55])),
 q 0 (.g .h2 .hc true d57 (.op (.un .not r56))),
 q 0 (.g .h2 .h9 false d58 (.op (.pick r44 r57 (.c (.bool false))))),
 q 0 (o d59 (.pick r41 (.c (.bool true)) r58))]) (.ag k256_4 .skip)))) (.ag k256_5 .skip)))))) (.ag k256_6 .skip)))
def f256:AF:=.mk x256 [.t .h0 .h2]
def k257_0:KF:=K1 y0 fun c i x h a=>
 C c 344 [a] h fun b h=>
 E 0 b h fun d h=>
 E 1 b h fun e h=>
 E 2 b h fun f h=>
 Z d e h fun g h=>
 .ret (T3 g) h
def x257:AC:=(.ag k257_0 .skip)
def f257:AF:=.mk x257 [.t .h0 .h2]
def x258:AC:=b258
def f258:AF:=.mk x258 [.t .h0 .h4]
def x259:AC:=b259
def f259:AF:=.mk x259 [.t .h0 .h2]
def k260_0:KF:=K2 y0 y1 fun c i x h a b=>
 C c 126 [a,b] h fun d h=>
 tR (fm d i0 h) fun e h=>
 .ret (T9 e) h
def x260:AC:=(.ag k260_0 .skip)
def f260:AF:=.mk x260 [.t .h0 .h4]
def k261_0:KF:=K2 y0 y1 fun c i x h a b=>
 B 125 a h fun d h=>
 A 0 d h fun e h=>
 L e h fun f h=>
 A 0 b h fun g h=>
 L g h fun j h=>
 tR (aC f j h) fun k h=>
 .ret (T47 k) h
def x261:AC:=(.ag k261_0 .skip)
def f261:AF:=.mk x261 [.t .h0 .h3]
def k262_0:KF:=K1 y0 fun c i x h a=>
 B 142 a h fun b h=>
 A 1 b h fun d h=>
 L d h fun e h=>
 C c 183 [e] h fun f h=>
 Y f i0 h fun g h=>
 .ret (T3 g) h
def x262:AC:=(.ag k262_0 .skip)
def f262:AF:=.mk x262 [.t .h0 .h2]
def k263_2:KF:=K4 y0 y1 y7 y8 fun c i x h a b d e=>
 Y e d h fun f h=>
 I f (X 2 a e h fun g h=>
 M 2 g h fun j h=>
 tT (cd c b [j] h) fun k h=>
 I k (.ret (T9 e) h) (D e i1 h fun l h=>
 .nm (T62 a b d l) h)) (.ex 0 (T62 a b d e) h)
def k263_1:KF:=K2 y0 y1 fun c i x h a b=>
 G a h fun d h=>
 x (T62 a b d i0) h
def k263_3:KF:=fun c i x r h=>
 .ret (T9 (ni 0)) h
def k263_0:KF:=K2 y0 y1 fun c i x h a b=>
 x (T20 a b) h
def x263:AC:=(.ag k263_0 (.seq (.ag k263_1 (.block 0 (.loop (.ag k263_2 .skip)))) (.ag k263_3 .skip)))
def f263:AF:=.mk x263 [.t .h0 .h4]
def k264_0:KF:=K2 y0 y1 fun c i x h a b=>
 B 125 a h fun d h=>
 A 0 d h fun e h=>
 L e h fun f h=>
 A 1 b h fun g h=>
 L g h fun j h=>
 tR (aC f j h) fun k h=>
 .ret (T47 k) h
def x264:AC:=(.ag k264_0 .skip)
def f264:AF:=.mk x264 [.t .h0 .h3]
def k265_0:KF:=K2 y0 y1 fun c i x h a b=>
 B 299 a h fun d h=>
 M 4 d h fun e h=>
 C c 314 [e] h fun f h=>
 tR (bG f h) fun g h=>
 I g (.ret (T49 i0 (pi 22)) h) (M 4 d h fun j h=>
 C c 349 [j,b] h fun k h=>
 E 0 k h fun l h=>
 E 1 k h fun m h=>
 .ret (T49 l m) h)
def x265:AC:=(.ag k265_0 .skip)
def f265:AF:=.mk x265 [.t .h0 .h4,.t .h0 .h5]
def x266:AC:=b266
def f266:AF:=.mk x266 [.t .h0 .h4,.agg 2 .h0 .h5]
def x267:AC:=b267
def f267:AF:=.mk x267 [.t .h0 .h6,.agg 2 .h0 .h7]
def x269:AC:=b269
def f269:AF:=.mk x269 [.t .h0 .h4,.agg 2 .h0 .h5]
def k270_0:KF:=K2 y0 y1 fun c i x h a b=>
 B 86 a h fun d h=>
 A 0 d h fun e h=>
 L e h fun f h=>
 A 1 b h fun g h=>
 L g h fun j h=>
 tR (aC f j h) fun k h=>
 .ret (T47 k) h
def x270:AC:=(.ag k270_0 .skip)
def f270:AF:=.mk x270 [.t .h0 .h3]
def x272:AC:=b272
def f272:AF:=.mk x272 [.t .h0 .h6,.t .h0 .h7]
def k273_6:KF:=K6 y1 y2 y5 y26 y27 y28 fun c i x h a b d e f g=>
 D g i1 h fun j h=>
 .nm (T383 a b d e f j) h
def k273_5:KF:=K6 y1 y2 y5 y26 y27 y28 fun c i x h a b d e f g=>
 X 4 e g h fun j h=>
 M 4 j h fun k h=>
 O 299 4 (.k1 (Y4 i0 iS i0 .ah)) h fun l h=>
 S 4 l k h fun m h=>
 tQ (cV 4 l h) fun n=>
 tQ (iX 1 a i0 h) fun o=>
 tQ (lD o h) fun p=>
 tX (c 265 [n,p] h) fun q h=>
 tQ (ext 0 q h) fun s=>
 tQ (ext 1 q h) fun t=>
 A 3 b h fun v h=>
 L v h fun w h=>
 X 1 w g h fun y h=>
 L y h fun z h=>
 U [iS,i0] [.mk 0 1 (.c z),.mk 1 1 (.c s)] h fun a0 h=>
 tR (bs 103 2 1 [iS,i0] [.mk 0 2 (.c a0)] h) fun a1 h=>
 tR (cW 103 2 d a1 h) fun a2 h=>
 x (T383 a b a2 e f g) h
def k273_4:KF:=K6 y1 y2 y5 y26 y27 y28 fun c i x h a b d e f g=>
 Y g f h fun j h=>
 I j (x (T383 a b d e f g) h) (.ex 1 (T85 d) h)
def k273_3:KF:=K3 y1 y2 y5 fun c i x h a b d=>
 A 2 b h fun e h=>
 L e h fun f h=>
 G f h fun g h=>
 x (T383 a b d f g i0) h
def k273_10:KF:=K5 y2 y5 y60 y61 y62 fun c i x h a b d e f=>
 D f i1 h fun g h=>
 .nm (T385 a b d e g) h
def k273_9:KF:=K5 y2 y5 y60 y61 y62 fun c i x h a b d e f=>
 Y f e h fun g h=>
 I g (X 2 d f h fun j h=>
 M 2 j h fun k h=>
 O 103 2 (.k1 (Y2 iS i0)) h fun l h=>
 S 2 l k h fun m h=>
 A 5 a h fun n h=>
 L n h fun o h=>
 A 0 l h fun p h=>
 L p h fun q h=>
 C c 128 [o,q] h fun s h=>
 tR (bG s h) fun t h=>
 I t (M 2 l h fun v h=>
 tR (bs 103 2 1 [iS,i0] [.mk 0 2 (.c v)] h) fun w h=>
 tR (cW 103 2 b w h) fun y h=>
 x (T385 a y d e f) h) (x (T385 a b d e f) h)) (.ex 3 (T85 b) h)
def k273_8:KF:=K2 y1 y2 fun c i x h a b=>
 X 1 a i0 h fun d h=>
 L d h fun e h=>
 C c 78 [e] h fun f h=>
 X 1 a i1 h fun g h=>
 L g h fun j h=>
 G j h fun k h=>
 x (T385 b f j k i0) h
def k273_13:KF:=K7 y1 y2 y5 y6 y80 y81 y82 fun c i x h a b d e f g j=>
 Y j g h fun k h=>
 I k (X 1 f j h fun l h=>
 L l h fun m h=>
 X 1 a i0 h fun n h=>
 L n h fun o h=>
 tT (cd c e [o,m] h) fun p h=>
 tR (bs 103 2 1 [iS,i0] [.mk 0 2 (.c p)] h) fun q h=>
 tR (cW 103 2 d q h) fun s h=>
 D j i1 h fun t h=>
 .nm (T387 a b s e f g t) h) (.ex 5 (T387 a b d e f g j) h)
def k273_12:KF:=K4 y1 y2 y5 y6 fun c i x h a b d e=>
 A 4 b h fun f h=>
 L f h fun g h=>
 G g h fun j h=>
 x (T387 a b d e g j i0) h
def k273_17:KF:=K6 y1 y5 y6 y97 y98 y99 fun c i x h a b d e f g=>
 D g i1 h fun j h=>
 .nm (T388 a b d e f j) h
def k273_16:KF:=K6 y1 y5 y6 y97 y98 y99 fun c i x h a b d e f g=>
 X 3 e g h fun j h=>
 M 3 j h fun k h=>
 O 303 3 (.k1 (Y3 iS iS iS)) h fun l h=>
 S 3 l k h fun m h=>
 A 1 l h fun n h=>
 L n h fun o h=>
 tR (pG o (.str [99,111,117,110,116]) h) fun p h=>
 I p (tQ (iX 1 a i0 h) fun q=>
 tQ (lD q h) fun s=>
 tQ (fA 2 l h) fun t=>
 tQ (lD t h) fun v=>
 tX (cd c d [s,v] h) fun w h=>
 tQ (fl 1 w h) fun y=>
 A 0 l h fun z h=>
 L z h fun a0 h=>
 U [iS,i0] [.mk 0 1 (.c a0),.mk 1 1 (.c y)] h fun a1 h=>
 tR (bs 103 2 1 [iS,i0] [.mk 0 2 (.c a1)] h) fun a2 h=>
 tR (cW 103 2 b a2 h) fun a3 h=>
 x (T388 a a3 d e f g) h) (A 0 l h fun q h=>
 L q h fun s h=>
 U [iS,i0] [.mk 0 1 (.c s),.mk 1 1 (.c i1)] h fun t h=>
 tR (bs 103 2 1 [iS,i0] [.mk 0 2 (.c t)] h) fun v h=>
 tR (cW 103 2 b v h) fun w h=>
 x (T388 a w d e f g) h)
def k273_15:KF:=K6 y1 y5 y6 y97 y98 y99 fun c i x h a b d e f g=>
 Y g f h fun j h=>
 I j (x (T388 a b d e f g) h) (.ex 7 (T85 b) h)
def k273_14:KF:=K4 y1 y2 y5 y6 fun c i x h a b d e=>
 A 6 b h fun f h=>
 L f h fun g h=>
 G g h fun j h=>
 x (T388 a d e g j i0) h
def k273_18:KF:=K1 y1 fun c i x h a=>
 X 1 a i0 h fun b h=>
 L b h fun d h=>
 .ret (T9 d) h
def k273_11:KF:=K5 y1 y2 y5 y6 y19 fun c i x h a b d e f=>
 Q f (pi 7) h fun g h=>
 x (T386 a b d e g) h
def k273_7:KF:=K5 y1 y2 y5 y6 y19 fun c i x h a b d e f=>
 Q f (pi 4) h fun g h=>
 x (T384 a b d e f g) h
def k273_2:KF:=K5 y1 y2 y5 y6 y19 fun c i x h a b d e f=>
 Q f (pi 3) h fun g h=>
 x (T382 a b d e f g) h
def k273_1:KF:=K4 y1 y2 y5 y6 fun c i x h a b d e=>
 A 0 b h fun f h=>
 L f h fun g h=>
 x (T381 a b d e g) h
def k273_19:KF:=K1 y5 fun c i x h a=>
 .ret (T9 a) h
def k273_0:KF:=K2 y0 y1 fun c i x h a b=>
 B 131 a h fun d h=>
 x (T239 b d .ah (.fn 354 [])) h
def x273:AC:=(.ag k273_0 (.seq (.ag k273_1 (.block 0 (.ag k273_2 (.cond r23 (.ag k273_3 (.block 1 (.loop (.ag k273_4 (.ag k273_5 (.ag k273_6 .skip)))))) (.ag k273_7 (.cond r52 (.ag k273_8 (.block 3 (.loop (.ag k273_9 (.ag k273_10 .skip))))) (.ag k273_11 (.cond r77 (.seq (.ag k273_12 (.block 5 (.loop (.ag k273_13 .skip)))) (.ag k273_14 (.block 7 (.loop (.ag k273_15 (.ag k273_16 (.ag k273_17 .skip))))))) (.ag k273_18 .skip))))))))) (.ag k273_19 .skip)))
def f273:AF:=.mk x273 [.t .h0 .h4]
def x274:AC:=b274
def f274:AF:=.mk x274 [.t .h0 .ha,.t .h0 .hb]
def x275:AC:=b275
def f275:AF:=.mk x275 [.t .h0 .h4,.t .h0 .h5]
def k277_2:KF:=K4 y0 y1 y7 y8 fun c i x h a b d e=>
 Y e d h fun f h=>
 I f (X 3 a e h fun g h=>
 M 3 g h fun j h=>
 tT (cd c b [j] h) fun k h=>
 I k (.ret (T9 e) h) (D e i1 h fun l h=>
 .nm (T62 a b d l) h)) (.ex 0 (T62 a b d e) h)
def k277_1:KF:=K2 y0 y1 fun c i x h a b=>
 G a h fun d h=>
 x (T62 a b d i0) h
def k277_3:KF:=fun c i x r h=>
 .ret (T9 (ni 0)) h
def k277_0:KF:=K2 y0 y1 fun c i x h a b=>
 x (T20 a b) h
def x277:AC:=(.ag k277_0 (.seq (.ag k277_1 (.block 0 (.loop (.ag k277_2 .skip)))) (.ag k277_3 .skip)))
def f277:AF:=.mk x277 [.t .h0 .h4]
def k278_0:KF:=K1 y0 fun c i x h a=>
 I (.bool true) (C c 367 [a] h fun b h=>
 .ret (T3 b) h) (C c 368 [a] h fun b h=>
 .ret (T3 b) h)
def x278:AC:=(.ag k278_0 .skip)
def f278:AF:=.mk x278 [.t .h0 .h2]
def k279_0:KF:=K1 y0 fun c i x h a=>
 C c 115 [a] h fun b h=>
 tR (bG b h) fun d h=>
 I d (.ret (T4 i0 i0 (.bool false)) h) (tR (fT false (.c a) .nil h) fun e h=>
 tR (cK (.Um .i64) e h) fun f h=>
 tR (fT true (.c a) .nil h) fun g h=>
 tR (cK (.Um .i64) g h) fun j h=>
 .ret (T4 f j (.bool true)) h)
def x279:AC:=(.ag k279_0 .skip)
def f279:AF:=.mk x279 [.t .h0 .h2,.t .h0 .h3,.t .h0 .h4]
def k286_3:KF:=K5 y1 y2 y15 y16 y17 fun c i x h a b d e f=>
 D f i1 h fun g h=>
 .nm (T398 a b d e g) h
def k286_2:KF:=K5 y1 y2 y15 y16 y17 fun c i x h a b d e f=>
 Y f e h fun g h=>
 I g (X 4 d f h fun j h=>
 M 4 j h fun k h=>
 O 299 4 (.k1 (Y4 i0 iS i0 .ah)) h fun l h=>
 S 4 l k h fun m h=>
 X 4 a f h fun n h=>
 M 4 n h fun o h=>
 O 299 4 (.k1 (Y4 i0 iS i0 .ah)) h fun p h=>
 S 4 p o h fun q h=>
 M 4 l h fun s h=>
 M 4 p h fun t h=>
 tT (cd c b [s,t] h) fun v h=>
 tR (bG v h) fun w h=>
 I w (.ret (T6 (.bool false)) h) (x (T398 a b d e f) h)) (.ex 0 T17 h)
def k286_1:KF:=K3 y0 y1 y2 fun c i x h a b d=>
 G a h fun e h=>
 x (T398 b d a e i0) h
def k286_4:KF:=fun c i x r h=>
 .ret (T6 (.bool true)) h
def k286_0:KF:=K3 y0 y1 y2 fun c i x h a b d=>
 G a h fun e h=>
 G b h fun f h=>
 tR (bU e f h) fun g h=>
 I g (.ret (T6 (.bool false)) h) (x (T51 a b d) h)
def x286:AC:=(.ag k286_0 (.seq (.ag k286_1 (.block 0 (.loop (.ag k286_2 (.ag k286_3 .skip))))) (.ag k286_4 .skip)))
def f286:AF:=.mk x286 [.t .h0 .h6]
def k287_0:KF:=K2 y0 y1 fun c i x h a b=>
 B 299 a h fun d h=>
 B 299 b h fun e h=>
 x (T2 d e) h
def x287:AC:=(.ag k287_0 (.seq (.ops [of d5 0 r2,
 ol d6 r5,
 of d7 0 r3,
 ol d8 r7,
 o d9 (.bin .eq r6 r8),
 m d10 r9,
 .g .h0 .ha true d11 (.op (.br 1 r2)),
 .g .h0 .ha true d12 (.op (.bq r11)),
 .g .h0 .ha true d13 (.op (.br 1 r3)),
 .g .h0 .ha true d14 (.op (.bq r13)),
 .g .h0 .ha true d15 (.op (.bin .seq r12 r14)),
 o d16 (.pick r10 r15 (.c (.bool false))),
 m d17 r16,
 .g .h1 .h1 true d18 (.op (.br 2 r2)),
 .g .h1 .h1 true d19 (.op (.bq r18)),
 .g .h1 .h1 true d20 (.op (.br 2 r3)),
 .g .h1 .h1 true d21 (.op (.bq r20)),
 .g .h1 .h1 true d22 (.op (.bin .eq r19 r21)),
 o d23 (.pick r17 r22 (.c (.bool false))),
 m d24 r23,
 .g .h1 .h8 true d25 (.op (.br 3 r2)),
 .g .h1 .h8 true d26 (.op (.bq r25)),
 .g .h1 .h8 true d27 (.op (.br 3 r3)),
 .g .h1 .h8 true d28 (.op (.bq r27)),
 .g .h1 .h8 true d29 (.call 286 [r26,r28,(.c (.fn 287 []))]),
 o d30 (.pick r24 r29 (.c (.bool false))),
 m d4 r30]) .ret))
def f287:AF:=.mk x287 [.t .h0 .h4]
def k288_2:KF:=K4 y0 y1 y12 y13 fun c i x h a b d e=>
 Y e d h fun f h=>
 I f (tQ (iX 1 a e h) fun g=>
 tQ (lD g h) fun j=>
 tQ (iX 1 b e h) fun k=>
 tQ (lD k h) fun l=>
 tQ (pG j l h) fun m=>
 I m (.ret (T9 (.bool false)) h) (D e i1 h fun n h=>
 .nm (T399 a b d n) h)) (.ex 0 (T399 a b d e) h)
def k288_1:KF:=K2 y0 y1 fun c i x h a b=>
 G a h fun d h=>
 x (T399 a b d i0) h
def k288_3:KF:=fun c i x r h=>
 .ret (T9 (.bool true)) h
def k288_0:KF:=K2 y0 y1 fun c i x h a b=>
 G a h fun d h=>
 G b h fun e h=>
 tR (bU d e h) fun f h=>
 I f (.ret (T9 (.bool false)) h) (x (T20 a b) h)
def x288:AC:=(.ag k288_0 (.seq (.ag k288_1 (.block 0 (.loop (.ag k288_2 .skip)))) (.ag k288_3 .skip)))
def f288:AF:=.mk x288 [.t .h0 .h4]
def k289_2:KF:=K4 y0 y1 y12 y13 fun c i x h a b d e=>
 Y e d h fun f h=>
 I f (tQ (iX 3 a e h) fun g=>
 tQ (cV 3 g h) fun j=>
 tQ (iX 3 b e h) fun k=>
 tQ (cV 3 k h) fun l=>
 tQ (bK (.Ru [.s,.s,.s]) j l h) fun m=>
 I m (.ret (T9 (.bool false)) h) (D e i1 h fun n h=>
 .nm (T399 a b d n) h)) (.ex 0 (T399 a b d e) h)
def k289_1:KF:=K2 y0 y1 fun c i x h a b=>
 G a h fun d h=>
 x (T399 a b d i0) h
def k289_3:KF:=fun c i x r h=>
 .ret (T9 (.bool true)) h
def k289_0:KF:=K2 y0 y1 fun c i x h a b=>
 G a h fun d h=>
 G b h fun e h=>
 tR (bU d e h) fun f h=>
 I f (.ret (T9 (.bool false)) h) (x (T20 a b) h)
def x289:AC:=(.ag k289_0 (.seq (.ag k289_1 (.block 0 (.loop (.ag k289_2 .skip)))) (.ag k289_3 .skip)))
def f289:AF:=.mk x289 [.t .h0 .h4]
def k290_3:KF:=K5 y1 y2 y15 y16 y17 fun c i x h a b d e f=>
 D f i1 h fun g h=>
 .nm (T398 a b d e g) h
def k290_2:KF:=K5 y1 y2 y15 y16 y17 fun c i x h a b d e f=>
 Y f e h fun g h=>
 I g (X 8 d f h fun j h=>
 M 8 j h fun k h=>
 O 131 8 (.k1 (Y8 i0 iS .ah .ah .ah .ah .ah .ah)) h fun l h=>
 S 8 l k h fun m h=>
 X 8 a f h fun n h=>
 M 8 n h fun o h=>
 O 131 8 (.k1 (Y8 i0 iS .ah .ah .ah .ah .ah .ah)) h fun p h=>
 S 8 p o h fun q h=>
 M 8 l h fun s h=>
 M 8 p h fun t h=>
 tT (cd c b [s,t] h) fun v h=>
 tR (bG v h) fun w h=>
 I w (.ret (T6 (.bool false)) h) (x (T398 a b d e f) h)) (.ex 0 T17 h)
def k290_1:KF:=K3 y0 y1 y2 fun c i x h a b d=>
 G a h fun e h=>
 x (T398 b d a e i0) h
def k290_4:KF:=fun c i x r h=>
 .ret (T6 (.bool true)) h
def k290_0:KF:=K3 y0 y1 y2 fun c i x h a b d=>
 G a h fun e h=>
 G b h fun f h=>
 tR (bU e f h) fun g h=>
 I g (.ret (T6 (.bool false)) h) (x (T51 a b d) h)
def x290:AC:=(.ag k290_0 (.seq (.ag k290_1 (.block 0 (.loop (.ag k290_2 (.ag k290_3 .skip))))) (.ag k290_4 .skip)))
def f290:AF:=.mk x290 [.t .h0 .h6]
def x291:AC:=b291
def f291:AF:=.mk x291 []
def k299_0:KF:=K1 y0 fun c i x h a=>
 tR (fm a (.int .u8 (.ofNat 97)) h) fun b h=>
 gD b true (fun d=>d a h) h fun d h=>
 gD b true (fun e=>tR (oZ d (.int .u8 (.ofNat 122)) h) fun f h=>
 e f h) h fun e h=>
 tR (bQ (.c b) (.c e) (.c (.bool false)) .nil h) fun f h=>
 .ret (T3 f) h
def x299:AC:=(.ag k299_0 .skip)
def f299:AF:=.mk x299 [.t .h0 .h2]
def k300_0:KF:=K1 y0 fun c i x h a=>
 tR (fm a (.int .u8 (.ofNat 48)) h) fun b h=>
 gD b true (fun d=>d a h) h fun d h=>
 gD b true (fun e=>tR (oZ d (.int .u8 (.ofNat 57)) h) fun f h=>
 e f h) h fun e h=>
 tR (bQ (.c b) (.c e) (.c (.bool false)) .nil h) fun f h=>
 .ret (T3 f) h
def x300:AC:=(.ag k300_0 .skip)
def f300:AF:=.mk x300 [.t .h0 .h2]
def k301_1:KF:=K4 y0 y2 y7 y19 fun c i x h a b d e=>
 I e (.nm (T400 a b d) h) (.ex 0 (T400 a b d) h)
def k301_2:KF:=K3 y0 y2 y7 fun c i x h a b d=>
 D d i1 h fun e h=>
 .nm (T400 a b e) h
def k301_3:KF:=K1 y7 fun c i x h a=>
 .ret (T6 a) h
def k301_0:KF:=K3 y0 y1 y2 fun c i x h a b d=>
 x (T400 a d b) h
def x301:AC:=(.ag k301_0 (.seq (.block 0 (.loop (.seq (.seq (.ops [m d9 r7,
 m d10 r0,
 o d11 (.dI r10),
 o d12 (.bin .lt r9 r11),
 m d13 r12,
 .g .h0 .hd true d14 (.op (.mv r2)),
 .g .h0 .hd true d15 (.op (.mv r0)),
 .g .h0 .hd true d16 (.op (.mv r7)),
 .g .h0 .hd true d17 (.op (.idxs r15 r16)),
 .g .h0 .hd true d18 (.jb r14 [r17]),
 o d19 (.pick r13 r18 (.c (.bool false)))]) (.ag k301_1 .skip)) (.ag k301_2 .skip)))) (.ag k301_3 .skip)))
def f301:AF:=.mk x301 [.t .h0 .h6]
def k302_3:KF:=K2 y7 y8 fun c i x h a b=>
 .ret (T49 b a) h
def k302_2:KF:=K4 y6 y7 y8 y9 fun c i x h a b d e=>
 Q b a h fun f h=>
 gD f false (fun g=>g e h) h fun g h=>
 gD f false (fun j=>tR (bK (.jP .i) g .kQ h) fun k h=>
 j k h) h fun j h=>
 tR (bQ (.c f) (.c (.bool true)) (.c j) .nil h) fun k h=>
 I k (.ret (T49 i0 (ni 0)) h) (x (T403 b d) h)
def k302_1:KF:=K4 y0 y1 y6 y7 fun c i x h a b d e=>
 tR (fS (.c a) (.some (.c b)) (.some (.c e)) .nil h) fun f h=>
 C c 373 [f,(pi 10),(pi 64)] h fun g h=>
 E 0 g h fun j h=>
 E 1 g h fun k h=>
 x (T402 d e j k) h
def k302_0:KF:=K2 y0 y1 fun c i x h a b=>
 tR (eh (.c a) (.c b) .nil h) fun d h=>
 Q d (.int .u8 (.ofNat 45)) h fun e h=>
 I e (D b i1 h fun f h=>
 C c 301 [a,f,(.fn 300 [])] h fun g h=>
 x (T401 a b f g) h) (C c 301 [a,b,(.fn 300 [])] h fun f h=>
 x (T401 a b b f) h)
def x302:AC:=(.ag k302_0 (.ag k302_1 (.ag k302_2 (.ag k302_3 .skip))))
def f302:AF:=.mk x302 [.t .h0 .h4,.t .h0 .h5]
def k304_1:KF:=K2 y1 y19 fun c i x h a b=>
 I b (.ret (T3 iS) h) (.nm (T1 a) h)
def k304_2:KF:=K1 y1 fun c i x h a=>
 A 3 a h fun b h=>
 L b h fun d h=>
 X 5 d i0 h fun e h=>
 A 1 e h fun f h=>
 L f h fun g h=>
 .ret (T3 g) h
def k304_0:KF:=K1 y0 fun c i x h a=>
 B 219 a h fun b h=>
 x (T1 b) h
def x304:AC:=(.ag k304_0 (.seq (.seq (.ops [of d3 0 r1,
 ol d4 r3,
 o d5 (.bin .ne r4 a1),
 m d6 r5,
 .g .h0 .h6 false d7 (.op (.br 3 r1)),
 .g .h0 .h6 false d8 (.op (.bq r7)),
 .g .h0 .h6 false d9 (.op (.len r8)),
 .g .h0 .h6 false d10 (.op (.bin .eq r9 a0)),
 o d11 (.pick r6 (.c (.bool true)) r10),
 m d12 r11,
 .g .h0 .hc false d13 (.op (.br 3 r1)),
 .g .h0 .hc false d14 (.op (.bq r13)),
 .g .h0 .hc false d15 (.op (.bF 5 r14 a0)),
 .g .h0 .hc false d16 (.op (.br 0 r15)),
 .g .h0 .hc false d17 (.op (.bq r16)),
 .g .h0 .hc false d18 (.op (.bin .ne r17 a2)),
 o d19 (.pick r12 (.c (.bool true)) r18)]) (.ag k304_1 .skip)) (.ag k304_2 .skip)))
def f304:AF:=.mk x304 [.t .h0 .h2]
def k305_0:KF:=K2 y0 y1 fun c i x h a b=>
 B 386 b h fun d h=>
 C c 375 [a,(.fn 376 [d])] h fun e h=>
 tR (bG e h) fun f h=>
 .ret (T9 f) h
def x305:AC:=(.ag k305_0 .skip)
def f305:AF:=.mk x305 [.t .h0 .h4]
def k306_0:KF:=K1 y0 fun c i x h a=>
 B 219 a h fun b h=>
 x (T1 b) h
def x306:AC:=(.ag k306_0 (.seq (.ops [of d3 0 r1,
 ol d4 r3,
 o d5 (.bin .eq r4 a1),
 m d6 r5,
 .g .h0 .h6 true d7 (.op (.br 3 r1)),
 .g .h0 .h6 true d8 (.op (.bq r7)),
 .g .h0 .h6 true d9 (.op (.len r8)),
 .g .h0 .h6 true d10 (.op (.bin .eq r9 a2)),
 o d11 (.pick r6 r10 (.c (.bool false))),
 m d12 r11,
 .g .h0 .hc true d13 (.op (.br 3 r1)),
 .g .h0 .hc true d14 (.op (.bq r13)),
 .g .h0 .hc true d15 (.op (.bF 5 r14 a0)),
 .g .h0 .hc true d16 (.op (.br 0 r15)),
 .g .h0 .hc true d17 (.op (.bq r16)),
 .g .h0 .hc true d18 (.op (.bin .eq r17 a2)),
 o d19 (.pick r12 r18 (.c (.bool false))),
 m d2 r19]) .ret))
def f306:AF:=.mk x306 [.t .h0 .h2]
def k307_0:KF:=K1 y0 fun c i x h a=>
 B 219 a h fun b h=>
 x (T1 b) h
def x307:AC:=(.ag k307_0 (.seq (.ops [of d3 0 r1,
 ol d4 r3,
 o d5 (.bin .eq r4 a1),
 m d6 r5,
 .g .h0 .h6 true d7 (.op (.br 3 r1)),
 .g .h0 .h6 true d8 (.op (.bq r7)),
 .g .h0 .h6 true d9 (.call 375 [r8,(.c (.fn 377 []))]),
 .g .h0 .h6 true d10 (.op (.un .not r9)),
 o d11 (.pick r6 r10 (.c (.bool false))),
 m d2 r11]) .ret))
def f307:AF:=.mk x307 [.t .h0 .h2]
def k308_0:KF:=K1 y0 fun c i x h a=>
 B 219 a h fun b h=>
 x (T1 b) h
def x308:AC:=(.ag k308_0 (.seq (.ops [o d3 (.cV 5 r1),
 oc d4 307 [r3],
 m d5 r4,
 .g .h0 .h5 true d6 (.op (.br 3 r1)),
 .g .h0 .h5 true d7 (.op (.bq r6)),
 .g .h0 .h5 true d8 (.op (.len r7)),
 .g .h0 .h5 true d9 (.op (.bin .eq r8 a2)),
 .g .h0 .h5 true d10 (.op (.mv r9)),
 .g .h0 .ha false d11 (.op (.br 3 r1)),
 .g .h0 .ha false d12 (.op (.bq r11)),
 .g .h0 .ha false d13 (.op (.len r12)),
 .g .h0 .ha false d14 (.op (.bin .eq r13 (.c (pi 3)))),
 .g .h0 .h5 true d15 (.op (.pick r10 (.c (.bool true)) r14)),
 o d16 (.pick r5 r15 (.c (.bool false))),
 m d2 r16]) .ret))
def f308:AF:=.mk x308 [.t .h0 .h2]
def k309_3:KF:=K2 y1 y2 fun c i x h a b=>
 A 1 a h fun d h=>
 L d h fun e h=>
 C c 119 [e] h fun f h=>
 tR (bG f h) fun g h=>
 x (T210 a b g) h
def k309_4:KF:=K2 y1 y2 fun c i x h a b=>
 A 1 a h fun d h=>
 L d h fun e h=>
 U [i0,iS,i0,.ah] [.mk 0 1 (.c i1),.mk 1 1 (.c e)] h fun f h=>
 S 4 b f h fun g h=>
 .ret (T4 b i0 i0) h
def k309_6:KF:=K4 y1 y2 y6 y19 fun c i x h a b d e=>
 I e (A 2 a h fun f h=>
 L f h fun g h=>
 U [i0,iS,i0,.ah] [.mk 0 1 (.c (pi 2)),.mk 2 1 (.c g)] h fun j h=>
 S 4 b j h fun k h=>
 .ret (T4 b i0 i0) h) (Q d (pi 4) h fun f h=>
 I f (A 1 a h fun g h=>
 L g h fun j h=>
 U [i0,iS,i0,.ah] [.mk 0 1 (.c (pi 3)),.mk 1 1 (.c j)] h fun k h=>
 S 4 b k h fun l h=>
 .ret (T4 b i0 i0) h) (Q d i1 h fun g h=>
 I g (M 5 a h fun j h=>
 C c 378 [j] h fun k h=>
 E 0 k h fun l h=>
 E 1 k h fun m h=>
 E 2 k h fun n h=>
 S 4 b l h fun o h=>
 .ret (T4 b m n) h) (.nm (T21 a b) h)))
def k309_5:KF:=K3 y1 y2 y6 fun c i x h a b d=>
 Q d (pi 3) h fun e h=>
 x (T406 a b d e) h
def k309_2:KF:=K3 y1 y2 y6 fun c i x h a b d=>
 Q d (pi 2) h fun e h=>
 x (T405 a b d e) h
def k309_1:KF:=K2 y1 y2 fun c i x h a b=>
 A 0 a h fun d h=>
 L d h fun e h=>
 x (T404 a b e) h
def k309_0:KF:=K1 y0 fun c i x h a=>
 B 219 a h fun b h=>
 O 299 4 (.k1 (Y4 i0 iS i0 .ah)) h fun d h=>
 x (T21 b d) h
def x309:AC:=(.ag k309_0 (.seq (.ag k309_1 (.block 0 (.ag k309_2 (.cond r7 (.seq (.ag k309_3 (.cond r12 (.seq (.da [q 0 (o d13 (.build [i0,iS,i0,.ah] [])),
 w (o .no (.gS 4 r2 r13)),
 qf 1 d14 4 r1,
 ql 1 d15 r14,
 q 0 (m d3 (.c (pi 20))),
 q 0 (m d4 r15)]) .ret) .skip)) (.ag k309_4 .skip)) (.ag k309_5 (.ag k309_6 .skip)))))) (.seq (.da [q 0 (o d36 (.build [i0,iS,i0,.ah] [])),
 w (o .no (.gS 4 r2 r36)),
 qf 1 d37 4 r1,
 ql 1 d38 r37,
 q 0 (m d3 (.c (pi 12))),
 q 0 (m d4 r38)]) .ret)))
def f309:AF:=.mk x309 [.agg 4 .h0 .h2,.t .h0 .h3,.t .h0 .h4]
def k310_1:KF:=K2 y0 y1 fun c i x h a b=>
 Y b i0 h fun d h=>
 x (T44 a b d) h
def k310_2:KF:=K2 y0 y1 fun c i x h a b=>
 tQ (nC a h) fun d=>
 tQ (fA 1 d h) fun e=>
 tQ (lD e h) fun f=>
 tQ (pE (.c f) .nil h) fun g=>
 tQ (nC a h) fun j=>
 tQ (fA 1 j h) fun k=>
 tQ (lD k h) fun l=>
 tQ (len l h) fun m=>
 tQ (zo g m h) fun n=>
 tQ (vB n b h) fun o=>
 I o (C c 380 [a,b] h fun p h=>
 .nm T17 h) (.nm T17 h)
def k310_0:KF:=K2 y0 y1 fun c i x h a b=>
 C c 379 [a] h fun d h=>
 x (T20 a b) h
def x310:AC:=(.ag k310_0 (.seq (.ag k310_1 (.cond r7 (.ops [o d8 (.Ie 9 (.c (.str [115,116,114,105,110,103,115,46,66,117,105,108,100,101,114,46,71,114,111,119,58,32,110,101,103,97,116,105,118,101,32,99,111,117,110,116]))),
 o .no (.bad 400)]) .skip)) (.ag k310_2 .skip)))
def f310:AF:=.mk x310 []
def k311_0:KF:=K2 y0 y1 fun c i x h a b=>
 C c 379 [a] h fun d h=>
 J a h fun e h=>
 A 1 e h fun f h=>
 L f h fun g h=>
 tR (oV 5 (.c g) (.c b) .nil h) fun j h=>
 J a h fun k h=>
 A 1 k h fun l h=>
 W l j h fun m h=>
 tR (dI b h) fun n h=>
 .ret (T49 n .kQ) h
def x311:AC:=(.ag k311_0 .skip)
def f311:AF:=.mk x311 [.t .h0 .h4,.t .h0 .h5]
def k312_0:KF:=K1 y0 fun c i x h a=>
 tQ (nC a h) fun b=>
 tQ (fA 1 b h) fun d=>
 tQ (lD d h) fun e=>
 tQ (jz (.c e) .nil h) fun f=>
 tQ (nC a h) fun g=>
 tQ (fA 1 g h) fun j=>
 tQ (lD j h) fun k=>
 tQ (len k h) fun l=>
 tX (RV.gh (lJ 5 (.c f) (.c l) .nil h)) fun m h=>
 .ret (T3 m) h
def x312:AC:=(.ag k312_0 .skip)
def f312:AF:=.mk x312 [.t .h0 .h2]
def k313_4:KF:=K4 y0 y5 y6 y7 fun c i x h a b d e=>
 D i1 e h fun f h=>
 tR (iM 24 1 (.c b) (.some (.c i1)) (.some (.c f)) .none .nil h) fun g h=>
 C c 383 [g,d] h fun j h=>
 Y a i0 h fun k h=>
 I k (tR (AD 24 1 b i0 h) fun l h=>
 W l (.int .u8 (.ofNat 45)) h fun m h=>
 D i1 e h fun n h=>
 tR (iM 24 1 (.c b) .none (.some (.c n)) .none .nil h) fun o h=>
 tR (cK .Wq o h) fun p h=>
 .ret (T9 p) h) (D i1 e h fun l h=>
 tR (iM 24 1 (.c b) (.some (.c i1)) (.some (.c l)) .none .nil h) fun m h=>
 tR (cK .Wq m h) fun n h=>
 .ret (T9 n) h)
def k313_3:KF:=K1 y0 fun c i x h a=>
 O 446 24 (.k2 (.mk (.mk (.int .u8 (.ofNat 0)) (.int .u8 (.ofNat 0)) (.int .u8 (.ofNat 0)) (.int .u8 (.ofNat 0)) (.int .u8 (.ofNat 0)) (.int .u8 (.ofNat 0)) (.int .u8 (.ofNat 0)) (.int .u8 (.ofNat 0)) (.int .u8 (.ofNat 0)) (.int .u8 (.ofNat 0)) (.int .u8 (.ofNat 0)) (.int .u8 (.ofNat 0)) (.int .u8 (.ofNat 0)) (.int .u8 (.ofNat 0)) (.int .u8 (.ofNat 0)) (.int .u8 (.ofNat 0))) (Y8 (.int .u8 (.ofNat 0)) (.int .u8 (.ofNat 0)) (.int .u8 (.ofNat 0)) (.int .u8 (.ofNat 0)) (.int .u8 (.ofNat 0)) (.int .u8 (.ofNat 0)) (.int .u8 (.ofNat 0)) (.int .u8 (.ofNat 0))) .nil .nil .nil .nil .nil .nil .nil .nil .nil .nil .nil .nil .nil .nil)) h fun b h=>
 tR (cK (.toInt .u64) a h) fun d h=>
 Y a i0 h fun e h=>
 I e (tR (mV d h) fun f h=>
 C c 382 [f] h fun g h=>
 x (T78 a b f g) h) (C c 382 [d] h fun f h=>
 x (T78 a b d f) h)
def k313_2:KF:=K1 y0 fun c i x h a=>
 tR (oZ i0 a h) fun b h=>
 gD b true (fun d=>d a h) h fun d h=>
 gD b true (fun e=>Y d (pi 100) h fun f h=>
 e f h) h fun e h=>
 tR (bQ (.c b) (.c e) (.c (.bool false)) .nil h) fun f h=>
 I f (C c 381 [a] h fun g h=>
 .ret (T9 g) h) (x (T0 a) h)
def k313_1:KF:=K2 y0 y1 fun c i x h a b=>
 Q b (pi 10) h fun d h=>
 x (T407 a b d) h
def k313_5:KF:=K2 y0 y1 fun c i x h a b=>
 tR (cK (.toInt .u64) a h) fun d h=>
 Y a i0 h fun e h=>
 C c 384 [.ah,d,b,e,(.bool false)] h fun f h=>
 E 0 f h fun g h=>
 E 1 f h fun j h=>
 .ret (T9 j) h
def k313_0:KF:=K2 y0 y1 fun c i x h a b=>
 x (T20 a b) h
def x313:AC:=(.ag k313_0 (.seq (.ag k313_1 (.cond r11 (.ag k313_2 (.ag k313_3 (.ag k313_4 .skip))) .skip)) (.ag k313_5 .skip)))
def f313:AF:=.mk x313 [.t .h0 .h4]
def k314_6:KF:=K1 y1 fun c i x h a=>
 A 1 a h fun b h=>
 L b h fun d h=>
 C c 385 [d] h fun e h=>
 x (T148 a e) h
def k314_5:KF:=K2 y1 y5 fun c i x h a b=>
 Q b (pi 4) h fun d h=>
 x (T411 a d) h
def k314_4:KF:=K2 y1 y5 fun c i x h a b=>
 Q b (pi 3) h fun d h=>
 x (T410 a b d) h
def k314_3:KF:=K2 y1 y5 fun c i x h a b=>
 Q b (pi 2) h fun d h=>
 x (T409 a b d) h
def k314_2:KF:=K2 y1 y5 fun c i x h a b=>
 Q b i1 h fun d h=>
 x (T235 a b d) h
def k314_1:KF:=K1 y1 fun c i x h a=>
 A 0 a h fun b h=>
 L b h fun d h=>
 x (T408 a d) h
def k314_7:KF:=fun c i x r h=>
 .ret (T3 (.bool false)) h
def k314_0:KF:=K1 y0 fun c i x h a=>
 B 299 a h fun b h=>
 x (T1 b) h
def x314:AC:=(.ag k314_0 (.seq (.ag k314_1 (.block 0 (.ag k314_2 (.cond r6 (.seq (.ops [of d8 1 r1,
 ol d9 r8,
 oc d10 119 [r9],
 m d11 r10,
 .g .h0 .hb true d12 (.op (.br 2 r1)),
 .g .h0 .hb true d13 (.op (.bq r12)),
 .g .h0 .hb true d14 (.op (.bin .eq r13 a0)),
 o d15 (.pick r11 r14 (.c (.bool false))),
 m d16 r15,
 .g .h1 .h0 true d17 (.op (.br 3 r1)),
 .g .h1 .h0 true d18 (.op (.bq r17)),
 .g .h1 .h0 true d19 (.op (.len r18)),
 .g .h1 .h0 true d20 (.op (.bin .eq r19 a0)),
 o d21 (.pick r16 r20 (.c (.bool false))),
 m d2 r21]) .ret) (.ag k314_3 (.cond r22 (.seq (.ops [of d24 1 r1,
 ol d25 r24,
 o d26 (.bin .seq r25 (.c iS)),
 m d27 r26,
 .g .h1 .hb true d28 (.op (.br 3 r1)),
 .g .h1 .hb true d29 (.op (.bq r28)),
 .g .h1 .hb true d30 (.op (.len r29)),
 .g .h1 .hb true d31 (.op (.bin .eq r30 a0)),
 o d32 (.pick r27 r31 (.c (.bool false))),
 m d2 r32]) .ret) (.ag k314_4 (.cond r33 (.seq (.ops [of d35 2 r1,
 ol d36 r35,
 o d37 (.bin .eq r36 a0),
 m d38 r37,
 .g .h2 .h6 true d39 (.op (.br 3 r1)),
 .g .h2 .h6 true d40 (.op (.bq r39)),
 .g .h2 .h6 true d41 (.op (.len r40)),
 .g .h2 .h6 true d42 (.op (.bin .eq r41 a0)),
 o d43 (.pick r38 r42 (.c (.bool false))),
 m d2 r43]) .ret) (.ag k314_5 (.cond r44 (.ag k314_6 (.seq (.ops [m d49 r3,
 o d50 (.bin .gt r49 a0),
 m d51 r50,
 .g .h3 .h3 true d52 (.op (.mv r3)),
 .g .h3 .h3 true d53 (.op (.br 3 r1)),
 .g .h3 .h3 true d54 (.op (.bq r53)),
 .g .h3 .h3 true d55 (.op (.len r54)),
 .g .h3 .h3 true d56 (.op (.bin .eq r52 r55)),
 o d57 (.pick r51 r56 (.c (.bool false))),
 m d58 r57,
 .g .h3 .ha true d59 (.op (.br 2 r1)),
 .g .h3 .ha true d60 (.op (.bq r59)),
 .g .h3 .ha true d61 (.op (.bin .eq r60 a0)),
 o d62 (.pick r58 r61 (.c (.bool false))),
 m d63 r62,
 .g .h3 .hf true d64 (.op (.br 3 r1)),
 .g .h3 .hf true d65 (.op (.bq r64)),
 .g .h3 .hf true d66 (.call 386 [r65,(.c (.fn 387 []))]),
 .g .h3 .hf true d67 (.op (.un .not r66)),
 o d68 (.pick r63 r67 (.c (.bool false))),
 m d2 r68]) .ret)) .skip)))))))))) (.ag k314_7 .skip)))
def f314:AF:=.mk x314 [.t .h0 .h2]
def x315:AC:=b315
def f315:AF:=.mk x315 []
def x321:AC:=b321
def f321:AF:=.mk x321 [.t .h0 .h4]
def k324_0:KF:=K1 y0 fun c i x h a=>
 tR (bK (.jO .s) a .ah h) fun b h=>
 I b (.ret (T3 .ah) h) (tR (bs 142 2 0 [] [] h) fun d h=>
 tR (cW 142 2 d a h) fun e h=>
 .ret (T3 e) h)
def x324:AC:=(.ag k324_0 .skip)
def f324:AF:=.mk x324 [.t .h0 .h2]
def k325_0:KF:=K2 y0 y1 fun c i x h a b=>
 G a h fun d h=>
 C c 391 [a,d,b] h fun e h=>
 .nm T17 h
def x325:AC:=(.ag k325_0 .skip)
def f325:AF:=.mk x325 []
def x326:AC:=b326
def f326:AF:=.mk x326 [.t .h0 .h4]
def k327_0:KF:=K2 y0 y1 fun c i x h a b=>
 C c 183 [a] h fun d h=>
 C c 183 [b] h fun e h=>
 D d e h fun f h=>
 C c 115 [a] h fun g h=>
 gD g true (fun j=>j b h) h fun j h=>
 gD g true (fun k=>C c 115 [j] h fun l h=>
 k l h) h fun k h=>
 tR (bQ (.c g) (.c k) (.c (.bool false)) .nil h) fun l h=>
 C c 392 [f,l] h fun m h=>
 E 0 m h fun n h=>
 E 1 m h fun o h=>
 .ret (T49 n o) h
def x327:AC:=(.ag k327_0 .skip)
def f327:AF:=.mk x327 [.t .h0 .h4,.t .h0 .h5]
def x328:AC:=b328
def f328:AF:=.mk x328 [.t .h0 .h4]
def x330:AC:=b330
def f330:AF:=.mk x330 [.t .h0 .h4,.t .h0 .h5,.t .h0 .h6]
def k331_2:KF:=K2 y0 y3 fun c i x h a b=>
 G a h fun d h=>
 Y b d h fun e h=>
 I e (X 5 a b h fun f h=>
 A 0 f h fun g h=>
 L g h fun j h=>
 tR (bU j (pi 2) h) fun k h=>
 I k (.ret (T3 (.bool false)) h) (D b i1 h fun l h=>
 .nm (T24 a l) h)) (.ex 0 (T24 a b) h)
def k331_1:KF:=K1 y0 fun c i x h a=>
 x (T24 a i0) h
def k331_3:KF:=fun c i x r h=>
 .ret (T3 (.bool true)) h
def k331_0:KF:=K1 y0 fun c i x h a=>
 x (T0 a) h
def x331:AC:=(.ag k331_0 (.seq (.ag k331_1 (.block 0 (.loop (.ag k331_2 .skip)))) (.ag k331_3 .skip)))
def f331:AF:=.mk x331 [.t .h0 .h2]
def k332_3:KF:=K2 y3 y4 fun c i x h a b=>
 I b (.ret (T3 (pi 2)) h) (tR (aC a (.str [110,101,103]) h) fun d h=>
 I d (I d (.ret (T3 i1) h) (tR (aC a (.str [105,102]) h) fun e h=>
 I e (.ret (T3 (pi 3)) h) (.nm T17 h))) (tR (aC a (.str [110,111,116]) h) fun e h=>
 I e (I e (.ret (T3 i1) h) (tR (aC a (.str [105,102]) h) fun f h=>
 I f (.ret (T3 (pi 3)) h) (.nm T17 h))) (tR (aC a (.str [108,101,110]) h) fun f h=>
 I f (.ret (T3 i1) h) (tR (aC a (.str [105,102]) h) fun g h=>
 I g (.ret (T3 (pi 3)) h) (.nm T17 h)))))
def k332_2:KF:=K1 y3 fun c i x h a=>
 tR (aC a (.str [97,100,100]) h) fun b h=>
 I b (x (T314 a b) h) (tR (aC a (.str [115,117,98]) h) fun d h=>
 I d (x (T314 a d) h) (tR (aC a (.str [109,117,108]) h) fun e h=>
 I e (x (T314 a e) h) (tR (aC a (.str [101,113]) h) fun f h=>
 I f (x (T314 a f) h) (tR (aC a (.str [108,116]) h) fun g h=>
 I g (x (T314 a g) h) (tR (aC a (.str [97,110,100]) h) fun j h=>
 I j (x (T314 a j) h) (tR (aC a (.str [111,114]) h) fun k h=>
 I k (x (T314 a k) h) (tR (aC a (.str [99,97,116]) h) fun l h=>
 x (T314 a l) h)))))))
def k332_1:KF:=K1 y0 fun c i x h a=>
 x (T47 a) h
def k332_4:KF:=fun c i x r h=>
 .ret (T3 i0) h
def k332_0:KF:=K1 y0 fun c i x h a=>
 x (T0 a) h
def x332:AC:=(.ag k332_0 (.seq (.ag k332_1 (.block 0 (.ag k332_2 (.ag k332_3 .skip)))) (.ag k332_4 .skip)))
def f332:AF:=.mk x332 [.t .h0 .h2]
def k333_2:KF:=K3 y0 y3 y4 fun c i x h a b d=>
 tR (pH b (.int .u64 (.ofNat 10)) h) fun e h=>
 D e (.int .u64 (.ofNat 1)) h fun f h=>
 tR (fS (.c (.str [48,49,50,51,52,53,54,55,56,57])) (.some (.c e)) (.some (.c f)) .nil h) fun g h=>
 tR (cA g d h) fun j h=>
 tR (kX b (.int .u64 (.ofNat 10)) h) fun k h=>
 .nm (T25 a k j) h
def k333_1:KF:=K3 y0 y3 y4 fun c i x h a b d=>
 tR (fH b (.int .u64 (.ofNat 0)) h) fun e h=>
 gD e false (fun f=>f d h) h fun f h=>
 gD e false (fun g=>tR (aC f iS h) fun j h=>
 g j h) h fun g h=>
 tR (bQ (.c e) (.c (.bool true)) (.c g) .nil h) fun j h=>
 I j (x (T25 a b d) h) (.ex 0 (T234 a d) h)
def k333_3:KF:=K2 y0 y4 fun c i x h a b=>
 Y a i0 h fun d h=>
 I d (tR (cA (.str [45]) b h) fun e h=>
 .ret (T3 e) h) (.ret (T3 b) h)
def k333_0:KF:=K1 y0 fun c i x h a=>
 tR (cK (.toInt .u64) a h) fun b h=>
 Y a i0 h fun d h=>
 I d (D a i1 h fun e h=>
 tR (mV e h) fun f h=>
 tR (cK (.toInt .u64) f h) fun g h=>
 D g (.int .u64 (.ofNat 1)) h fun j h=>
 x (T25 a j iS) h) (x (T25 a b iS) h)
def x333:AC:=(.ag k333_0 (.seq (.block 0 (.loop (.ag k333_1 (.ag k333_2 .skip)))) (.ag k333_3 .skip)))
def f333:AF:=.mk x333 [.t .h0 .h2]
def k335_6:KF:=K2 y1 y63 fun c i x h a b=>
 I b (.ret (T3 (.bool false)) h) (.nm (T1 a) h)
def k335_8:KF:=K2 y1 y3 fun c i x h a b=>
 A 3 a h fun d h=>
 L d h fun e h=>
 G e h fun f h=>
 Y b f h fun g h=>
 I g (A 3 a h fun j h=>
 L j h fun k h=>
 X 4 k b h fun l h=>
 M 4 l h fun m h=>
 C c 335 [m] h fun n h=>
 tR (bG n h) fun o h=>
 I o (.ret (T3 (.bool false)) h) (D b i1 h fun p h=>
 .nm (T148 a p) h)) (.ex 1 (T148 a b) h)
def k335_7:KF:=K1 y1 fun c i x h a=>
 x (T148 a i0) h
def k335_9:KF:=fun c i x r h=>
 .ret (T3 (.bool true)) h
def k335_5:KF:=K2 y1 y5 fun c i x h a b=>
 Q b (pi 4) h fun d h=>
 x (T411 a d) h
def k335_4:KF:=K2 y1 y5 fun c i x h a b=>
 Q b (pi 3) h fun d h=>
 x (T410 a b d) h
def k335_3:KF:=K2 y1 y5 fun c i x h a b=>
 Q b (pi 2) h fun d h=>
 x (T409 a b d) h
def k335_2:KF:=K2 y1 y5 fun c i x h a b=>
 Q b i1 h fun d h=>
 x (T235 a b d) h
def k335_1:KF:=K1 y1 fun c i x h a=>
 A 0 a h fun b h=>
 L b h fun d h=>
 x (T408 a d) h
def k335_10:KF:=fun c i x r h=>
 .ret (T3 (.bool false)) h
def k335_0:KF:=K1 y0 fun c i x h a=>
 B 299 a h fun b h=>
 x (T1 b) h
def x335:AC:=(.ag k335_0 (.seq (.ag k335_1 (.block 0 (.ag k335_2 (.cond r6 (.seq (.ops [of d8 1 r1,
 ol d9 r8,
 oc d10 96 [r9],
 m d11 r10,
 .g .h0 .hb true d12 (.op (.br 2 r1)),
 .g .h0 .hb true d13 (.op (.bq r12)),
 .g .h0 .hb true d14 (.op (.bin .eq r13 a0)),
 o d15 (.pick r11 r14 (.c (.bool false))),
 m d16 r15,
 .g .h1 .h0 true d17 (.op (.br 3 r1)),
 .g .h1 .h0 true d18 (.op (.bq r17)),
 .g .h1 .h0 true d19 (.op (.len r18)),
 .g .h1 .h0 true d20 (.op (.bin .eq r19 a0)),
 o d21 (.pick r16 r20 (.c (.bool false))),
 m d2 r21]) .ret) (.ag k335_3 (.cond r22 (.seq (.ops [of d24 1 r1,
 ol d25 r24,
 o d26 (.bin .seq r25 (.c iS)),
 m d27 r26,
 .g .h1 .hb true d28 (.op (.br 3 r1)),
 .g .h1 .hb true d29 (.op (.bq r28)),
 .g .h1 .hb true d30 (.op (.len r29)),
 .g .h1 .hb true d31 (.op (.bin .eq r30 a0)),
 o d32 (.pick r27 r31 (.c (.bool false))),
 m d2 r32]) .ret) (.ag k335_4 (.cond r33 (.seq (.ops [of d35 2 r1,
 ol d36 r35,
 o d37 (.bin .eq r36 a0),
 m d38 r37,
 .g .h2 .h6 true d39 (.op (.br 3 r1)),
 .g .h2 .h6 true d40 (.op (.bq r39)),
 .g .h2 .h6 true d41 (.op (.len r40)),
 .g .h2 .h6 true d42 (.op (.bin .eq r41 a0)),
 o d43 (.pick r38 r42 (.c (.bool false))),
 m d2 r43]) .ret) (.ag k335_5 (.cond r44 (.seq (.seq (.da [qf 0 d46 2 r1,
 ql 0 d47 r46,
 q 0 (o d48 (.bin .ne r47 a0)),
 q 0 (m d49 r48),
 q 0 (.g .h3 .h1 false d50 (.op (.br 1 r1))),
 q 0 (.g .h3 .h1 false d51 (.op (.bq r50))),
 w (.g .h3 .h1 false d52 (.call 332 [r51])),
 q 0 (.g .h3 .h1 false d53 (.op (.bin .eq r52 a0))),
 q 0 (o d54 (.pick r49 (.c (.bool true)) r53)),
 q 0 (m d55 r54),
 q 0 (.g .h3 .h7 false d59 (.op (.br 1 r1))),
 q 0 (.g .h3 .h7 false d60 (.op (.bq r59))),
 w (.g .h3 .h7 false d61 (.call 332 [r60])),
 q 1 (.g .h3 .h7 false d56 (.op (.br 3 r1))),
 q 1 (.g .h3 .h7 false d57 (.op (.bq r56))),
 q 1 (.g .h3 .h7 false d58 (.op (.len r57))),
 q 0 (.g .h3 .h7 false d62 (.op (.bin .ne r58 r61))),
 q 0 (o d63 (.pick r55 (.c (.bool true)) r62))]) (.ag k335_6 .skip)) (.seq (.ag k335_7 (.block 1 (.loop (.ag k335_8 .skip)))) (.ag k335_9 .skip))) .skip)))))))))) (.ag k335_10 .skip)))
def f335:AF:=.mk x335 [.t .h0 .h2]
def k336_6:KF:=K4 y1 y2 y8 y9 fun c i x h a b d e=>
 D e i1 h fun f h=>
 .nm (T417 a b d f) h
def k336_5:KF:=K4 y1 y2 y8 y9 fun c i x h a b d e=>
 A 3 b h fun f h=>
 L f h fun g h=>
 X 4 g e h fun j h=>
 M 4 j h fun k h=>
 C c 336 [k,a] h fun l h=>
 E 0 l h fun m h=>
 E 1 l h fun n h=>
 tR (bU n i0 h) fun o h=>
 I o (.ret (T49 i0 n) h) (tR (bs 3 1 1 [i0] [.mk 0 1 (.c m)] h) fun p h=>
 tR (cW 3 1 d p h) fun q h=>
 x (T417 a b q e) h)
def k336_4:KF:=K4 y1 y2 y8 y9 fun c i x h a b d e=>
 A 3 b h fun f h=>
 L f h fun g h=>
 G g h fun j h=>
 Y e j h fun k h=>
 I k (x (T417 a b d e) h) (.ex 1 (T418 b d) h)
def k336_3:KF:=K3 y1 y2 y8 fun c i x h a b d=>
 x (T417 a b d i0) h
def k336_10:KF:=K2 y8 y13 fun c i x h a b=>
 tQ (iX 1 a i0 h) fun d=>
 tQ (lD d h) fun e=>
 tQ (iX 1 a i1 h) fun f=>
 tQ (lD f h) fun g=>
 tQ (wT e g h) fun j=>
 .nm (T422 j b) h
def k336_12:KF:=K1 y12 fun c i x h a=>
 .nm (T422 a (pi 2)) h
def k336_14:KF:=K2 y8 y13 fun c i x h a b=>
 X 1 a i0 h fun d h=>
 L d h fun e h=>
 Q e (pi 2) h fun f h=>
 .nm (T422 f b) h
def k336_16:KF:=K2 y8 y12 fun c i x h a b=>
 X 1 a i1 h fun d h=>
 L d h fun e h=>
 .nm (T422 b e) h
def k336_19:KF:=K4 y8 y12 y13 y14 fun c i x h a b d e=>
 D e i1 h fun f h=>
 .nm (T426 a b d f) h
def k336_18:KF:=K4 y8 y12 y13 y14 fun c i x h a b d e=>
 G a h fun f h=>
 Y e f h fun g h=>
 I g (x (T426 a b d e) h) (.ex 4 (T422 b d) h)
def k336_17:KF:=K3 y8 y12 y13 fun c i x h a b d=>
 x (T426 a b d i0) h
def k336_15:KF:=K4 y8 y12 y13 y62 fun c i x h a b d e=>
 tR (aC e (.str [105,102]) h) fun f h=>
 x (T425 a b d f) h
def k336_13:KF:=K4 y8 y12 y13 y62 fun c i x h a b d e=>
 tR (aC e (.str [108,101,110]) h) fun f h=>
 x (T424 a b d e f) h
def k336_11:KF:=K4 y8 y12 y13 y62 fun c i x h a b d e=>
 tR (aC e (.str [99,97,116]) h) fun f h=>
 x (T423 a b d e f) h
def k336_9:KF:=K4 y8 y12 y13 y62 fun c i x h a b d e=>
 tR (aC e (.str [101,113]) h) fun f h=>
 I f (x (T421 a b d e f) h) (tR (aC e (.str [108,116]) h) fun g h=>
 x (T421 a b d e g) h)
def k336_8:KF:=K4 y2 y8 y12 y13 fun c i x h a b d e=>
 A 1 a h fun f h=>
 L f h fun g h=>
 x (T420 b d e g) h
def k336_20:KF:=K2 y12 y13 fun c i x h a b=>
 tR (bG a h) fun d h=>
 I d (.ret (T49 i0 (pi 22)) h) (.ret (T49 b i0) h)
def k336_7:KF:=K2 y2 y8 fun c i x h a b=>
 x (T419 a b (.bool true) i1) h
def k336_2:KF:=K2 y1 y2 fun c i x h a b=>
 x (T416 a b .ah) h
def k336_1:KF:=K2 y1 y2 fun c i x h a b=>
 A 0 b h fun d h=>
 L d h fun e h=>
 Q e i1 h fun f h=>
 I f (A 1 b h fun g h=>
 L g h fun j h=>
 C c 151 [a,j] h fun k h=>
 E 0 k h fun l h=>
 E 1 k h fun m h=>
 tR (bG m h) fun n h=>
 I n (.ret (T49 i0 (pi 20)) h) (X 2 a l h fun o h=>
 A 1 o h fun p h=>
 L p h fun q h=>
 .ret (T49 q i0) h)) (Q e (pi 2) h fun g h=>
 I g (.ret (T49 i1 i0) h) (Q e (pi 3) h fun j h=>
 I j (.ret (T49 (pi 2) i0) h) (x (T21 a b) h)))
def k336_0:KF:=K2 y0 y1 fun c i x h a b=>
 B 299 a h fun d h=>
 x (T21 b d) h
def x336:AC:=(.ag k336_0 (.ag k336_1 (.ag k336_2 (.seq (.ag k336_3 (.block 1 (.loop (.ag k336_4 (.ag k336_5 (.ag k336_6 .skip)))))) (.ag k336_7 (.seq (.ag k336_8 (.block 3 (.ag k336_9 (.cond r77 (.ag k336_10 .skip) (.ag k336_11 (.cond r87 (.seq (.ops [m d89 r8,
 o d90 (.bF 1 r89 a0),
 ol d91 r90,
 o d92 (.bin .eq r91 a2),
 m d93 r92,
 .g .h5 .hd true d94 (.op (.mv r8)),
 .g .h5 .hd true d95 (.op (.bF 1 r94 a1)),
 .g .h5 .hd true d96 (.op (.bq r95)),
 .g .h5 .hd true d97 (.op (.bin .eq r96 a2)),
 o d98 (.pick r93 r97 (.c (.bool false))),
 m d12 r98]) (.ag k336_12 .skip)) (.ag k336_13 (.cond r99 (.ag k336_14 .skip) (.ag k336_15 (.cond r105 (.seq (.da [q 0 (m d107 r8),
 q 0 (o d108 (.bF 1 r107 a0)),
 ql 0 d109 r108,
 q 0 (o d110 (.bin .eq r109 a1)),
 q 0 (m d111 r110),
 q 0 (.g .h6 .hf true d112 (.op (.mv r8))),
 q 0 (.g .h6 .hf true d113 (.op (.bF 1 r112 a1))),
 q 0 (.g .h6 .hf true d114 (.op (.bq r113))),
 q 0 (.g .h6 .hf true d115 (.op (.mv r8))),
 q 0 (.g .h6 .hf true d116 (.op (.bF 1 r115 a2))),
 q 0 (.g .h6 .hf true d117 (.op (.bq r116))),
 q 0 (.g .h6 .hf true d118 (.op (.bin .eq r114 r117))),
 q 0 (o d119 (.pick r111 r118 (.c (.bool false)))),
 q 0 (m d12 r119)]) (.ag k336_16 .skip)) (.ag k336_17 (.block 4 (.loop (.ag k336_18 (.seq (.block 5 (.ops [m d69 r12,
 m d70 r69,
 .g .h4 .h6 true d71 (.op (.mv r8)),
 .g .h4 .h6 true d72 (.op (.mv r14)),
 .g .h4 .h6 true d73 (.op (.bF 1 r71 r72)),
 .g .h4 .h6 true d74 (.op (.bq r73)),
 .g .h4 .h6 true d75 (.op (.bin .eq r74 a1)),
 o d76 (.pick r70 r75 (.c (.bool false))),
 m d12 r76])) (.ag k336_19 .skip)))))))))))))))) (.ag k336_20 .skip)))))))
def f336:AF:=.mk x336 [.t .h0 .h4,.t .h0 .h5]
def x337:AC:=b337
def f337:AF:=.mk x337 [.t .h0 .h4]
def x338:AC:=b338
def f338:AF:=.mk x338 [.agg 3 .h0 .h6,.t .h0 .h7]
def x339:AC:=b339
def f339:AF:=.mk x339 [.t .h0 .h4]
end
end Go.Am.Seat
