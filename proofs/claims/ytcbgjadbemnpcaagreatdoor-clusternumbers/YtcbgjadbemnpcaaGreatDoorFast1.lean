/- The same code in a form that runs faster, written by program. Nothing is asked. -/
import Derived.Test.YtcbgjadbemnpcaaGreatDoorFast0
set_option linter.all false
namespace Go.Am.Seat
set_option linter.unusedVariables false
set_option maxRecDepth 20000
noncomputable section
def k264_0 : KF := K2 y0 y1 fun c i x h a b=>
 B 223 a h fun d h=>
 B 223 b h fun e h=>
 x (T8 d e) h
def x264 : AC := (.shal k264_0 (.seq (.drw [qf 0 d5 0 r2,
 ql 0 d6 r5,
 qf 0 d7 0 r3,
 ql 0 d8 r7,
 w (oc d9 335 [r6,r8]),
 qf 1 d10 1 r2,
 ql 1 d11 r10,
 qf 1 d12 1 r3,
 ql 1 d13 r12,
 w (oc d14 335 [r11,r13]),
 w (o d15 (.bslice 3 1 2 [i0,i0] [.mk 0 1 r9,.mk 1 1 r14])),
 w (oc d16 334 [r15]),
 q 0 (m d4 r16)]) .ret))
def f264 : AF := .mk x264 [.t .h0 .h4]
def k265_0 : KF := K2 y0 y1 fun c i x h a b=>
 G b h fun d h=>
 J a h fun e h=>
 A 0 e h fun f h=>
 L f h fun g h=>
 G g h fun j h=>
 Z (pi 4194304) j h fun k h=>
 tR (b_gt d k h) fun l h=>
 I l (.ret (T12 (pi 13)) h) (J a h fun m h=>
 A 0 m h fun n h=>
 L n h fun o h=>
 tR (appV 5 1 o b h) fun p h=>
 J a h fun q h=>
 A 0 q h fun s h=>
 W s p h fun t h=>
 x (T12 i0) h)
def x265 : AC := (.shal k265_0 .ret)
def f265 : AF := .mk x265 [.t .h0 .h4]
def k266_0 : KF := K1 y0 fun c i x h a=>
 J a h fun b h=>
 A 0 b h fun d h=>
 L d h fun e h=>
 G e h fun f h=>
 J a h fun g h=>
 A 1 g h fun j h=>
 W j f h fun k h=>
 .nm T36 h
def x266 : AC := (.shal k266_0 .skip)
def f266 : AF := .mk x266 []
def k267_2 : KF := K4 y0 y1 y7 y8 fun c i x h a b d e=>
 Y e d h fun f h=>
 I f (X 6 a e h fun g h=>
 M 6 g h fun j h=>
 tT (cd c b [j] h) fun k h=>
 I k (.ret (T12 e) h) (D e i1 h fun l h=>
 .nm (T188 a b d l) h)) (.ex 0 (T188 a b d e) h)
def k267_1 : KF := K2 y0 y1 fun c i x h a b=>
 G a h fun d h=>
 x (T188 a b d i0) h
def k267_3 : KF := fun c i x r h=>
 .ret (T12 (ni 0)) h
def k267_0 : KF := K2 y0 y1 fun c i x h a b=>
 x (T25 a b) h
def x267 : AC := (.shal k267_0 (.seq (.shal k267_1 (.block 0 (.loop (.shal k267_2 .skip)))) (.shal k267_3 .skip)))
def f267 : AF := .mk x267 [.t .h0 .h4]
def k268_0 : KF := K2 y0 y1 fun c i x h a b=>
 B 221 a h fun d h=>
 A 0 d h fun e h=>
 M 3 e h fun f h=>
 M 3 b h fun g h=>
 tR (bK (.aeq [.i,.i,.i]) f g h) fun j h=>
 .ret (T59 j) h
def x268 : AC := (.shal k268_0 .skip)
def f268 : AF := .mk x268 [.t .h0 .h3]
def k269_1 : KF := K4 y0 y1 y2 y7 fun c i x h a b d e=>
 tQ (o_slc 6 (.c a) .none (.some (.c b)) .none .nil h) fun f=>
 tQ (o_slc 6 (.c a) (.some (.c d)) .none .none .nil h) fun g=>
 tX (RV.toT (appV 221 6 f g h)) fun j h=>
 G j h fun k h=>
 tR (o_slc 6 (.c j) (.some (.c k)) (.some (.c e)) .none .nil h) fun l h=>
 tR (o_clr [i0,i0,i0,(.bool false),iS,i0] (.c l) .nil h) fun m h=>
 .ret (T11 j) h
def k269_0 : KF := K3 y0 y1 y2 fun c i x h a b d=>
 G a h fun e h=>
 tR (o_slc 6 (.c a) (.some (.c b)) (.some (.c d)) (.some (.c e)) .nil h) fun f h=>
 Q b d h fun g h=>
 I g (.ret (T11 a) h) (G a h fun j h=>
 x (T93 a b d j) h)
def x269 : AC := (.shal k269_0 (.shal k269_1 .skip))
def f269 : AF := .mk x269 [.t .h0 .h6]
def k270_0 : KF := K1 y0 fun c i x h a=>
 tR (bK (.isnil .s) a .nils h) fun b h=>
 I b (.ret (T24 .nils) h) (tR (bs 221 6 0 [] [] h) fun d h=>
 tR (appV 221 6 d a h) fun e h=>
 .ret (T24 e) h)
def x270 : AC := (.shal k270_0 .skip)
def f270 : AF := .mk x270 [.t .h0 .h2]
def k271_3 : KF := K4 y0 y1 y5 y6 fun c i x h a b d e=>
 D e i1 h fun f h=>
 .nm (T140 a b d f) h
def k271_2 : KF := K4 y0 y1 y5 y6 fun c i x h a b d e=>
 G a h fun f h=>
 Y e f h fun g h=>
 I g (X 1 a e h fun j h=>
 L j h fun k h=>
 tT (cd c b [k] h) fun l h=>
 tR (u_not l h) fun m h=>
 I m (X 1 a d h fun n h=>
 W n k h fun o h=>
 D d i1 h fun p h=>
 x (T140 a b p e) h) (x (T140 a b d e) h)) (.ex 0 (T45 a d) h)
def k271_1 : KF := K3 y0 y1 y5 fun c i x h a b d=>
 D d i1 h fun e h=>
 x (T140 a b d e) h
def k271_4 : KF := K2 y0 y5 fun c i x h a b=>
 tR (o_slc 1 (.c a) (.some (.c b)) .none .none .nil h) fun d h=>
 tR (o_clr [i0] (.c d) .nil h) fun e h=>
 tR (o_slc 1 (.c a) .none (.some (.c b)) .none .nil h) fun f h=>
 .ret (T12 f) h
def k271_0 : KF := K2 y0 y1 fun c i x h a b=>
 C c 336 [a,b] h fun d h=>
 Q d (ni 0) h fun e h=>
 I e (.ret (T12 a) h) (x (T32 a b d) h)
def x271 : AC := (.shal k271_0 (.seq (.shal k271_1 (.block 0 (.loop (.shal k271_2 (.shal k271_3 .skip))))) (.shal k271_4 .skip)))
def f271 : AF := .mk x271 [.t .h0 .h4]
def k272_0 : KF := K1 y0 fun c i x h a=>
 C c 337 [a] h fun b h=>
 C c 338 [b] h fun d h=>
 .ret (T24 b) h
def x272 : AC := (.shal k272_0 .skip)
def f272 : AF := .mk x272 [.t .h0 .h2]
def k273_0 : KF := K1 y0 fun c i x h a=>
 B 132 a h fun b h=>
 .ret (T24 (.fn 339 [b])) h
def x273 : AC := (.shal k273_0 .skip)
def f273 : AF := .mk x273 [.t .h0 .h2]
def k275_0 : KF := K4 y0 y1 y2 y3 fun c i x h a b d e=>
 M 2 b h fun f h=>
 C c 159 [a,f] h fun g h=>
 L d h fun j h=>
 C c 57 [a,j] h fun k h=>
 L e h fun l h=>
 C c 160 [a,l] h fun m h=>
 .nm T36 h
def x275 : AC := (.shal k275_0 .skip)
def f275 : AF := .mk x275 []
def k286_4 : KF := K5 y3 y7 y8 y9 y17 fun c i x h a b d e f=>
 Y f (pi 8) h fun g h=>
 I g (tR (b_and a (.int .u32 (.ofNat 1)) h) fun j h=>
 tR (bK .shr a (.int .u64 (.ofNat 1)) h) fun k h=>
 Q j (.int .u32 (.ofNat 1)) h fun l h=>
 I l (tR (b_xor k (.int .u32 (.ofNat 3988292384)) h) fun m h=>
 D f i1 h fun n h=>
 .nm (T190 m b d e n) h) (D f i1 h fun m h=>
 .nm (T190 k b d e m) h)) (.ex 2 (T190 a b d e f) h)
def k286_3 : KF := K4 y3 y7 y8 y9 fun c i x h a b d e=>
 X 1 b e h fun f h=>
 L f h fun g h=>
 tR (cK (.toInt .u32) g h) fun j h=>
 tR (b_xor a j h) fun k h=>
 x (T190 k b d e i0) h
def k286_5 : KF := K4 y3 y7 y8 y9 fun c i x h a b d e=>
 D e i1 h fun f h=>
 .nm (T189 a b d f) h
def k286_2 : KF := K4 y3 y7 y8 y9 fun c i x h a b d e=>
 Y e d h fun f h=>
 I f (x (T189 a b d e) h) (.ex 0 (T59 a) h)
def k286_1 : KF := K2 y0 y3 fun c i x h a b=>
 G a h fun d h=>
 x (T189 b a d i0) h
def k286_6 : KF := K1 y3 fun c i x h a=>
 tR (u_com a h) fun b h=>
 .ret (T24 b) h
def k286_0 : KF := K1 y0 fun c i x h a=>
 x (T13 a (.int .u32 (.ofNat 4294967295))) h
def p286 : PK := .crc
def x286 : AC := (.shal k286_0 (.seq (.shal k286_1 (.block 0 (.loop (.shal k286_2 (.seq (.block 1 (.shal k286_3 (.block 2 (.loop (.shal k286_4 .skip))))) (.shal k286_5 .skip)))))) (.shal k286_6 .skip)))
def f286 : AF := .prim p286 x286 [.t .h0 .h2]
def k290_0 : KF := K1 y0 fun c i x h a=>
 J a h fun b h=>
 A 2 b h fun d h=>
 L d h fun e h=>
 tR (b_ne e i0 h) fun f h=>
 I f (.ret (T24 i0) h) (tQ (nC a h) fun g=>
 tQ (fA 0 g h) fun j=>
 tQ (lD j h) fun k=>
 tQ (len k h) fun l=>
 tQ (nC a h) fun m=>
 tQ (fA 1 m h) fun n=>
 tQ (lD n h) fun o=>
 tQ (b_sub l o h) fun p=>
 .ret (T24 p) h)
def x290 : AC := (.shal k290_0 .skip)
def f290 : AF := .mk x290 [.t .h0 .h2]
def k293_2 : KF := fun c i x r h=>
 .ret (T12 (pi 20)) h
def k293_3 : KF := K1 y9 fun c i x h a=>
 I a (.ret (T12 (pi 21)) h) (.nm T36 h)
def k293_1 : KF := K2 y0 y1 fun c i x h a b=>
 C c 349 [b] h fun d h=>
 tR (u_not d h) fun e h=>
 x (T32 a b e) h
def k293_4 : KF := fun c i x r h=>
 .ret (T12 i0) h
def k293_0 : KF := K2 y0 y1 fun c i x h a b=>
 x (T25 a b) h
def x293 : AC := (.shal k293_0 (.seq (.block 0 (.shal k293_1 (.cond r5 (.shal k293_2 .skip) (.seq (.ops [m d10 r0,
 m d11 r1,
 oc d12 324 [r10,r11],
 o d13 (.bin .ge r12 a0),
 m d14 r13,
 .g .h0 .he false d15 (.op (.mv r0)),
 .g .h0 .he false d16 (.op (.mv r1)),
 .g .h0 .he false d17 (.call 328 [r15,r16]),
 .g .h0 .he false d18 (.op (.bin .ge r17 a0)),
 o d19 (.pick r14 (.c (.bool true)) r18),
 m d9 r19]) (.shal k293_3 .skip))))) (.shal k293_4 .skip)))
def f293 : AF := .mk x293 [.t .h0 .h4]
def k294_1 : KF := K2 y0 y14 fun c i x h a b=>
 I b (.ret (T24 (pi 23)) h) (.nm (T1 a) h)
def k294_5 : KF := K7 y0 y3 y4 y15 y16 y17 y35 fun c i x h a b d e f g j=>
 I j (.ret (T24 (pi 20)) h) (.nm (T192 a b d e f g) h)
def k294_6 : KF := K6 y0 y3 y4 y15 y16 y17 fun c i x h a b d e f g=>
 tQ (o_slc 2 (.c a) .none (.some (.c b)) .none .nil h) fun j=>
 tQ (fA 0 d h) fun k=>
 tQ (lD k h) fun l=>
 tX (c 350 [j,l] h) fun m h=>
 tQ (ext 0 m h) fun n=>
 tQ (ext 1 m h) fun o=>
 I o (.ret (T24 (pi 21)) h) (.nm (T191 a e f g) h)
def k294_4 : KF := K4 y0 y15 y16 y17 fun c i x h a b d e=>
 X 2 b e h fun f h=>
 M 2 f h fun g h=>
 O 69 2 (.k1 (Y2 iS i0)) h fun j h=>
 S 2 j g h fun k h=>
 x (T192 a e j b d e) h
def k294_7 : KF := K4 y0 y15 y16 y17 fun c i x h a b d e=>
 D e i1 h fun f h=>
 .nm (T191 a b d f) h
def k294_3 : KF := K4 y0 y15 y16 y17 fun c i x h a b d e=>
 Y e d h fun f h=>
 I f (x (T191 a b d e) h) (.ex 0 T36 h)
def k294_2 : KF := K1 y0 fun c i x h a=>
 G a h fun b h=>
 x (T191 a a b i0) h
def k294_8 : KF := fun c i x r h=>
 .ret (T24 i0) h
def k294_0 : KF := K1 y0 fun c i x h a=>
 x (T1 a) h
def x294 : AC := (.shal k294_0 (.seq (.seq (.ops [m d7 r0,
 o d8 (.len r7),
 o d9 (.bin .eq r8 a0),
 m d10 r9,
 .g .h0 .ha false d11 (.op (.mv r0)),
 .g .h0 .ha false d12 (.op (.len r11)),
 .g .h0 .ha false d13 (.op (.bin .gt r12 (.c (pi 6)))),
 o d14 (.pick r10 (.c (.bool true)) r13)]) (.shal k294_1 .skip)) (.seq (.shal k294_2 (.block 0 (.loop (.shal k294_3 (.seq (.block 1 (.shal k294_4 (.seq (.seq (.ops [of d22 0 r4,
 ol d23 r22,
 oc d24 349 [r23],
 o d25 (.un .not r24),
 m d26 r25,
 .g .h1 .ha false d27 (.op (.fad 1 r4)),
 .g .h1 .ha false d28 (.op (.ld1 r27)),
 .g .h1 .ha false d29 (.op (.bin .ne r28 a1)),
 .g .h1 .ha false d30 (.op (.mv r29)),
 .g .h1 .he true d31 (.op (.fad 1 r4)),
 .g .h1 .he true d32 (.op (.ld1 r31)),
 .g .h1 .he true d33 (.op (.bin .ne r32 a2)),
 .g .h1 .ha false d34 (.op (.pick r30 r33 (.c (.bool false)))),
 o d35 (.pick r26 (.c (.bool true)) r34)]) (.shal k294_5 .skip)) (.shal k294_6 .skip)))) (.shal k294_7 .skip)))))) (.shal k294_8 .skip))))
def f294 : AF := .mk x294 [.t .h0 .h2]
def k295_0 : KF := K2 y0 y1 fun c i x h a b=>
 G a h fun d h=>
 tR (cK (.toInt .u64) d h) fun e h=>
 C c 348 [e] h fun f h=>
 C c 351 [a,i0,d,f,b] h fun g h=>
 .nm T36 h
def x295 : AC := (.shal k295_0 .skip)
def f295 : AF := .mk x295 []
def k298_2 : KF := K1 y7 fun c i x h a=>
 .ret (T193 a i0 iS) h
def k298_1 : KF := K2 y1 y2 fun c i x h a b=>
 M 8 b h fun d h=>
 C c 353 [d,a] h fun e h=>
 E 0 e h fun f h=>
 E 1 e h fun g h=>
 O 464 2 (.k1 (Y2 i0 iS)) h fun j h=>
 S 2 j g h fun k h=>
 A 0 j h fun l h=>
 L l h fun m h=>
 tR (b_ne m i0 h) fun n h=>
 I n (tQ (fA 0 j h) fun o=>
 tQ (lD o h) fun p=>
 tQ (fA 1 j h) fun q=>
 tQ (lD q h) fun s=>
 .ret (T193 .nils p s) h) (x (T141 f) h)
def k298_0 : KF := K2 y0 y1 fun c i x h a b=>
 B 245 a h fun d h=>
 C c 304 [b] h fun e h=>
 tR (b_ne e i0 h) fun f h=>
 I f (.ret (T193 .nils i1 iS) h) (M 8 d h fun g h=>
 C c 299 [g] h fun j h=>
 tR (b_seq j iS h) fun k h=>
 I k (.ret (T193 .nils (pi 12) iS) h) (x (T33 b d) h))
def x298 : AC := (.shal k298_0 (.shal k298_1 (.shal k298_2 .skip)))
def f298 : AF := .mk x298 [.t .h0 .h4,.t .h0 .h5,.t .h0 .h6]
def k299_1 : KF := K2 y3 y23 fun c i x h a b=>
 I b (.ret (T24 iS) h) (.nm (T59 a) h)
def k299_2 : KF := K1 y3 fun c i x h a=>
 .ret (T24 a) h
def k299_0 : KF := K1 y0 fun c i x h a=>
 B 245 a h fun b h=>
 M 8 b h fun d h=>
 C c 313 [d] h fun e h=>
 C c 312 [e] h fun f h=>
 C c 244 [f] h fun g h=>
 E 0 g h fun j h=>
 E 1 g h fun k h=>
 E 2 g h fun l h=>
 O 245 8 (.k1 (Y8 i0 iS .nils .nils .nils .nils .nils .nils)) h fun m h=>
 S 8 m j h fun n h=>
 x (T194 b f m k) h
def x299 : AC := (.shal k299_0 (.seq (.seq (.ops [m d16 r5,
 o d17 (.bin .ne r16 a0),
 m d18 r17,
 .g .h1 .h2 false d19 (.op (.ldn 8 r1)),
 .g .h1 .h2 false d20 (.op (.ldn 8 r4)),
 .g .h1 .h2 false d21 (.call 354 [r19,r20]),
 .g .h1 .h2 false d22 (.op (.un .not r21)),
 o d23 (.pick r18 (.c (.bool true)) r22)]) (.shal k299_1 .skip)) (.shal k299_2 .skip)))
def f299 : AF := .mk x299 [.t .h0 .h2]
def k300_0 : KF := K2 y0 y1 fun c i x h a b=>
 G a h fun d h=>
 tR (cK (.toInt .u64) d h) fun e h=>
 C c 348 [e] h fun f h=>
 C c 355 [a,i0,d,f,b] h fun g h=>
 .nm T36 h
def x300 : AC := (.shal k300_0 .skip)
def f300 : AF := .mk x300 []
def k304_4 : KF := K4 y0 y6 y7 y8 fun c i x h a b d e=>
 D e i1 h fun f h=>
 .nm (T195 a b d f) h
def k304_3 : KF := K4 y0 y6 y7 y8 fun c i x h a b d e=>
 X 2 b e h fun f h=>
 M 2 f h fun g h=>
 O 240 2 (.k1 (Y2 iS .nils)) h fun j h=>
 S 2 j g h fun k h=>
 A 0 j h fun l h=>
 L l h fun m h=>
 C c 349 [m] h fun n h=>
 tR (u_not n h) fun o h=>
 I o (.ret (T24 (pi 20)) h) (tR (o_slc 2 (.c a) .none (.some (.c e)) .none .nil h) fun p h=>
 C c 358 [p,(.fn 359 [j])] h fun q h=>
 I q (.ret (T24 (pi 21)) h) (A 1 j h fun s h=>
 L s h fun t h=>
 C c 294 [t] h fun v h=>
 tR (b_ne v i0 h) fun w h=>
 I w (.ret (T24 v) h) (x (T195 a b d e) h)))
def k304_2 : KF := K4 y0 y6 y7 y8 fun c i x h a b d e=>
 Y e d h fun f h=>
 I f (x (T195 a b d e) h) (.ex 0 T36 h)
def k304_1 : KF := K1 y0 fun c i x h a=>
 G a h fun b h=>
 x (T195 a a b i0) h
def k304_5 : KF := fun c i x r h=>
 .ret (T24 i0) h
def k304_0 : KF := K1 y0 fun c i x h a=>
 x (T1 a) h
def x304 : AC := (.shal k304_0 (.seq (.shal k304_1 (.block 0 (.loop (.shal k304_2 (.shal k304_3 (.shal k304_4 .skip)))))) (.shal k304_5 .skip)))
def f304 : AF := .mk x304 [.t .h0 .h2]
def k306_0 : KF := K1 y0 fun c i x h a=>
 x (T1 a) h
def x306 : AC := (.shal k306_0 (.seq (.ops [m d3 r0,
 oc d4 216 [r3],
 m d5 r4,
 .g .h0 .h5 true d6 (.op (.mv r0)),
 .g .h0 .h5 true d7 (.call 307 [r6,(.c (.fn 360 []))]),
 .g .h0 .h5 true d8 (.op (.un .not r7)),
 o d9 (.pick r5 r8 (.c (.bool false))),
 m d2 r9]) .ret))
def f306 : AF := .mk x306 [.t .h0 .h2]
def k307_0 : KF := K2 y0 y1 fun c i x h a b=>
 C c 361 [a,b] h fun d h=>
 tR (b_ge d i0 h) fun e h=>
 .ret (T12 e) h
def x307 : AC := (.shal k307_0 .skip)
def f307 : AF := .mk x307 [.t .h0 .h4]
def k310_9 : KF := K4 y0 y2 y5 y121 fun c i x h a b d e=>
 I e (U [i0,iS,i0,.nils,i0] [] h fun f h=>
 tR (lent a h) fun g h=>
 S 5 b f h fun j h=>
 .ret (T176 b (pi 10) g) h) (.nm (T120 b d) h)
def k310_10 : KF := K2 y2 y5 fun c i x h a b=>
 J b h fun d h=>
 A 2 d h fun e h=>
 L e h fun f h=>
 X 5 f i0 h fun g h=>
 M 5 g h fun j h=>
 S 5 a j h fun k h=>
 .ret (T176 a i0 i0) h
def k310_8 : KF := K2 y2 y6 fun c i x h a b=>
 U [i0,iS,i0,.nils,i0] [] h fun d h=>
 S 5 a d h fun e h=>
 .ret (T176 a (pi 12) b) h
def k310_7 : KF := K4 y0 y2 y5 y6 fun c i x h a b d e=>
 J d h fun f h=>
 A 1 f h fun g h=>
 L g h fun j h=>
 G j h fun k h=>
 tR (b_gt k i0 h) fun l h=>
 I l (J d h fun m h=>
 A 1 m h fun n h=>
 L n h fun o h=>
 Z k i1 h fun p h=>
 X 5 o p h fun q h=>
 M 5 q h fun s h=>
 O 418 5 (.k1 (Y5 i0 iS i0 .nils i0)) h fun t h=>
 S 5 t s h fun v h=>
 J d h fun w h=>
 A 1 w h fun y h=>
 L y h fun z h=>
 Z k i1 h fun a0 h=>
 tR (o_slc 5 (.c z) .none (.some (.c a0)) .none .nil h) fun a1 h=>
 J d h fun a2 h=>
 A 1 a2 h fun a3 h=>
 W a3 a1 h fun a4 h=>
 M 5 t h fun a5 h=>
 C c 363 [d,a5] h fun a6 h=>
 D e i1 h fun a7 h=>
 .go 1 (T196 a b d a7) h) (x (T198 b e) h)
def k310_6 : KF := K4 y0 y2 y5 y6 fun c i x h a b d e=>
 D e i1 h fun f h=>
 .go 1 (T196 a b d f) h
def k310_5 : KF := K4 y0 y2 y5 y6 fun c i x h a b d e=>
 J d h fun f h=>
 A 1 f h fun g h=>
 L g h fun j h=>
 G j h fun k h=>
 tR (b_ge k (pi 12) h) fun l h=>
 I l (U [i0,iS,i0,.nils,i0] [] h fun m h=>
 S 5 b m h fun n h=>
 .ret (T176 b (pi 14) e) h) (C c 364 [d] h fun m h=>
 I m (U [i0,iS,i0,.nils,i0] [] h fun n h=>
 S 5 b n h fun o h=>
 .ret (T176 b (pi 11) e) h) (x (T196 a b d e) h))
def k310_4 : KF := K4 y0 y2 y5 y6 fun c i x h a b d e=>
 C c 362 [d,e] h fun f h=>
 E 0 f h fun g h=>
 E 1 f h fun j h=>
 E 2 f h fun k h=>
 E 3 f h fun l h=>
 O 418 5 (.k1 (Y5 i0 iS i0 .nils i0)) h fun m h=>
 S 5 m g h fun n h=>
 tR (b_ne k i0 h) fun o h=>
 I o (U [i0,iS,i0,.nils,i0] [] h fun p h=>
 S 5 b p h fun q h=>
 .ret (T176 b k l) h) (M 5 m h fun p h=>
 C c 363 [d,p] h fun q h=>
 x (T196 a b d j) h)
def k310_3 : KF := K4 y0 y2 y5 y6 fun c i x h a b d e=>
 tR (o_idxs (.c a) (.c e) .nil h) fun f h=>
 Q f (.int .u8 (.ofNat 32)) h fun g h=>
 I g (I g (D e i1 h fun j h=>
 .go 1 (T196 a b d j) h) (Q f (.int .u8 (.ofNat 40)) h fun j h=>
 I j (.go 2 (T196 a b d e) h) (Q f (.int .u8 (.ofNat 41)) h fun k h=>
 I k (.go 3 (T196 a b d e) h) (x (T196 a b d e) h)))) (Q f (.int .u8 (.ofNat 10)) h fun j h=>
 I j (D e i1 h fun k h=>
 .go 1 (T196 a b d k) h) (Q f (.int .u8 (.ofNat 40)) h fun k h=>
 I k (.go 2 (T196 a b d e) h) (Q f (.int .u8 (.ofNat 41)) h fun l h=>
 I l (.go 3 (T196 a b d e) h) (x (T196 a b d e) h))))
def k310_2 : KF := K4 y0 y2 y5 y6 fun c i x h a b d e=>
 tR (lent a h) fun f h=>
 tR (b_ge e f h) fun g h=>
 I g (.go 0 (T197 a b d) h) (x (T196 a b d e) h)
def k310_1 : KF := K2 y0 y2 fun c i x h a b=>
 tR (lent a h) fun d h=>
 tR (b_gt d (pi 600) h) fun e h=>
 I e (U [i0,iS,i0,.nils,i0] [] h fun f h=>
 S 5 b f h fun g h=>
 .ret (T176 b (pi 3) i0) h) (U [iS,.nils,.nils] [.mk 0 1 (.c a)] h fun f h=>
 B 475 f h fun g h=>
 x (T196 a b g i0) h)
def k310_0 : KF := K1 y0 fun c i x h a=>
 O 418 5 (.k1 (Y5 i0 iS i0 .nils i0)) h fun b h=>
 x (T122 a b) h
def x310 : AC := (.shal k310_0 (.scope (.shal k310_1 (.seq (.label 1) (.shal k310_2 (.shal k310_3 (.shal k310_4 (.seq (.goto 1) (.seq (.label 2) (.shal k310_5 (.seq (.alt (.drw [w (o d72 (.bslice 418 5 1 [i0,iS,i0,.nils,i0] [.mk 0 5 (.c (.agg [i0,iS,i0,.nils,i0]))])),
 q 1 (m d65 r5),
 qj 1 d66 r65,
 qf 1 d67 1 r66,
 ql 1 d68 r67,
 q 1 (m d69 r6),
 q 1 (o d70 (.build [i0,iS,i0,.nils,i0] [.mk 0 1 a1,.mk 4 1 r69])),
 q 1 (o d71 (.len r68)),
 w (o d73 (.app 418 5 r68 r72)),
 q 0 (o d74 (.ixs 5 r73 r71)),
 w (o .no (.stn 5 r74 r70)),
 qj 1 d75 r65,
 qf 1 d76 1 r75,
 w (os r76 r73)])
 (.drw [w (o d72 (.bslice 418 5 1 [i0,iS,i0,.nils,i0] [.mk 0 5 (.c (.agg [i0,iS,i0,.nils,i0]))])),
 q 1 (m d65 r5),
 qj 1 d66 r65,
 qf 1 d67 1 r66,
 ql 1 d68 r67,
 q 1 (m d69 r6),
 q 1 (o d70 (.build [i0,iS,i0,.nils,i0] [.mk 0 1 a1,.mk 4 1 r69])),
 q 1 (o d71 (.len r68)),
 w (o d73 (.app 418 5 r68 r72)),
 qj 0 d75 r65,
 qf 0 d76 1 r75,
 w (os r76 r73),
 q 1 (o d74 (.ixs 5 r73 r71)),
 w (o .no (.stn 5 r74 r70))])) (.shal k310_6 (.seq (.label 3) (.shal k310_7 (.shal k310_8 (.seq (.label 0) (.seq (.seq (.ops [m d111 r5,
 oj d112 r111,
 of d113 1 r112,
 ol d114 r113,
 o d115 (.len r114),
 o d116 (.bin .gt r115 a0),
 m d117 r116,
 .g .h7 .h5 false d118 (.op (.mv r5)),
 .g .h7 .h5 false d119 (.call 364 [r118]),
 .g .h7 .h5 false d120 (.op (.un .not r119)),
 o d121 (.pick r117 (.c (.bool true)) r120)]) (.shal k310_9 .skip)) (.shal k310_10 .skip))))))))))))))))))
def f310 : AF := .mk x310 [.agg 5 .h0 .h2,.t .h0 .h3,.t .h0 .h4]
def k311_3 : KF := K4 y0 y3 y4 y5 fun c i x h a b d e=>
 A 3 b h fun f h=>
 L f h fun g h=>
 X 5 g i1 h fun j h=>
 M 5 j h fun k h=>
 C c 366 [a,k] h fun l h=>
 A 1 e h fun m h=>
 W m l h fun n h=>
 M 8 e h fun o h=>
 S 8 d o h fun p h=>
 .ret (T12 d) h
def k311_5 : KF := K6 y0 y3 y4 y5 y6 y7 fun c i x h a b d e f g=>
 A 3 b h fun j h=>
 L j h fun k h=>
 X 5 k i1 h fun l h=>
 M 5 l h fun m h=>
 C c 367 [a,m] h fun n h=>
 tR (bs 481 4 1 [i0,iS,i0,.nils] [.mk 0 4 (.c n)] h) fun o h=>
 A 2 e h fun p h=>
 W p o h fun q h=>
 .nm (T167 a b d e f g) h
def k311_6 : KF := K1 y21 fun c i x h a=>
 Q a (pi 3) h fun b h=>
 x (T202 b) h
def k311_4 : KF := K7 y0 y3 y4 y5 y6 y7 y21 fun c i x h a b d e f g j=>
 Q j (pi 2) h fun k h=>
 x (T201 a b d e f g j k) h
def k311_2 : KF := K7 y0 y3 y4 y5 y6 y7 y21 fun c i x h a b d e f g j=>
 Q j i1 h fun k h=>
 x (T200 a b d e f g j k) h
def k311_1 : KF := K6 y0 y3 y4 y5 y6 y7 fun c i x h a b d e f g=>
 A 0 e h fun j h=>
 L j h fun k h=>
 x (T199 a b d e f g k) h
def k311_9 : KF := K6 y0 y4 y5 y138 y139 y140 fun c i x h a b d e f g=>
 X 5 e g h fun j h=>
 M 5 j h fun k h=>
 O 418 5 (.k1 (Y5 i0 iS i0 .nils i0)) h fun l h=>
 S 5 l k h fun m h=>
 x (T204 a b d l e f g) h
def k311_10 : KF := K6 y0 y4 y5 y138 y139 y140 fun c i x h a b d e f g=>
 D g i1 h fun j h=>
 .nm (T203 a b d e f j) h
def k311_8 : KF := K6 y0 y4 y5 y138 y139 y140 fun c i x h a b d e f g=>
 Y g f h fun j h=>
 I j (x (T203 a b d e f g) h) (.ex 5 (T28 b d) h)
def k311_7 : KF := K6 y0 y3 y4 y5 y6 y7 fun c i x h a b d e f g=>
 A 3 b h fun j h=>
 L j h fun k h=>
 Z f g h fun l h=>
 tR (o_slc 5 (.c k) (.some (.c l)) .none .none .nil h) fun m h=>
 G m h fun n h=>
 x (T203 a d e m n i0) h
def k311_11 : KF := K2 y4 y5 fun c i x h a b=>
 M 8 b h fun d h=>
 S 8 a d h fun e h=>
 .ret (T12 a) h
def k311_0 : KF := K2 y0 y1 fun c i x h a b=>
 B 418 b h fun d h=>
 O 245 8 (.k1 (Y8 i0 iS .nils .nils .nils .nils .nils .nils)) h fun e h=>
 M 5 d h fun f h=>
 C c 365 [f] h fun g h=>
 U [i0,iS,.nils,.nils,.nils,.nils,.nils,.nils] [.mk 0 1 (.c g)] h fun j h=>
 O 245 8 (.k1 (Y8 i0 iS .nils .nils .nils .nils .nils .nils)) h fun k h=>
 S 8 k j h fun l h=>
 A 3 d h fun m h=>
 L m h fun n h=>
 G n h fun o h=>
 x (T167 a d e k o i1) h
def x311 : AC := (.shal k311_0 (.seq (.shal k311_1 (.block 0 (.shal k311_2 (.cond r27 (.shal k311_3 .skip) (.shal k311_4 (.cond r37 (.shal k311_5 .skip) (.shal k311_6 (.cond r47 (.bad 0) (.bad 0))))))))) (.seq (.shal k311_7 (.block 5 (.loop (.shal k311_8 (.seq (.block 6 (.shal k311_9 (.drw [q 0 (m d146 r0),
 q 0 (o d147 (.ldn 5 r13)),
 w (oc d148 311 [r146,r147]),
 w (o d149 (.bslice 245 8 1 [i0,iS,.nils,.nils,.nils,.nils,.nils,.nils] [.mk 0 8 r148])),
 qf 2 d144 7 r5,
 ql 2 d145 r144,
 w (o d150 (.app 245 8 r145 r149)),
 qf 0 d151 7 r5,
 w (os r151 r150)]))) (.shal k311_10 .skip)))))) (.shal k311_11 .skip))))
def f311 : AF := .mk x311 [.agg 8 .h0 .h4]
def k312_5 : KF := K4 y3 y11 y12 y13 fun c i x h a b d e=>
 Y e d h fun f h=>
 I f (X 5 b e h fun g h=>
 M 5 g h fun j h=>
 O 418 5 (.k1 (Y5 i0 iS i0 .nils i0)) h fun k h=>
 S 5 k j h fun l h=>
 M 5 k h fun m h=>
 C c 312 [m] h fun n h=>
 tR (bs 9 1 1 [iS] [.mk 0 1 (.c n)] h) fun o h=>
 tR (appV 9 1 a o h) fun p h=>
 D e i1 h fun q h=>
 .nm (T207 p b d q) h) (.ex 1 (T207 a b d e) h)
def k312_4 : KF := K2 y1 y3 fun c i x h a b=>
 A 3 a h fun d h=>
 L d h fun e h=>
 G e h fun f h=>
 x (T207 b e f i0) h
def k312_6 : KF := K1 y3 fun c i x h a=>
 C c 370 [a,(.str [32])] h fun b h=>
 tR (b_cat (.str [40]) b h) fun d h=>
 tR (b_cat d (.str [41]) h) fun e h=>
 .ret (T24 e) h
def k312_3 : KF := K1 y1 fun c i x h a=>
 x (T56 a .nils) h
def k312_7 : KF := K2 y1 y7 fun c i x h a b=>
 Q b (pi 2) h fun d h=>
 I d (A 1 a h fun e h=>
 L e h fun f h=>
 .ret (T24 f) h) (Q b (pi 3) h fun e h=>
 I e (A 2 a h fun f h=>
 L f h fun g h=>
 C c 371 [g,(pi 10)] h fun j h=>
 .ret (T24 j) h) (Q b (pi 4) h fun f h=>
 I f (A 1 a h fun g h=>
 L g h fun j h=>
 C c 373 [j] h fun k h=>
 C c 372 [k] h fun l h=>
 .ret (T24 l) h) (.nm T36 h)))
def k312_2 : KF := K2 y1 y7 fun c i x h a b=>
 Q b i1 h fun d h=>
 x (T206 a b d) h
def k312_1 : KF := K1 y1 fun c i x h a=>
 A 0 a h fun b h=>
 L b h fun d h=>
 x (T205 a d) h
def k312_8 : KF := fun c i x r h=>
 .ret (T24 iS) h
def k312_0 : KF := K1 y0 fun c i x h a=>
 B 418 a h fun b h=>
 x (T34 b) h
def x312 : AC := (.shal k312_0 (.seq (.shal k312_1 (.block 0 (.shal k312_2 (.cond r8 (.shal k312_3 (.seq (.shal k312_4 (.block 1 (.loop (.shal k312_5 .skip)))) (.shal k312_6 .skip))) (.shal k312_7 .skip))))) (.shal k312_8 .skip)))
def f312 : AF := .mk x312 [.t .h0 .h2]
def k313_1 : KF := K4 y1 y2 y3 y22 fun c i x h a b d e=>
 I e (U [i0,iS,i0,.nils,i0] [] h fun f h=>
 S 5 b f h fun g h=>
 .ret (T24 b) h) (.nm (T62 a b d) h)
def k313_4 : KF := K4 y1 y2 y4 y33 fun c i x h a b d e=>
 Q e i1 h fun f h=>
 x (T210 a b d f) h
def k313_3 : KF := K3 y1 y2 y4 fun c i x h a b d=>
 A 0 a h fun e h=>
 L e h fun f h=>
 x (T209 a b d f) h
def k313_7 : KF := K5 y2 y4 y144 y145 y146 fun c i x h a b d e f=>
 X 8 d f h fun g h=>
 M 8 g h fun j h=>
 O 245 8 (.k1 (Y8 i0 iS .nils .nils .nils .nils .nils .nils)) h fun k h=>
 S 8 k j h fun l h=>
 x (T213 a b k d e f) h
def k313_8 : KF := K5 y2 y4 y144 y145 y146 fun c i x h a b d e f=>
 D f i1 h fun g h=>
 .nm (T211 a b d e g) h
def k313_6 : KF := K5 y2 y4 y144 y145 y146 fun c i x h a b d e f=>
 Y f e h fun g h=>
 I g (x (T211 a b d e f) h) (.ex 7 (T212 a b) h)
def k313_5 : KF := K3 y1 y2 y4 fun c i x h a b d=>
 A 7 a h fun e h=>
 L e h fun f h=>
 G f h fun g h=>
 x (T211 b d f g i0) h
def k313_9 : KF := K2 y2 y4 fun c i x h a b=>
 M 5 b h fun d h=>
 S 5 a d h fun e h=>
 .ret (T24 a) h
def k313_2 : KF := K3 y1 y2 y3 fun c i x h a b d=>
 A 0 a h fun e h=>
 L e h fun f h=>
 X 1 d f h fun g h=>
 L g h fun j h=>
 C c 375 [j] h fun k h=>
 tR (bs 418 5 1 [i0,iS,i0,.nils,i0] [.mk 0 5 (.c k)] h) fun l h=>
 C c 374 [l] h fun m h=>
 O 418 5 (.k1 (Y5 i0 iS i0 .nils i0)) h fun n h=>
 S 5 n m h fun o h=>
 x (T208 a b n) h
def k313_0 : KF := K1 y0 fun c i x h a=>
 B 245 a h fun b h=>
 O 418 5 (.k1 (Y5 i0 iS i0 .nils i0)) h fun d h=>
 tR (bs 9 1 8 [iS,iS,iS,iS,iS,iS,iS,iS] [.mk 0 1 (.c iS),.mk 1 1 (.c (.str [116,97,98,108,101])),.mk 2 1 (.c (.str [102,105,108,116,101,114])),.mk 3 1 (.c (.str [112,114,111,106,101,99,116])),.mk 4 1 (.c (.str [106,111,105,110])),.mk 5 1 (.c (.str [117,110,105,111,110])),.mk 6 1 (.c (.str [100,105,115,116,105,110,99,116])),.mk 7 1 (.c (.str [103,114,111,117,112]))] h) fun e h=>
 x (T62 b d e) h
def x313 : AC := (.shal k313_0 (.seq (.seq (.ops [of d15 0 r1,
 ol d16 r15,
 o d17 (.bin .lt r16 a1),
 m d18 r17,
 .g .h1 .h2 false d19 (.op (.fad 0 r1)),
 .g .h1 .h2 false d20 (.op (.ld1 r19)),
 .g .h1 .h2 false d21 (.op (.bin .gt r20 (.c (pi 7)))),
 o d22 (.pick r18 (.c (.bool true)) r21)]) (.shal k313_1 .skip)) (.shal k313_2 (.seq (.shal k313_3 (.block 0 (.shal k313_4 (.cond r34 (.drw [qf 0 d38 1 r1,
 ql 0 d39 r38,
 w (oc d40 375 [r39]),
 w (o d41 (.bslice 418 5 1 [i0,iS,i0,.nils,i0] [.mk 0 5 r40])),
 qf 2 d36 3 r4,
 ql 2 d37 r36,
 w (o d42 (.app 418 5 r37 r41)),
 qf 0 d43 3 r4,
 w (os r43 r42)]) (.bad 0))))) (.seq (.shal k313_5 (.block 7 (.loop (.shal k313_6 (.seq (.block 8 (.shal k313_7 (.drw [q 0 (o d152 (.ldn 8 r13)),
 w (oc d153 313 [r152]),
 w (o d154 (.bslice 418 5 1 [i0,iS,i0,.nils,i0] [.mk 0 5 r153])),
 qf 2 d150 3 r4,
 ql 2 d151 r150,
 w (o d155 (.app 418 5 r151 r154)),
 qf 0 d156 3 r4,
 w (os r156 r155)]))) (.shal k313_8 .skip)))))) (.shal k313_9 .skip))))))
def f313 : AF := .mk x313 [.agg 5 .h0 .h2]
def k315_3 : KF := K6 y1 y2 y5 y17 y18 y19 fun c i x h a b d e f g=>
 X 8 e g h fun j h=>
 M 8 j h fun k h=>
 O 245 8 (.k1 (Y8 i0 iS .nils .nils .nils .nils .nils .nils)) h fun l h=>
 S 8 l k h fun m h=>
 M 8 l h fun n h=>
 C c 315 [n,a] h fun o h=>
 J d h fun p h=>
 A 9 p h fun q h=>
 L q h fun s h=>
 tR (bs 262 1 1 [.nilp] [.mk 0 1 (.c o)] h) fun t h=>
 tR (appV 262 1 s t h) fun v h=>
 J d h fun w h=>
 A 9 w h fun y h=>
 W y v h fun z h=>
 x (T216 a b d o e f g) h
def k315_4 : KF := K6 y1 y2 y5 y17 y18 y19 fun c i x h a b d e f g=>
 D g i1 h fun j h=>
 .nm (T215 a b d e f j) h
def k315_2 : KF := K6 y1 y2 y5 y17 y18 y19 fun c i x h a b d e f g=>
 Y g f h fun j h=>
 I j (x (T215 a b d e f g) h) (.ex 0 (T214 a b d) h)
def k315_1 : KF := K3 y1 y2 y5 fun c i x h a b d=>
 A 7 b h fun e h=>
 L e h fun f h=>
 G f h fun g h=>
 x (T215 a b d f g i0) h
def k315_7 : KF := K3 y1 y2 y5 fun c i x h a b d=>
 C c 378 [a,(.fn 379 [b])] h fun e h=>
 X 2 a e h fun f h=>
 A 1 f h fun g h=>
 L g h fun j h=>
 C c 72 [j] h fun k h=>
 J d h fun l h=>
 A 8 l h fun m h=>
 W m k h fun n h=>
 .ret (T12 d) h
def k315_9 : KF := K3 y2 y5 y51 fun c i x h a b d=>
 Q d (pi 7) h fun e h=>
 x (T220 a b e) h
def k315_8 : KF := K3 y2 y5 y51 fun c i x h a b d=>
 Q d (pi 4) h fun e h=>
 x (T219 a b d e) h
def k315_6 : KF := K4 y1 y2 y5 y51 fun c i x h a b d e=>
 Q e i1 h fun f h=>
 x (T218 a b d e f) h
def k315_5 : KF := K3 y1 y2 y5 fun c i x h a b d=>
 A 0 b h fun e h=>
 L e h fun f h=>
 x (T217 a b d f) h
def k315_10 : KF := K1 y5 fun c i x h a=>
 .ret (T12 a) h
def k315_0 : KF := K2 y0 y1 fun c i x h a b=>
 B 245 a h fun d h=>
 M 8 d h fun e h=>
 U [i0,iS,.nils,.nils,.nils,.nils,.nils,.nils,.nils,.nils,.nils,.nils,.nilp,.nilp,.nilp] [.mk 0 8 (.c e)] h fun f h=>
 B 261 f h fun g h=>
 x (T214 b d g) h
def x315 : AC := (.shal k315_0 (.seq (.shal k315_1 (.block 0 (.loop (.shal k315_2 (.seq (.block 1 (.shal k315_3 (.drw [q 0 (m d41 r8),
 qj 0 d42 r41,
 qf 0 d43 8 r42,
 ql 0 d44 r43,
 w (o d45 (.bslice 26 1 1 [.nils] [.mk 0 1 r44])),
 q 1 (m d37 r5),
 qj 1 d38 r37,
 qf 1 d39 10 r38,
 ql 1 d40 r39,
 w (o d46 (.app 26 1 r40 r45)),
 q 2 (m d36 r5),
 qj 0 d47 r36,
 qf 0 d48 10 r47,
 w (os r48 r46)]))) (.shal k315_4 .skip)))))) (.seq (.shal k315_5 (.block 2 (.shal k315_6 (.cond r52 (.shal k315_7 .skip) (.shal k315_8 (.cond r67 (.bad 0) (.shal k315_9 (.cond r101 (.bad 0) .skip)))))))) (.seq (.drw [q 0 (o d139 (.ldn 8 r2)),
 q 0 (m d140 r5),
 qj 0 d141 r140,
 qf 0 d142 10 r141,
 ql 0 d143 r142,
 w (oc d144 384 [r139,r143]),
 q 1 (m d138 r5),
 qj 0 d145 r138,
 qf 0 d146 8 r145,
 w (os r146 r144)]) (.shal k315_10 .skip)))))
def f315 : AF := .mk x315 [.t .h0 .h4]
def k316_0 : KF := K2 y0 y1 fun c i x h a b=>
 C c 385 [a,b] h fun d h=>
 tR (b_ge d i0 h) fun e h=>
 .ret (T12 e) h
def x316 : AC := (.shal k316_0 .skip)
def f316 : AF := .mk x316 [.t .h0 .h4]
def k317_0 : KF := K1 y0 fun c i x h a=>
 B 245 a h fun b h=>
 M 8 b h fun d h=>
 C c 386 [d,.nils] h fun e h=>
 C c 387 [e] h fun f h=>
 C c 388 [e] h fun g h=>
 .ret (T24 g) h
def x317 : AC := (.shal k317_0 .skip)
def f317 : AF := .mk x317 [.t .h0 .h2]
def k318_4 : KF := K8 y1 y2 y4 y5 y18 y19 y20 y41 fun c i x h a b d e f g j k=>
 I k (.ret (T193 .nilm .nilm i1) h) (.nm (T222 a b d e f g j) h)
def k318_3 : KF := K7 y1 y2 y4 y5 y18 y19 y20 fun c i x h a b d e f g j=>
 X 2 f j h fun k h=>
 M 2 k h fun l h=>
 O 361 2 (.k1 (Y2 iS .nils)) h fun m h=>
 S 2 m l h fun n h=>
 L b h fun o h=>
 J o h fun p h=>
 A 1 p h fun q h=>
 L q h fun s h=>
 C c 378 [s,(.fn 389 [m])] h fun t h=>
 O 3 1 (.k1 (Y1 i0)) h fun v h=>
 W v t h fun w h=>
 L v h fun y h=>
 Y y i0 h fun z h=>
 I z (.ex 1 (T222 a b d e f g j) h) (x (T223 a b d e m v f g j) h)
def k318_5 : KF := K7 y1 y2 y4 y5 y18 y19 y20 fun c i x h a b d e f g j=>
 D j i1 h fun k h=>
 .nm (T222 a b d e f g k) h
def k318_2 : KF := K7 y1 y2 y4 y5 y18 y19 y20 fun c i x h a b d e f g j=>
 Y j g h fun k h=>
 I k (x (T222 a b d e f g j) h) (.ex 0 (T221 a b d e) h)
def k318_1 : KF := K4 y1 y2 y4 y5 fun c i x h a b d e=>
 G a h fun f h=>
 x (T222 a b d e a f i0) h
def k318_12 : KF := K13 y1 y2 y4 y5 y11 y12 y13 y46 y47 y48 y59 y60 y61 fun c i x h a b d e f g j k l m n o p=>
 D p i1 h fun q h=>
 .nm (T226 a b d e f g j k l m n o q) h
def k318_11 : KF := K13 y1 y2 y4 y5 y11 y12 y13 y46 y47 y48 y59 y60 y61 fun c i x h a b d e f g j k l m n o p=>
 X 2 n p h fun q h=>
 M 2 q h fun s h=>
 O 361 2 (.k1 (Y2 iS .nils)) h fun t h=>
 S 2 t s h fun v h=>
 A 0 t h fun w h=>
 L w h fun y h=>
 A 0 f h fun z h=>
 L z h fun a0 h=>
 tR (b_seq y a0 h) fun a1 h=>
 gD a1 true (fun a2=>a2 j h) h fun a2 h=>
 gD a1 true (fun a3=>Q a2 i0 h fun a4 h=>
 a3 a4 h) h fun a3 h=>
 tR (o_pick (.c a1) (.c a3) (.c (.bool false)) .nil h) fun a4 h=>
 I a4 (A 1 t h fun a5 h=>
 L a5 h fun a6 h=>
 C c 391 [g,a6] h fun a7 h=>
 E 0 a7 h fun a8 h=>
 E 1 a7 h fun a9 h=>
 x (T226 a b d e f a8 a9 k l m n o p) h) (x (T226 a b d e f g j k l m n o p) h)
def k318_10 : KF := K13 y1 y2 y4 y5 y11 y12 y13 y46 y47 y48 y59 y60 y61 fun c i x h a b d e f g j k l m n o p=>
 Y p o h fun q h=>
 I q (x (T226 a b d e f g j k l m n o p) h) (.ex 4 (T225 a b d e f g j k l m) h)
def k318_9 : KF := K10 y1 y2 y4 y5 y11 y12 y13 y46 y47 y48 fun c i x h a b d e f g j k l m=>
 G a h fun n h=>
 x (T226 a b d e f g j k l m a n i0) h
def k318_13 : KF := K10 y1 y2 y4 y5 y11 y12 y46 y47 y48 y88 fun c i x h a b d e f g j k l m=>
 I m (.ret (T193 .nilm .nilm (pi 27)) h) (.nm (T227 a b d e f g j k l) h)
def k318_15 : KF := K8 y1 y2 y4 y5 y13 y46 y47 y48 fun c i x h a b d e f g j k=>
 tR (b_ne f i0 h) fun l h=>
 I l (.ret (T193 .nilm .nilm f) h) (.nm (T224 a b d e g j k) h)
def k318_14 : KF := K9 y1 y2 y4 y5 y11 y12 y46 y47 y48 fun c i x h a b d e f g j k l=>
 A 0 f h fun m h=>
 L m h fun n h=>
 tR (mup (.one .s) d n g h) fun o h=>
 x (T227 a b d e f g j k l) h
def k318_8 : KF := K7 y1 y2 y4 y5 y46 y47 y48 fun c i x h a b d e f g j=>
 X 2 f j h fun k h=>
 M 2 k h fun l h=>
 O 240 2 (.k1 (Y2 iS .nils)) h fun m h=>
 S 2 m l h fun n h=>
 tQ (lD b h) fun o=>
 tQ (nC o h) fun p=>
 tQ (fA 2 p h) fun q=>
 tQ (lD q h) fun s=>
 tQ (fA 0 m h) fun t=>
 tQ (lD t h) fun v=>
 tQ (lkp (.one .s) .nils false s v h) fun w=>
 x (T225 a b d e m w i0 f g j) h
def k318_16 : KF := K7 y1 y2 y4 y5 y46 y47 y48 fun c i x h a b d e f g j=>
 D j i1 h fun k h=>
 .nm (T224 a b d e f g k) h
def k318_7 : KF := K7 y1 y2 y4 y5 y46 y47 y48 fun c i x h a b d e f g j=>
 Y j g h fun k h=>
 I k (x (T224 a b d e f g j) h) (.ex 2 (T28 d e) h)
def k318_6 : KF := K4 y1 y2 y4 y5 fun c i x h a b d e=>
 L b h fun f h=>
 J f h fun g h=>
 A 1 g h fun j h=>
 L j h fun k h=>
 G k h fun l h=>
 x (T224 a b d e k l i0) h
def k318_17 : KF := K2 y4 y5 fun c i x h a b=>
 .ret (T193 a b i0) h
def k318_0 : KF := K2 y0 y1 fun c i x h a b=>
 B 181 a h fun d h=>
 tR (mkm h) fun e h=>
 tR (mkm h) fun f h=>
 x (T221 b d e f) h
def x318 : AC := (.shal k318_0 (.seq (.shal k318_1 (.block 0 (.loop (.shal k318_2 (.seq (.block 1 (.shal k318_3 (.seq (.ops [of d32 1 r8,
 ol d33 r32,
 oc d34 216 [r33],
 o d35 (.un .not r34),
 m d36 r35,
 .g .h2 .h4 false d37 (.op (.fad 1 r8)),
 .g .h2 .h4 false d38 (.op (.ld1 r37)),
 .g .h2 .h4 false d39 (.op (.mkf 390 [r2,r9])),
 .g .h2 .h4 false d40 (.call 307 [r38,r39]),
 o d41 (.pick r36 (.c (.bool true)) r40)]) (.shal k318_4 .skip)))) (.shal k318_5 .skip)))))) (.seq (.shal k318_6 (.block 2 (.loop (.shal k318_7 (.seq (.block 3 (.shal k318_8 (.seq (.shal k318_9 (.block 4 (.loop (.shal k318_10 (.shal k318_11 (.shal k318_12 .skip)))))) (.seq (.seq (.ops [m d82 r13,
 o d83 (.bin .ne r82 a0),
 m d84 r83,
 .g .h5 .h4 false d85 (.op (.mv r12)),
 .g .h5 .h4 false d86 (.call 306 [r85]),
 .g .h5 .h4 false d87 (.op (.un .not r86)),
 o d88 (.pick r84 (.c (.bool true)) r87)]) (.shal k318_13 .skip)) (.shal k318_14 (.seq (.drw [ql 0 d98 r2,
 qj 0 d99 r98,
 qf 0 d100 2 r99,
 ql 0 d101 r100,
 qf 0 d102 0 r11,
 ql 0 d103 r102,
 q 0 (o d104 (.lkp (.one .s) .nils false r101 r103)),
 w (oc d105 392 [r104]),
 q 1 (m d97 r12),
 w (oc d106 391 [r97,r105]),
 q 2 (m d94 r5),
 qf 2 d95 0 r11,
 ql 2 d96 r95,
 q 0 (m d93 r106),
 q 0 (oe d107 0 r93),
 w (o .no (.mup (.one .s) r94 r96 r107)),
 q 1 (oe d108 1 r93),
 q 0 (m d13 r108)]) (.shal k318_15 .skip))))))) (.shal k318_16 .skip)))))) (.shal k318_17 .skip))))
def f318 : AF := .mk x318 [.t .h0 .h4,.t .h0 .h5,.t .h0 .h6]
def k319_3 : KF := K5 y0 y3 y13 y14 y15 fun c i x h a b d e f=>
 X 1 d f h fun g h=>
 L g h fun j h=>
 x (T229 a b j d e f) h
def k319_4 : KF := K5 y0 y3 y13 y14 y15 fun c i x h a b d e f=>
 D f i1 h fun g h=>
 .nm (T228 a b d e g) h
def k319_2 : KF := K5 y0 y3 y13 y14 y15 fun c i x h a b d e f=>
 Y f e h fun g h=>
 I g (x (T228 a b d e f) h) (.ex 0 (T13 a b) h)
def k319_1 : KF := K2 y0 y3 fun c i x h a b=>
 J a h fun d h=>
 A 9 d h fun e h=>
 L e h fun f h=>
 G f h fun g h=>
 x (T228 a b f g i0) h
def k319_6 : KF := K2 y0 y3 fun c i x h a b=>
 J a h fun d h=>
 A 13 d h fun e h=>
 L e h fun f h=>
 tR (bK .pne f .nilp h) fun g h=>
 x (T230 a b g) h
def k319_7 : KF := K1 y3 fun c i x h a=>
 .ret (T24 a) h
def k319_5 : KF := K2 y0 y3 fun c i x h a b=>
 J a h fun d h=>
 A 12 d h fun e h=>
 L e h fun f h=>
 tR (bK .pne f .nilp h) fun g h=>
 I g (J a h fun j h=>
 A 12 j h fun k h=>
 L k h fun l h=>
 C c 393 [l] h fun m h=>
 A 12 b h fun n h=>
 W n m h fun o h=>
 x (T13 a b) h) (x (T13 a b) h)
def k319_0 : KF := K1 y0 fun c i x h a=>
 J a h fun b h=>
 M 15 b h fun d h=>
 O 261 15 (.k1 (Y15 i0 iS .nils .nils .nils .nils .nils .nils .nils .nils .nils .nils .nilp .nilp .nilp)) h fun e h=>
 S 15 e d h fun f h=>
 A 9 e h fun g h=>
 W g .nils h fun j h=>
 x (T13 a e) h
def x319 : AC := (.shal k319_0 (.seq (.shal k319_1 (.block 0 (.loop (.shal k319_2 (.seq (.block 1 (.shal k319_3 (.drw [q 0 (m d21 r5),
 w (oc d22 319 [r21]),
 w (o d23 (.bslice 262 1 1 [.nilp] [.mk 0 1 r22])),
 qf 2 d19 9 r3,
 ql 2 d20 r19,
 w (o d24 (.app 262 1 r20 r23)),
 qf 0 d25 9 r3,
 w (os r25 r24)]))) (.shal k319_4 .skip)))))) (.shal k319_5 (.seq (.shal k319_6 (.cond r42 (.drw [q 0 (m d43 r0),
 qj 0 d44 r43,
 qf 0 d45 13 r44,
 ql 0 d46 r45,
 w (oc d47 394 [r46]),
 q 1 (m d48 r0),
 qj 1 d49 r48,
 qf 1 d50 14 r49,
 ql 1 d51 r50,
 w (oc d52 394 [r51]),
 qf 0 d53 13 r3,
 w (os r53 r47),
 qf 0 d54 14 r3,
 w (os r54 r52)]) .skip)) (.shal k319_7 .skip)))))
def f319 : AF := .mk x319 [.t .h0 .h2]
def k320_4 : KF := K6 y0 y1 y6 y16 y17 y18 fun c i x h a b d e f g=>
 D g i1 h fun j h=>
 .nm (T231 a b d e f j) h
def k320_3 : KF := K6 y0 y1 y6 y16 y17 y18 fun c i x h a b d e f g=>
 X 1 e g h fun j h=>
 L j h fun k h=>
 C c 320 [k,b] h fun l h=>
 E 0 l h fun m h=>
 E 1 l h fun n h=>
 tR (b_ne n i0 h) fun o h=>
 I o (.ret (T28 .nils n) h) (tR (bs 46 1 1 [.nils] [.mk 0 1 (.c m)] h) fun p h=>
 tR (appV 46 1 d p h) fun q h=>
 x (T231 a b q e f g) h)
def k320_2 : KF := K6 y0 y1 y6 y16 y17 y18 fun c i x h a b d e f g=>
 Y g f h fun j h=>
 I j (x (T231 a b d e f g) h) (.ex 0 (T26 a b d) h)
def k320_1 : KF := K3 y0 y1 y6 fun c i x h a b d=>
 J a h fun e h=>
 A 9 e h fun f h=>
 L f h fun g h=>
 G g h fun j h=>
 x (T231 a b d g j i0) h
def k320_8 : KF := K3 y0 y1 y12 fun c i x h a b d=>
 J a h fun e h=>
 A 0 e h fun f h=>
 A 1 f h fun g h=>
 L g h fun j h=>
 tR (lkp (.one .s) .nils false b j h) fun k h=>
 .nm (T235 a k d) h
def k320_10 : KF := K2 y0 y6 fun c i x h a b=>
 tQ (nC a h) fun d=>
 tQ (fA 0 d h) fun e=>
 tQ (ldn 8 e h) fun f=>
 tQ (nC a h) fun g=>
 tQ (fA 10 g h) fun j=>
 tQ (lD j h) fun k=>
 tQ (iX 1 k i0 h) fun l=>
 tQ (lD l h) fun m=>
 tQ (iX 1 b i0 h) fun n=>
 tQ (lD n h) fun o=>
 tX (c 395 [f,m,o] h) fun p h=>
 tQ (ext 0 p h) fun q=>
 tQ (ext 1 p h) fun s=>
 .nm (T235 a q s) h
def k320_9 : KF := K3 y0 y6 y40 fun c i x h a b d=>
 Q d (pi 2) h fun e h=>
 x (T236 a b e) h
def k320_7 : KF := K5 y0 y1 y6 y12 y40 fun c i x h a b d e f=>
 Q f i1 h fun g h=>
 x (T234 a b d e f g) h
def k320_6 : KF := K4 y0 y1 y6 y12 fun c i x h a b d e=>
 J a h fun f h=>
 A 0 f h fun g h=>
 A 0 g h fun j h=>
 L j h fun k h=>
 x (T233 a b d e k) h
def k320_12 : KF := K3 y11 y12 y153 fun c i x h a b d=>
 I d (.nm (T237 a (pi 13)) h) (.nm (T237 a b) h)
def k320_13 : KF := K2 y11 y12 fun c i x h a b=>
 .ret (T28 a b) h
def k320_11 : KF := K3 y0 y11 y12 fun c i x h a b d=>
 Q d i0 h fun e h=>
 I e (J a h fun f h=>
 A 11 f h fun g h=>
 L g h fun j h=>
 C c 391 [j,b] h fun k h=>
 E 0 k h fun l h=>
 E 1 k h fun m h=>
 J a h fun n h=>
 A 11 n h fun o h=>
 W o l h fun p h=>
 x (T235 a b m) h) (x (T235 a b d) h)
def k320_5 : KF := K3 y0 y1 y6 fun c i x h a b d=>
 x (T232 a b d i0) h
def k320_0 : KF := K2 y0 y1 fun c i x h a b=>
 x (T26 a b .nils) h
def x320 : AC := (.shal k320_0 (.seq (.shal k320_1 (.block 0 (.loop (.shal k320_2 (.shal k320_3 (.shal k320_4 .skip)))))) (.shal k320_5 (.seq (.shal k320_6 (.block 2 (.shal k320_7 (.cond r46 (.shal k320_8 .skip) (.shal k320_9 (.cond r55 (.shal k320_10 .skip) (.bad 0))))))) (.shal k320_11 (.seq (.seq (.ops [m d145 r12,
 o d146 (.bin .eq r145 a0),
 m d147 r146,
 .g .h9 .h3 true d148 (.op (.mv r0)),
 .g .h9 .h3 true d149 (.op (.nilc r148)),
 .g .h9 .h3 true d150 (.op (.fad 11 r149)),
 .g .h9 .h3 true d151 (.op (.ld1 r150)),
 .g .h9 .h3 true d152 (.call 400 [r151]),
 o d153 (.pick r147 r152 (.c (.bool false)))]) (.shal k320_12 .skip)) (.shal k320_13 .skip)))))))
def f320 : AF := .mk x320 [.t .h0 .h4,.t .h0 .h5]
def k321_2 : KF := K4 y0 y1 y7 y8 fun c i x h a b d e=>
 Y e d h fun f h=>
 I f (X 3 a e h fun g h=>
 M 3 g h fun j h=>
 tT (cd c b [j] h) fun k h=>
 I k (.ret (T12 e) h) (D e i1 h fun l h=>
 .nm (T188 a b d l) h)) (.ex 0 (T188 a b d e) h)
def k321_1 : KF := K2 y0 y1 fun c i x h a b=>
 G a h fun d h=>
 x (T188 a b d i0) h
def k321_3 : KF := fun c i x r h=>
 .ret (T12 (ni 0)) h
def k321_0 : KF := K2 y0 y1 fun c i x h a b=>
 x (T25 a b) h
def x321 : AC := (.shal k321_0 (.seq (.shal k321_1 (.block 0 (.loop (.shal k321_2 .skip)))) (.shal k321_3 .skip)))
def f321 : AF := .mk x321 [.t .h0 .h4]
def k323_2 : KF := K5 y0 y1 y2 y7 y8 fun c i x h a b d e f=>
 D f e h fun g h=>
 tR (o_cap (.c a) .nil h) fun j h=>
 tR (b_gt g j h) fun k h=>
 x (T239 a b d e f k) h
def k323_5 : KF := K5 y0 y1 y2 y7 y8 fun c i x h a b d e f=>
 tR (o_slc 3 (.c a) (.some (.c f)) .none .none .nil h) fun g h=>
 tR (cpyV 3 g d h) fun j h=>
 tR (o_slc 3 (.c a) (.some (.c b)) .none .none .nil h) fun k h=>
 C c 402 [k,e] h fun l h=>
 .ret (T11 a) h
def k323_4 : KF := K5 y0 y1 y2 y7 y8 fun c i x h a b d e f=>
 D b e h fun g h=>
 tR (o_slc 3 (.c a) (.some (.c g)) .none .none .nil h) fun j h=>
 C c 401 [d,j] h fun k h=>
 tR (u_not k h) fun l h=>
 I l (tQ (b_add b e h) fun m=>
 tQ (o_slc 3 (.c a) (.some (.c m)) .none .none .nil h) fun n=>
 tQ (o_slc 3 (.c a) (.some (.c b)) .none .none .nil h) fun o=>
 tX (RV.toT (cpyV 3 n o h)) fun p h=>
 tR (o_slc 3 (.c a) (.some (.c b)) .none .none .nil h) fun q h=>
 tR (cpyV 3 q d h) fun s h=>
 .ret (T11 a) h) (x (T238 a b d e f) h)
def k323_3 : KF := K5 y0 y1 y2 y7 y8 fun c i x h a b d e f=>
 D f e h fun g h=>
 tR (o_slc 3 (.c a) .none (.some (.c g)) .none .nil h) fun j h=>
 x (T238 j b d e f) h
def k323_1 : KF := K5 y0 y1 y2 y7 y8 fun c i x h a b d e f=>
 Q b f h fun g h=>
 I g (tR (appV 179 3 a d h) fun j h=>
 .ret (T11 j) h) (x (T238 a b d e f) h)
def k323_0 : KF := K3 y0 y1 y2 fun c i x h a b d=>
 tR (o_slc 3 (.c a) (.some (.c b)) .none .none .nil h) fun e h=>
 G d h fun f h=>
 Q f i0 h fun g h=>
 I g (.ret (T11 a) h) (G a h fun j h=>
 x (T238 a b d f j) h)
def x323 : AC := (.shal k323_0 (.shal k323_1 (.seq (.shal k323_2 (.cond r31 (.bad 0) .skip)) (.shal k323_3 (.shal k323_4 (.shal k323_5 .skip))))))
def f323 : AF := .mk x323 [.t .h0 .h6]
def k324_0 : KF := K2 y0 y1 fun c i x h a b=>
 B 9 b h fun d h=>
 J a h fun e h=>
 A 0 e h fun f h=>
 L f h fun g h=>
 C c 378 [g,(.fn 403 [d])] h fun j h=>
 .ret (T12 j) h
def x324 : AC := (.shal k324_0 .skip)
def f324 : AF := .mk x324 [.t .h0 .h4]
def k327_0 : KF := K1 y0 fun c i x h a=>
 x (T1 a) h
def x327 : AC := (.shal k327_0 (.seq (.drw [q 0 (m d3 r0),
 qj 0 d4 r3,
 qf 0 d5 0 r4,
 ql 0 d6 r5,
 w (oc d7 404 [r6]),
 q 1 (m d8 r0),
 qj 1 d9 r8,
 qf 1 d10 1 r9,
 ql 1 d11 r10,
 w (oc d12 405 [r11]),
 q 0 (o d13 (.build [.nils,.nils] [.mk 0 1 r7,.mk 1 1 r12])),
 w (o d14 (.box 197 r13)),
 q 0 (m d2 r14)]) .ret))
def f327 : AF := .mk x327 [.t .h0 .h2]
def k328_0 : KF := K2 y0 y1 fun c i x h a b=>
 B 9 b h fun d h=>
 J a h fun e h=>
 A 1 e h fun f h=>
 L f h fun g h=>
 C c 406 [g,(.fn 407 [d])] h fun j h=>
 .ret (T12 j) h
def x328 : AC := (.shal k328_0 .skip)
def f328 : AF := .mk x328 [.t .h0 .h4]
def k334_2 : KF := K4 y3 y6 y7 y8 fun c i x h a b d e=>
 Y e d h fun f h=>
 I f (X 1 b e h fun g h=>
 L g h fun j h=>
 tR (b_ne j a h) fun k h=>
 I k (.ret (T24 j) h) (D e i1 h fun l h=>
 .nm (T81 a b d l) h)) (.ex 0 (T81 a b d e) h)
def k334_1 : KF := K2 y0 y3 fun c i x h a b=>
 G a h fun d h=>
 x (T81 b a d i0) h
def k334_3 : KF := K1 y3 fun c i x h a=>
 .ret (T24 a) h
def k334_0 : KF := K1 y0 fun c i x h a=>
 x (T13 a i0) h
def x334 : AC := (.shal k334_0 (.seq (.shal k334_1 (.block 0 (.loop (.shal k334_2 .skip)))) (.shal k334_3 .skip)))
def f334 : AF := .mk x334 [.t .h0 .h2]
def k335_1 : KF := K2 y0 y1 fun c i x h a b=>
 Y a b h fun d h=>
 I d (.ret (T12 (ni 0)) h) (tR (b_gt a b h) fun e h=>
 I e (.ret (T12 i1) h) (.ret (T12 i0) h))
def k335_0 : KF := K2 y0 y1 fun c i x h a b=>
 C c 412 [a] h fun d h=>
 C c 412 [b] h fun e h=>
 I d (I e (.ret (T12 i0) h) (.ret (T12 (ni 0)) h)) (I e (.ret (T12 i1) h) (x (T25 a b) h))
def x335 : AC := (.shal k335_0 (.shal k335_1 .skip))
def f335 : AF := .mk x335 [.t .h0 .h4]
def k336_2 : KF := K4 y0 y1 y7 y8 fun c i x h a b d e=>
 Y e d h fun f h=>
 I f (X 1 a e h fun g h=>
 L g h fun j h=>
 tT (cd c b [j] h) fun k h=>
 I k (.ret (T12 e) h) (D e i1 h fun l h=>
 .nm (T188 a b d l) h)) (.ex 0 (T188 a b d e) h)
def k336_1 : KF := K2 y0 y1 fun c i x h a b=>
 G a h fun d h=>
 x (T188 a b d i0) h
def k336_3 : KF := fun c i x r h=>
 .ret (T12 (ni 0)) h
def k336_0 : KF := K2 y0 y1 fun c i x h a b=>
 x (T25 a b) h
def x336 : AC := (.shal k336_0 (.seq (.shal k336_1 (.block 0 (.loop (.shal k336_2 .skip)))) (.shal k336_3 .skip)))
def f336 : AF := .mk x336 [.t .h0 .h4]
def k337_0 : KF := K1 y0 fun c i x h a=>
 C c 413 [.nils,a] h fun b h=>
 .ret (T24 b) h
def x337 : AC := (.shal k337_0 .skip)
def f337 : AF := .mk x337 [.t .h0 .h2]
def k338_0 : KF := K1 y0 fun c i x h a=>
 G a h fun b h=>
 tR (cK (.toInt .u64) b h) fun d h=>
 C c 348 [d] h fun e h=>
 C c 414 [a,i0,b,e] h fun f h=>
 .nm T36 h
def x338 : AC := (.shal k338_0 .skip)
def f338 : AF := .mk x338 []
def k348_0 : KF := K1 y0 fun c i x h a=>
 I (.bool false) (tR (cK (.toInt .u32) a h) fun b h=>
 C c 429 [b] h fun d h=>
 .ret (T24 d) h) (C c 232 [a] h fun b h=>
 .ret (T24 b) h)
def x348 : AC := (.shal k348_0 .skip)
def f348 : AF := .mk x348 [.t .h0 .h2]
def k349_1 : KF := K2 y0 y14 fun c i x h a b=>
 I b (.ret (T24 (.bool false)) h) (.nm (T1 a) h)
def k349_5 : KF := K4 y0 y16 y17 y29 fun c i x h a b d e=>
 I e (.ret (T24 (.bool false)) h) (.nm (T240 a b d) h)
def k349_4 : KF := K3 y0 y16 y17 fun c i x h a b d=>
 x (T241 a d b d) h
def k349_6 : KF := K3 y0 y16 y17 fun c i x h a b d=>
 D d i1 h fun e h=>
 .nm (T240 a b e) h
def k349_3 : KF := K3 y0 y16 y17 fun c i x h a b d=>
 Y d b h fun e h=>
 I e (x (T240 a b d) h) (.ex 0 T36 h)
def k349_2 : KF := K1 y0 fun c i x h a=>
 tR (lent a h) fun b h=>
 x (T240 a b i0) h
def k349_7 : KF := fun c i x r h=>
 .ret (T24 (.bool true)) h
def k349_0 : KF := K1 y0 fun c i x h a=>
 x (T1 a) h
def x349 : AC := (.shal k349_0 (.seq (.seq (.ops [m d4 r0,
 o d5 (.bin .seq r4 (.c iS)),
 m d6 r5,
 .g .h0 .h6 false d7 (.op (.mv r0)),
 .g .h0 .h6 false d8 (.op (.lent r7)),
 .g .h0 .h6 false d9 (.op (.bin .gt r8 (.c (pi 12)))),
 o d10 (.pick r6 (.c (.bool true)) r9),
 m d11 r10,
 .g .h0 .hb false d12 (.op (.mv r0)),
 .g .h0 .hb false d13 (.call 430 [r12]),
 o d14 (.pick r11 (.c (.bool true)) r13)]) (.shal k349_1 .skip)) (.seq (.shal k349_2 (.block 0 (.loop (.shal k349_3 (.seq (.block 1 (.shal k349_4 (.seq (.ops [m d20 r0,
 m d21 r3,
 o d22 (.idxs r20 r21),
 o d23 (.bin .lt r22 (.c (.int .u8 (.ofNat 97)))),
 m d24 r23,
 .g .h1 .h8 false d25 (.op (.mv r0)),
 .g .h1 .h8 false d26 (.op (.mv r3)),
 .g .h1 .h8 false d27 (.op (.idxs r25 r26)),
 .g .h1 .h8 false d28 (.op (.bin .gt r27 (.c (.int .u8 (.ofNat 122))))),
 o d29 (.pick r24 (.c (.bool true)) r28)]) (.shal k349_5 .skip)))) (.shal k349_6 .skip)))))) (.shal k349_7 .skip))))
def f349 : AF := .mk x349 [.t .h0 .h2]
def k350_0 : KF := K2 y0 y1 fun c i x h a b=>
 B 9 b h fun d h=>
 C c 431 [a,(.fn 432 [d])] h fun e h=>
 tR (maxV false [e,i0] h) fun f h=>
 tR (b_ge e i0 h) fun g h=>
 .ret (T28 f g) h
def x350 : AC := (.shal k350_0 .skip)
def f350 : AF := .mk x350 [.t .h0 .h4,.t .h0 .h5]
def k351_5 : KF := K10 y0 y1 y2 y3 y4 y10 y11 y12 y13 y75 fun c i x h a b d e f g j k l m=>
 I m (C c 438 [a,b,d,f] h fun n h=>
 I n (.ret T36 h) (.nm (T245 a b d e f g j k l) h)) (.nm (T245 a b d e f g j k l) h)
def k351_6 : KF := K10 y0 y1 y2 y3 y4 y10 y11 y12 y13 y97 fun c i x h a b d e f g j k l m=>
 I m (C c 439 [a,b,d,l,f] h fun n h=>
 .ex 1 (T245 a n d e f g j k l) h) (.nm (T245 a b d e f g j k l) h)
def k351_9 : KF := K11 y0 y1 y2 y3 y4 y11 y16 y18 y19 y20 y125 fun c i x h a b d e f g j k l m n=>
 I n (tR (b_ge k m h) fun o h=>
 C c 351 [a,b,j,e,f] h fun p h=>
 D j i1 h fun q h=>
 .nm (T242 a q d e f o g) h) (tR (b_ge l m h) fun o h=>
 D j i1 h fun p h=>
 C c 351 [a,p,d,e,f] h fun q h=>
 .nm (T242 a b j e f o g) h)
def k351_8 : KF := K10 y0 y1 y2 y3 y4 y11 y16 y18 y19 y20 fun c i x h a b d e f g j k l m=>
 Y k l h fun n h=>
 x (T247 a b d e f g j k l m n) h
def k351_7 : KF := K7 y0 y1 y2 y3 y4 y12 y13 fun c i x h a b d e f g j=>
 C c 440 [a,b,d,j,f] h fun k h=>
 E 0 k h fun l h=>
 E 1 k h fun m h=>
 Z l b h fun n h=>
 Z d l h fun o h=>
 tR (b_quo g (pi 8) h) fun p h=>
 x (T246 a b d e f m l n o p) h
def k351_4 : KF := K10 y0 y1 y2 y3 y4 y10 y11 y12 y13 y14 fun c i x h a b d e f g j k l m=>
 Q m (pi 2) h fun n h=>
 I n (C c 437 [a,b,d,f] h fun o h=>
 Z d i1 h fun p h=>
 Z l b h fun q h=>
 Z p q h fun s h=>
 x (T244 a b d e f g j k s i1) h) (x (T244 a b d e f g j k l m) h)
def k351_3 : KF := K8 y0 y1 y2 y3 y4 y10 y11 y12 fun c i x h a b d e f g j k=>
 C c 436 [a,b,d,f] h fun l h=>
 E 0 l h fun m h=>
 E 1 l h fun n h=>
 x (T244 a b d e f g j k m n) h
def k351_2 : KF := K8 y0 y1 y2 y3 y4 y10 y11 y12 fun c i x h a b d e f g j k=>
 tR (u_not g h) fun l h=>
 I l (C c 435 [a,b,d,f] h fun m h=>
 Z e i1 h fun n h=>
 x (T243 a b d n f g j k) h) (x (T243 a b d e f g j k) h)
def k351_1 : KF := K7 y0 y1 y2 y3 y4 y10 y11 fun c i x h a b d e f g j=>
 Z d b h fun k h=>
 tR (b_le k (pi 12) h) fun l h=>
 I l (C c 433 [a,b,d,f] h fun m h=>
 .ret T36 h) (Q e i0 h fun m h=>
 I m (C c 434 [a,b,d,f] h fun n h=>
 .ret T36 h) (x (T243 a b d e f g j k) h))
def k351_0 : KF := K5 y0 y1 y2 y3 y4 fun c i x h a b d e f=>
 x (T242 a b d e f (.bool true) (.bool true)) h
def x351 : AC := (.shal k351_0 (.block 0 (.loop (.block 1 (.shal k351_1 (.shal k351_2 (.shal k351_3 (.shal k351_4 (.seq (.seq (.ops [m d68 r10,
 m d69 r68,
 .g .h4 .h5 true d70 (.op (.mv r11)),
 o d71 (.pick r69 r70 (.c (.bool false))),
 m d72 r71,
 .g .h4 .h8 true d73 (.op (.mv r14)),
 .g .h4 .h8 true d74 (.op (.bin .eq r73 a1)),
 o d75 (.pick r72 r74 (.c (.bool false)))]) (.shal k351_5 .skip)) (.seq (.seq (.drw [q 0 (m d81 r1),
 q 0 (o d82 (.bin .gt r81 a0)),
 q 0 (m d83 r82),
 q 0 (.g .h5 .h3 true d84 (.op (.mv r4))),
 q 0 (.g .h5 .h3 true d85 (.op (.mv r0))),
 q 0 (.g .h5 .h3 true d86 (.op (.mv r1))),
 q 0 (.g .h5 .h3 true d87 (.op (.bin .sub r86 a1))),
 q 0 (.g .h5 .h3 true d88 (.op (.ixs 2 r85 r87))),
 q 0 (.g .h5 .h3 true d89 (.op (.ldn 2 r88))),
 q 0 (.g .h5 .h3 true d90 (.op (.mv r0))),
 q 0 (.g .h5 .h3 true d91 (.op (.mv r13))),
 q 0 (.g .h5 .h3 true d92 (.op (.ixs 2 r90 r91))),
 q 0 (.g .h5 .h3 true d93 (.op (.ldn 2 r92))),
 w (.g .h5 .h3 true d94 (.calld r84 [r89,r93])),
 q 0 (.g .h5 .h3 true d95 (.op (.bin .lt r94 a0))),
 q 0 (.g .h5 .h3 true d96 (.op (.un .not r95))),
 q 0 (o d97 (.pick r83 r96 (.c (.bool false))))]) (.shal k351_6 .skip)) (.shal k351_7 (.shal k351_8 (.shal k351_9 .skip)))))))))))))
def f351 : AF := .mk x351 []
def k353_4 : KF := K7 y1 y2 y5 y6 y15 y16 y17 fun c i x h a b d e f g j=>
 D j i1 h fun k h=>
 .nm (T249 a b d e f g k) h
def k353_3 : KF := K7 y1 y2 y5 y6 y15 y16 y17 fun c i x h a b d e f g j=>
 X 8 f j h fun k h=>
 M 8 k h fun l h=>
 O 245 8 (.k1 (Y8 i0 iS .nils .nils .nils .nils .nils .nils)) h fun m h=>
 S 8 m l h fun n h=>
 M 8 m h fun o h=>
 C c 353 [o,a] h fun p h=>
 E 0 p h fun q h=>
 E 1 p h fun s h=>
 O 464 2 (.k1 (Y2 i0 iS)) h fun t h=>
 S 2 t s h fun v h=>
 A 0 t h fun w h=>
 L w h fun y h=>
 tR (b_ne y i0 h) fun z h=>
 I z (tQ (ldn 2 t h) fun a0=>
 tX (RV.toT (stn 2 d a0 h)) fun a1 h=>
 .ret (T28 .nils d) h) (tR (bs 26 1 1 [.nils] [.mk 0 1 (.c q)] h) fun a0 h=>
 tR (appV 26 1 e a0 h) fun a1 h=>
 x (T249 a b d a1 f g j) h)
def k353_2 : KF := K7 y1 y2 y5 y6 y15 y16 y17 fun c i x h a b d e f g j=>
 Y j g h fun k h=>
 I k (x (T249 a b d e f g j) h) (.ex 0 (T214 a b d) h)
def k353_1 : KF := K4 y1 y2 y5 y6 fun c i x h a b d e=>
 A 7 b h fun f h=>
 L f h fun g h=>
 G g h fun j h=>
 x (T249 a b d e g j i0) h
def k353_7 : KF := K3 y1 y2 y5 fun c i x h a b d=>
 C c 378 [a,(.fn 441 [b])] h fun e h=>
 Y e i0 h fun f h=>
 I f (tQ (fA 1 b h) fun g=>
 tQ (lD g h) fun j=>
 tQ (bl [i0,iS] [.mk 0 1 (.c (pi 20)),.mk 1 1 (.c j)] h) fun k=>
 tX (RV.toT (stn 2 d k h)) fun l h=>
 .ret (T28 .nils d) h) (X 2 a e h fun g h=>
 A 1 g h fun j h=>
 L j h fun k h=>
 C c 72 [k] h fun l h=>
 U [i0,iS] [] h fun m h=>
 S 2 d m h fun n h=>
 .ret (T28 l d) h)
def k353_8 : KF := K1 y37 fun c i x h a=>
 Q a (pi 2) h fun b h=>
 x (T252 b) h
def k353_6 : KF := K4 y1 y2 y5 y37 fun c i x h a b d e=>
 Q e i1 h fun f h=>
 x (T251 a b d e f) h
def k353_5 : KF := K3 y1 y2 y5 fun c i x h a b d=>
 A 0 b h fun e h=>
 L e h fun f h=>
 x (T250 a b d f) h
def k353_9 : KF := K2 y5 y6 fun c i x h a b=>
 X 1 b i0 h fun d h=>
 L d h fun e h=>
 U [i0,iS] [] h fun f h=>
 S 2 a f h fun g h=>
 .ret (T28 e a) h
def k353_0 : KF := K2 y0 y1 fun c i x h a b=>
 B 245 a h fun d h=>
 O 464 2 (.k1 (Y2 i0 iS)) h fun e h=>
 x (T248 b d e .nils) h
def x353 : AC := (.shal k353_0 (.seq (.shal k353_1 (.block 0 (.loop (.shal k353_2 (.shal k353_3 (.shal k353_4 .skip)))))) (.seq (.shal k353_5 (.block 2 (.shal k353_6 (.cond r38 (.shal k353_7 .skip) (.shal k353_8 (.cond r55 (.bad 0) (.bad 0))))))) (.shal k353_9 .skip))))
def f353 : AF := .mk x353 [.t .h0 .h4,.agg 2 .h0 .h5]
def k354_0 : KF := K2 y0 y1 fun c i x h a b=>
 B 245 a h fun d h=>
 B 245 b h fun e h=>
 x (T8 d e) h
def x354 : AC := (.shal k354_0 (.seq (.ops [of d5 0 r2,
 ol d6 r5,
 of d7 0 r3,
 ol d8 r7,
 o d9 (.bin .eq r6 r8),
 m d10 r9,
 .g .h0 .ha true d11 (.op (.fad 1 r2)),
 .g .h0 .ha true d12 (.op (.ld1 r11)),
 .g .h0 .ha true d13 (.op (.fad 1 r3)),
 .g .h0 .ha true d14 (.op (.ld1 r13)),
 .g .h0 .ha true d15 (.op (.bin .seq r12 r14)),
 o d16 (.pick r10 r15 (.c (.bool false))),
 m d17 r16,
 .g .h1 .h1 true d18 (.op (.fad 2 r2)),
 .g .h1 .h1 true d19 (.op (.ld1 r18)),
 .g .h1 .h1 true d20 (.op (.fad 2 r3)),
 .g .h1 .h1 true d21 (.op (.ld1 r20)),
 .g .h1 .h1 true d22 (.call 447 [r19,r21,(.c (.fn 448 []))]),
 o d23 (.pick r17 r22 (.c (.bool false))),
 m d24 r23,
 .g .h1 .h8 true d25 (.op (.fad 3 r2)),
 .g .h1 .h8 true d26 (.op (.ld1 r25)),
 .g .h1 .h8 true d27 (.op (.fad 3 r3)),
 .g .h1 .h8 true d28 (.op (.ld1 r27)),
 .g .h1 .h8 true d29 (.call 449 [r26,r28]),
 o d30 (.pick r24 r29 (.c (.bool false))),
 m d31 r30,
 .g .h1 .hf true d32 (.op (.fad 4 r2)),
 .g .h1 .hf true d33 (.op (.ld1 r32)),
 .g .h1 .hf true d34 (.op (.fad 4 r3)),
 .g .h1 .hf true d35 (.op (.ld1 r34)),
 .g .h1 .hf true d36 (.call 449 [r33,r35]),
 o d37 (.pick r31 r36 (.c (.bool false))),
 m d38 r37,
 .g .h2 .h6 true d39 (.op (.fad 5 r2)),
 .g .h2 .h6 true d40 (.op (.ld1 r39)),
 .g .h2 .h6 true d41 (.op (.fad 5 r3)),
 .g .h2 .h6 true d42 (.op (.ld1 r41)),
 .g .h2 .h6 true d43 (.call 449 [r40,r42]),
 o d44 (.pick r38 r43 (.c (.bool false))),
 m d45 r44,
 .g .h2 .hd true d46 (.op (.fad 6 r2)),
 .g .h2 .hd true d47 (.op (.ld1 r46)),
 .g .h2 .hd true d48 (.op (.fad 6 r3)),
 .g .h2 .hd true d49 (.op (.ld1 r48)),
 .g .h2 .hd true d50 (.call 450 [r47,r49]),
 o d51 (.pick r45 r50 (.c (.bool false))),
 m d52 r51,
 .g .h3 .h4 true d53 (.op (.fad 7 r2)),
 .g .h3 .h4 true d54 (.op (.ld1 r53)),
 .g .h3 .h4 true d55 (.op (.fad 7 r3)),
 .g .h3 .h4 true d56 (.op (.ld1 r55)),
 .g .h3 .h4 true d57 (.call 451 [r54,r56,(.c (.fn 354 []))]),
 o d58 (.pick r52 r57 (.c (.bool false))),
 m d4 r58]) .ret))
def f354 : AF := .mk x354 [.t .h0 .h4]
def k355_5 : KF := K10 y0 y1 y2 y3 y4 y10 y11 y12 y13 y75 fun c i x h a b d e f g j k l m=>
 I m (C c 457 [a,b,d,f] h fun n h=>
 I n (.ret T36 h) (.nm (T245 a b d e f g j k l) h)) (.nm (T245 a b d e f g j k l) h)
def k355_6 : KF := K10 y0 y1 y2 y3 y4 y10 y11 y12 y13 y97 fun c i x h a b d e f g j k l m=>
 I m (C c 458 [a,b,d,l,f] h fun n h=>
 .ex 1 (T245 a n d e f g j k l) h) (.nm (T245 a b d e f g j k l) h)
def k355_9 : KF := K11 y0 y1 y2 y3 y4 y11 y16 y18 y19 y20 y125 fun c i x h a b d e f g j k l m n=>
 I n (tR (b_ge k m h) fun o h=>
 C c 355 [a,b,j,e,f] h fun p h=>
 D j i1 h fun q h=>
 .nm (T242 a q d e f o g) h) (tR (b_ge l m h) fun o h=>
 D j i1 h fun p h=>
 C c 355 [a,p,d,e,f] h fun q h=>
 .nm (T242 a b j e f o g) h)
def k355_8 : KF := K10 y0 y1 y2 y3 y4 y11 y16 y18 y19 y20 fun c i x h a b d e f g j k l m=>
 Y k l h fun n h=>
 x (T247 a b d e f g j k l m n) h
def k355_7 : KF := K7 y0 y1 y2 y3 y4 y12 y13 fun c i x h a b d e f g j=>
 C c 459 [a,b,d,j,f] h fun k h=>
 E 0 k h fun l h=>
 E 1 k h fun m h=>
 Z l b h fun n h=>
 Z d l h fun o h=>
 tR (b_quo g (pi 8) h) fun p h=>
 x (T246 a b d e f m l n o p) h
def k355_4 : KF := K10 y0 y1 y2 y3 y4 y10 y11 y12 y13 y14 fun c i x h a b d e f g j k l m=>
 Q m (pi 2) h fun n h=>
 I n (C c 456 [a,b,d,f] h fun o h=>
 Z d i1 h fun p h=>
 Z l b h fun q h=>
 Z p q h fun s h=>
 x (T244 a b d e f g j k s i1) h) (x (T244 a b d e f g j k l m) h)
def k355_3 : KF := K8 y0 y1 y2 y3 y4 y10 y11 y12 fun c i x h a b d e f g j k=>
 C c 455 [a,b,d,f] h fun l h=>
 E 0 l h fun m h=>
 E 1 l h fun n h=>
 x (T244 a b d e f g j k m n) h
def k355_2 : KF := K8 y0 y1 y2 y3 y4 y10 y11 y12 fun c i x h a b d e f g j k=>
 tR (u_not g h) fun l h=>
 I l (C c 454 [a,b,d,f] h fun m h=>
 Z e i1 h fun n h=>
 x (T243 a b d n f g j k) h) (x (T243 a b d e f g j k) h)
def k355_1 : KF := K7 y0 y1 y2 y3 y4 y10 y11 fun c i x h a b d e f g j=>
 Z d b h fun k h=>
 tR (b_le k (pi 12) h) fun l h=>
 I l (C c 452 [a,b,d,f] h fun m h=>
 .ret T36 h) (Q e i0 h fun m h=>
 I m (C c 453 [a,b,d,f] h fun n h=>
 .ret T36 h) (x (T243 a b d e f g j k) h))
def k355_0 : KF := K5 y0 y1 y2 y3 y4 fun c i x h a b d e f=>
 x (T242 a b d e f (.bool true) (.bool true)) h
def x355 : AC := (.shal k355_0 (.block 0 (.loop (.block 1 (.shal k355_1 (.shal k355_2 (.shal k355_3 (.shal k355_4 (.seq (.seq (.ops [m d68 r10,
 m d69 r68,
 .g .h4 .h5 true d70 (.op (.mv r11)),
 o d71 (.pick r69 r70 (.c (.bool false))),
 m d72 r71,
 .g .h4 .h8 true d73 (.op (.mv r14)),
 .g .h4 .h8 true d74 (.op (.bin .eq r73 a1)),
 o d75 (.pick r72 r74 (.c (.bool false)))]) (.shal k355_5 .skip)) (.seq (.seq (.drw [q 0 (m d81 r1),
 q 0 (o d82 (.bin .gt r81 a0)),
 q 0 (m d83 r82),
 q 0 (.g .h5 .h3 true d84 (.op (.mv r4))),
 q 0 (.g .h5 .h3 true d85 (.op (.mv r0))),
 q 0 (.g .h5 .h3 true d86 (.op (.mv r1))),
 q 0 (.g .h5 .h3 true d87 (.op (.bin .sub r86 a1))),
 q 0 (.g .h5 .h3 true d88 (.op (.ixs 11 r85 r87))),
 q 0 (.g .h5 .h3 true d89 (.op (.ldn 11 r88))),
 q 0 (.g .h5 .h3 true d90 (.op (.mv r0))),
 q 0 (.g .h5 .h3 true d91 (.op (.mv r13))),
 q 0 (.g .h5 .h3 true d92 (.op (.ixs 11 r90 r91))),
 q 0 (.g .h5 .h3 true d93 (.op (.ldn 11 r92))),
 w (.g .h5 .h3 true d94 (.calld r84 [r89,r93])),
 q 0 (.g .h5 .h3 true d95 (.op (.bin .lt r94 a0))),
 q 0 (.g .h5 .h3 true d96 (.op (.un .not r95))),
 q 0 (o d97 (.pick r83 r96 (.c (.bool false))))]) (.shal k355_6 .skip)) (.shal k355_7 (.shal k355_8 (.shal k355_9 .skip)))))))))))))
def f355 : AF := .mk x355 []
def k358_0 : KF := K2 y0 y1 fun c i x h a b=>
 C c 378 [a,b] h fun d h=>
 tR (b_ge d i0 h) fun e h=>
 .ret (T12 e) h
def x358 : AC := (.shal k358_0 .skip)
def f358 : AF := .mk x358 [.t .h0 .h4]
def k361_2 : KF := K4 y0 y1 y7 y8 fun c i x h a b d e=>
 Y e d h fun f h=>
 I f (X 2 a e h fun g h=>
 M 2 g h fun j h=>
 tT (cd c b [j] h) fun k h=>
 I k (.ret (T12 e) h) (D e i1 h fun l h=>
 .nm (T188 a b d l) h)) (.ex 0 (T188 a b d e) h)
def k361_1 : KF := K2 y0 y1 fun c i x h a b=>
 G a h fun d h=>
 x (T188 a b d i0) h
def k361_3 : KF := fun c i x r h=>
 .ret (T12 (ni 0)) h
def k361_0 : KF := K2 y0 y1 fun c i x h a b=>
 x (T25 a b) h
def x361 : AC := (.shal k361_0 (.seq (.shal k361_1 (.block 0 (.loop (.shal k361_2 .skip)))) (.shal k361_3 .skip)))
def f361 : AF := .mk x361 [.t .h0 .h4]
def k362_2 : KF := K4 y1 y4 y9 y10 fun c i x h a b d e=>
 .nm (T255 b d e (pi 11) a) h
def k362_4 : KF := K6 y1 y4 y8 y9 y11 y12 fun c i x h a b d e f g=>
 C c 464 [d,a,(.fn 462 [])] h fun j h=>
 x (T257 a b d e j f g) h
def k362_3 : KF := K7 y1 y4 y8 y9 y11 y12 y13 fun c i x h a b d e f g j=>
 C c 462 [j] h fun k h=>
 x (T256 a b d e f g k) h
def k362_1 : KF := K8 y0 y1 y4 y8 y9 y10 y11 y12 fun c i x h a b d e f g j k=>
 tR (o_idxs (.c e) (.c b) .nil h) fun l h=>
 x (T254 a b d e f g j k l) h
def k362_5 : KF := K5 y4 y9 y10 y11 y12 fun c i x h a b d e f=>
 M 5 b h fun g h=>
 S 5 a g h fun j h=>
 .ret (T137 a d e f) h
def k362_0 : KF := K2 y0 y1 fun c i x h a b=>
 O 418 5 (.k1 (Y5 i0 iS i0 .nils i0)) h fun d h=>
 J a h fun e h=>
 A 0 e h fun f h=>
 L f h fun g h=>
 U [i0,iS,i0,.nils,i0] [.mk 4 1 (.c b)] h fun j h=>
 O 418 5 (.k1 (Y5 i0 iS i0 .nils i0)) h fun k h=>
 S 5 k j h fun l h=>
 D b i1 h fun m h=>
 x (T253 a b d g k m i0 i0) h
def x362 : AC := (.shal k362_0 (.seq (.shal k362_1 (.block 0 (.seq (.ops [m d28 r0,
 oc d29 364 [r28],
 m d30 r29,
 .g .h1 .he true d31 (.op (.mv r13)),
 .g .h1 .he true d32 (.call 462 [r31]),
 .g .h1 .he true d33 (.op (.mv r32)),
 .g .h2 .h1 false d34 (.op (.mv r13)),
 .g .h2 .h1 false d35 (.call 463 [r34]),
 .g .h1 .he true d36 (.op (.pick r33 (.c (.bool true)) r35)),
 .g .h1 .he true d37 (.op (.mv r36)),
 .g .h2 .h5 false d38 (.op (.mv r13)),
 .g .h2 .h5 false d39 (.op (.bin .eq r38 (.c (.int .u8 (.ofNat 45))))),
 .g .h1 .he true d40 (.op (.pick r37 (.c (.bool true)) r39)),
 .g .h1 .he true d41 (.op (.mv r40)),
 .g .h2 .h9 false d42 (.op (.mv r13)),
 .g .h2 .h9 false d43 (.op (.bin .eq r42 (.c (.int .u8 (.ofNat 34))))),
 .g .h1 .he true d44 (.op (.pick r41 (.c (.bool true)) r43)),
 o d45 (.pick r30 r44 (.c (.bool false))),
 m d27 r45]) (.cond r27 (.shal k362_2 .skip) (.shal k362_3 (.cond r47 (.shal k362_4 (.drw [qf 0 d57 0 r9,
 w (os r57 a2),
 q 1 (m d53 r8),
 q 1 (m d54 r1),
 q 1 (m d55 r10),
 q 1 (o d56 (.slcs r53 (.some r54) (.some r55))),
 qf 0 d58 1 r9,
 w (os r58 r56)])) (.bad 0))))))) (.shal k362_5 .skip)))
def f362 : AF := .mk x362 [.agg 5 .h0 .h4,.t .h0 .h5,.t .h0 .h6,.t .h0 .h7]
def k363_2 : KF := K3 y29 y30 y32 fun c i x h a b d=>
 X 5 d b h fun e h=>
 S 5 e a h fun f h=>
 .nm T36 h
def k363_1 : KF := K2 y0 y3 fun c i x h a b=>
 J a h fun d h=>
 A 1 d h fun e h=>
 L e h fun f h=>
 G f h fun g h=>
 tR (b_gt g i0 h) fun j h=>
 x (T258 a b g j) h
def k363_0 : KF := K2 y0 y1 fun c i x h a b=>
 B 418 b h fun d h=>
 x (T13 a d) h
def x363 : AC := (.shal k363_0 (.seq (.shal k363_1 (.cond r11 (.seq (.seq (.alt (.drw [w (o d12 (.alloc 4 1 (.k1 (Y1 (.bool false))))),
 w (os r12 (.c (.bool true))),
 w (os r12 (.c (.bool false))),
 ql 0 d13 r12])
 (.drw [w (o d12 (.alloc 4 1 (.k1 (Y1 (.bool false))))),
 w (os r12 (.c (.bool false))),
 w (os r12 (.c (.bool true))),
 ql 0 d13 r12])) (.cond r13 (.seq (.drw [w (o d31 (.bslice 418 5 1 [i0,iS,i0,.nils,i0] [.mk 0 5 (.c (.agg [i0,iS,i0,.nils,i0]))])),
 q 1 (m d14 r0),
 qj 1 d15 r14,
 qf 1 d16 1 r15,
 ql 1 d17 r16,
 q 1 (m d18 r4),
 q 1 (o d19 (.bin .sub r18 a1)),
 q 1 (m d20 r0),
 qj 1 d21 r20,
 qf 1 d22 1 r21,
 ql 1 d23 r22,
 q 1 (m d24 r4),
 q 1 (o d25 (.bin .sub r24 a1)),
 q 1 (o d26 (.ixs 5 r23 r25)),
 qf 1 d27 3 r26,
 ql 1 d28 r27,
 q 1 (o d29 (.ldn 5 r3)),
 q 1 (o d30 (.len r28)),
 w (o d32 (.app 418 5 r28 r31)),
 q 0 (o d33 (.ixs 5 r17 r19)),
 qf 0 d34 3 r33,
 w (os r34 r32)]) (.shal k363_2 .skip)) (.drw [q 0 (o d51 (.ldn 5 r3)),
 w (o d52 (.bslice 418 5 1 [i0,iS,i0,.nils,i0] [.mk 0 5 r51])),
 q 1 (m d42 r0),
 qj 1 d43 r42,
 qf 1 d44 1 r43,
 ql 1 d45 r44,
 q 1 (m d46 r4),
 q 1 (o d47 (.bin .sub r46 a1)),
 q 1 (o d48 (.ixs 5 r45 r47)),
 qf 1 d49 3 r48,
 ql 1 d50 r49,
 w (o d53 (.app 418 5 r50 r52)),
 q 2 (m d36 r0),
 qj 2 d37 r36,
 qf 2 d38 1 r37,
 ql 2 d39 r38,
 q 2 (m d40 r4),
 q 2 (o d41 (.bin .sub r40 a1)),
 q 0 (o d54 (.ixs 5 r39 r41)),
 qf 0 d55 3 r54,
 w (os r55 r53)]))) .ret) .skip)) (.alt (.drw [w (o d62 (.bslice 418 5 1 [i0,iS,i0,.nils,i0] [.mk 0 5 (.c (.agg [i0,iS,i0,.nils,i0]))])),
 q 1 (m d56 r0),
 qj 1 d57 r56,
 qf 1 d58 2 r57,
 ql 1 d59 r58,
 q 1 (o d60 (.ldn 5 r3)),
 q 1 (o d61 (.len r59)),
 w (o d63 (.app 418 5 r59 r62)),
 q 0 (o d64 (.ixs 5 r63 r61)),
 w (o .no (.stn 5 r64 r60)),
 qj 1 d65 r56,
 qf 1 d66 2 r65,
 w (os r66 r63)])
 (.drw [w (o d62 (.bslice 418 5 1 [i0,iS,i0,.nils,i0] [.mk 0 5 (.c (.agg [i0,iS,i0,.nils,i0]))])),
 q 1 (m d56 r0),
 qj 1 d57 r56,
 qf 1 d58 2 r57,
 ql 1 d59 r58,
 q 1 (o d60 (.ldn 5 r3)),
 q 1 (o d61 (.len r59)),
 w (o d63 (.app 418 5 r59 r62)),
 qj 0 d65 r56,
 qf 0 d66 2 r65,
 w (os r66 r63),
 q 1 (o d64 (.ixs 5 r63 r61)),
 w (o .no (.stn 5 r64 r60))]))))
def f363 : AF := .mkj x363 []
def k364_0 : KF := K1 y0 fun c i x h a=>
 J a h fun b h=>
 A 2 b h fun d h=>
 L d h fun e h=>
 G e h fun f h=>
 tR (b_gt f i0 h) fun g h=>
 .ret (T24 g) h
def x364 : AC := (.shal k364_0 .skip)
def f364 : AF := .mk x364 [.t .h0 .h2]
def k365_3 : KF := K1 y20 fun c i x h a=>
 I a (.ret (T24 i1) h) (.nm T36 h)
def k365_5 : KF := K1 y3 fun c i x h a=>
 Q a (pi 3) h fun b h=>
 I b (.ret (T24 (pi 2)) h) (.nm T36 h)
def k365_7 : KF := K1 y36 fun c i x h a=>
 I a (.ret (T24 (pi 3)) h) (.nm T36 h)
def k365_6 : KF := K3 y1 y3 y8 fun c i x h a b d=>
 tR (b_seq d (.str [112,114,111,106,101,99,116]) h) fun e h=>
 x (T262 a b e) h
def k365_4 : KF := K3 y1 y3 y8 fun c i x h a b d=>
 tR (b_seq d (.str [102,105,108,116,101,114]) h) fun e h=>
 x (T261 a b d e) h
def k365_2 : KF := K3 y1 y3 y8 fun c i x h a b d=>
 tR (b_seq d (.str [116,97,98,108,101]) h) fun e h=>
 x (T260 a b d e) h
def k365_1 : KF := K2 y1 y3 fun c i x h a b=>
 M 5 a h fun d h=>
 C c 467 [d] h fun e h=>
 x (T259 a b e) h
def k365_8 : KF := fun c i x r h=>
 .ret (T24 i0) h
def k365_0 : KF := K1 y0 fun c i x h a=>
 B 418 a h fun b h=>
 A 3 b h fun d h=>
 L d h fun e h=>
 G e h fun f h=>
 x (T56 b f) h
def x365 : AC := (.shal k365_0 (.seq (.shal k365_1 (.block 0 (.shal k365_2 (.cond r9 (.seq (.ops [m d11 r3,
 o d12 (.bin .eq r11 a2),
 m d13 r12,
 .g .h0 .hd true d14 (.op (.fad 3 r1)),
 .g .h0 .hd true d15 (.op (.ld1 r14)),
 .g .h0 .hd true d16 (.op (.ixs 5 r15 a1)),
 .g .h0 .hd true d17 (.op (.fad 0 r16)),
 .g .h0 .hd true d18 (.op (.ld1 r17)),
 .g .h0 .hd true d19 (.op (.bin .eq r18 a2)),
 o d20 (.pick r13 r19 (.c (.bool false)))]) (.shal k365_3 .skip)) (.shal k365_4 (.cond r21 (.shal k365_5 .skip) (.shal k365_6 (.cond r25 (.seq (.ops [m d27 r3,
 o d28 (.bin .ge r27 (.c (pi 3))),
 m d29 r28,
 .g .h1 .hd true d30 (.op (.fad 3 r1)),
 .g .h1 .hd true d31 (.op (.ld1 r30)),
 .g .h1 .hd true d32 (.op (.mv r3)),
 .g .h1 .hd true d33 (.op (.bin .sub r32 a1)),
 .g .h1 .hd true d34 (.op (.slc 5 r31 (.some a1) (.some r33) .none)),
 .g .h1 .hd true d35 (.call 468 [r34,(.c (.fn 469 []))]),
 o d36 (.pick r29 r35 (.c (.bool false)))]) (.shal k365_7 .skip)) (.bad 0))))))))) (.shal k365_8 .skip)))
def f365 : AF := .mk x365 [.t .h0 .h2]
def k366_0 : KF := K2 y0 y1 fun c i x h a b=>
 B 418 b h fun d h=>
 A 1 d h fun e h=>
 L e h fun f h=>
 C c 349 [f] h fun g h=>
 tR (u_not g h) fun j h=>
 I j (A 4 d h fun k h=>
 L k h fun l h=>
 C c 314 [a,(pi 20),l] h fun m h=>
 A 1 d h fun n h=>
 L n h fun o h=>
 .ret (T12 o) h) (A 1 d h fun k h=>
 L k h fun l h=>
 .ret (T12 l) h)
def x366 : AC := (.shal k366_0 .skip)
def f366 : AF := .mk x366 [.t .h0 .h4]
def k370_2 : KF := K3 y0 y1 y5 fun c i x h a b d=>
 tR (lent b h) fun e h=>
 G a h fun f h=>
 Z f i1 h fun g h=>
 tR (b_quo (pi 9223372036854775807) g h) fun j h=>
 tR (b_ge e j h) fun k h=>
 x (T264 a b d k) h
def k370_3 : KF := K3 y0 y1 y5 fun c i x h a b d=>
 tR (lent b h) fun e h=>
 G a h fun f h=>
 Z f i1 h fun g h=>
 tR (b_mul e g h) fun j h=>
 D d j h fun k h=>
 .nm (T32 a b k) h
def k370_1 : KF := K3 y0 y1 y5 fun c i x h a b d=>
 tR (lent b h) fun e h=>
 tR (b_gt e i0 h) fun f h=>
 x (T263 a b d f) h
def k370_7 : KF := K7 y0 y1 y5 y7 y39 y40 y41 fun c i x h a b d e f g j=>
 tR (lent e h) fun k h=>
 Z (pi 9223372036854775807) d h fun l h=>
 tR (b_gt k l h) fun m h=>
 x (T267 a b d e f g j m) h
def k370_8 : KF := K7 y0 y1 y5 y7 y39 y40 y41 fun c i x h a b d e f g j=>
 tR (lent e h) fun k h=>
 D d k h fun l h=>
 .nm (T265 a b l f g j) h
def k370_6 : KF := K6 y0 y1 y5 y39 y40 y41 fun c i x h a b d e f g=>
 X 1 e g h fun j h=>
 L j h fun k h=>
 x (T266 a b d k e f g) h
def k370_9 : KF := K6 y0 y1 y5 y39 y40 y41 fun c i x h a b d e f g=>
 D g i1 h fun j h=>
 .nm (T265 a b d e f j) h
def k370_5 : KF := K6 y0 y1 y5 y39 y40 y41 fun c i x h a b d e f g=>
 Y g f h fun j h=>
 I j (x (T265 a b d e f g) h) (.ex 1 (T32 a b d) h)
def k370_4 : KF := K3 y0 y1 y5 fun c i x h a b d=>
 G a h fun e h=>
 x (T265 a b d a e i0) h
def k370_12 : KF := K5 y1 y8 y63 y64 y65 fun c i x h a b d e f=>
 Y f e h fun g h=>
 I g (X 1 d f h fun j h=>
 L j h fun k h=>
 C c 474 [b,a] h fun l h=>
 C c 474 [b,k] h fun m h=>
 D f i1 h fun n h=>
 .nm (T268 a b d e n) h) (.ex 3 (T268 a b d e f) h)
def k370_11 : KF := K3 y0 y1 y8 fun c i x h a b d=>
 tR (o_slc 1 (.c a) (.some (.c i1)) .none .none .nil h) fun e h=>
 G e h fun f h=>
 x (T268 b d e f i0) h
def k370_13 : KF := K1 y8 fun c i x h a=>
 C c 475 [a] h fun b h=>
 .ret (T12 b) h
def k370_10 : KF := K3 y0 y1 y5 fun c i x h a b d=>
 O 576 2 (.k1 (Y2 .nilp .nils)) h fun e h=>
 C c 473 [e,d] h fun f h=>
 X 1 a i0 h fun g h=>
 L g h fun j h=>
 C c 474 [e,j] h fun k h=>
 x (T152 a b e) h
def k370_0 : KF := K2 y0 y1 fun c i x h a b=>
 G a h fun d h=>
 Q d i0 h fun e h=>
 I e (.ret (T12 iS) h) (Q d i1 h fun f h=>
 I f (X 1 a i0 h fun g h=>
 L g h fun j h=>
 .ret (T12 j) h) (x (T32 a b i0) h))
def x370 : AC := (.shal k370_0 (.seq (.shal k370_1 (.cond r22 (.seq (.shal k370_2 (.cond r29 (.ops [o d30 (.mki 9 (.c (.str [115,116,114,105,110,103,115,58,32,74,111,105,110,32,111,117,116,112,117,116,32,108,101,110,103,116,104,32,111,118,101,114,102,108,111,119]))),
 o .no (.bad 400)]) .skip)) (.shal k370_3 .skip)) .skip)) (.seq (.shal k370_4 (.block 1 (.loop (.shal k370_5 (.seq (.block 2 (.shal k370_6 (.seq (.shal k370_7 (.cond r49 (.ops [o d50 (.mki 9 (.c (.str [115,116,114,105,110,103,115,58,32,74,111,105,110,32,111,117,116,112,117,116,32,108,101,110,103,116,104,32,111,118,101,114,102,108,111,119]))),
 o .no (.bad 400)]) .skip)) (.shal k370_8 .skip)))) (.shal k370_9 .skip)))))) (.shal k370_10 (.seq (.shal k370_11 (.block 3 (.loop (.shal k370_12 .skip)))) (.shal k370_13 .skip))))))
def f370 : AF := .mk x370 [.t .h0 .h4]
def k374_0 : KF := K1 y0 fun c i x h a=>
 O 418 5 (.k1 (Y5 i0 iS i0 .nils i0)) h fun b h=>
 U [i0,iS,i0,.nils,i0] [.mk 0 1 (.c i1),.mk 3 1 (.c a)] h fun d h=>
 S 5 b d h fun e h=>
 .ret (T24 b) h
def x374 : AC := (.shal k374_0 .skip)
def f374 : AF := .mk x374 [.agg 5 .h0 .h2]
def k375_0 : KF := K1 y0 fun c i x h a=>
 O 418 5 (.k1 (Y5 i0 iS i0 .nils i0)) h fun b h=>
 U [i0,iS,i0,.nils,i0] [.mk 0 1 (.c (pi 2)),.mk 1 1 (.c a)] h fun d h=>
 S 5 b d h fun e h=>
 .ret (T24 b) h
def x375 : AC := (.shal k375_0 .skip)
def f375 : AF := .mk x375 [.agg 5 .h0 .h2]
def k378_2 : KF := K4 y0 y1 y7 y8 fun c i x h a b d e=>
 Y e d h fun f h=>
 I f (X 2 a e h fun g h=>
 M 2 g h fun j h=>
 tT (cd c b [j] h) fun k h=>
 I k (.ret (T12 e) h) (D e i1 h fun l h=>
 .nm (T188 a b d l) h)) (.ex 0 (T188 a b d e) h)
def k378_1 : KF := K2 y0 y1 fun c i x h a b=>
 G a h fun d h=>
 x (T188 a b d i0) h
def k378_3 : KF := fun c i x r h=>
 .ret (T12 (ni 0)) h
def k378_0 : KF := K2 y0 y1 fun c i x h a b=>
 x (T25 a b) h
def x378 : AC := (.shal k378_0 (.seq (.shal k378_1 (.block 0 (.loop (.shal k378_2 .skip)))) (.shal k378_3 .skip)))
def f378 : AF := .mk x378 [.t .h0 .h4]
def k379_0 : KF := K2 y0 y1 fun c i x h a b=>
 B 240 a h fun d h=>
 A 0 d h fun e h=>
 L e h fun f h=>
 A 1 b h fun g h=>
 L g h fun j h=>
 tR (b_seq f j h) fun k h=>
 .ret (T59 k) h
def x379 : AC := (.shal k379_0 .skip)
def f379 : AF := .mk x379 [.t .h0 .h3]
def k385_2 : KF := K4 y0 y1 y7 y8 fun c i x h a b d e=>
 Y e d h fun f h=>
 I f (X 1 a e h fun g h=>
 L g h fun j h=>
 tR (b_seq b j h) fun k h=>
 I k (.ret (T12 e) h) (D e i1 h fun l h=>
 .nm (T188 a b d l) h)) (.ex 0 (T188 a b d e) h)
def k385_1 : KF := K2 y0 y1 fun c i x h a b=>
 G a h fun d h=>
 x (T188 a b d i0) h
def k385_3 : KF := fun c i x r h=>
 .ret (T12 (ni 0)) h
def k385_0 : KF := K2 y0 y1 fun c i x h a b=>
 x (T25 a b) h
def x385 : AC := (.shal k385_0 (.seq (.shal k385_1 (.block 0 (.loop (.shal k385_2 .skip)))) (.shal k385_3 .skip)))
def f385 : AF := .mk x385 [.t .h0 .h4]
def k386_2 : KF := K4 y1 y16 y17 y18 fun c i x h a b d e=>
 Y e d h fun f h=>
 I f (X 8 b e h fun g h=>
 M 8 g h fun j h=>
 O 245 8 (.k1 (Y8 i0 iS .nils .nils .nils .nils .nils .nils)) h fun k h=>
 S 8 k j h fun l h=>
 M 8 k h fun m h=>
 C c 386 [m,a] h fun n h=>
 D e i1 h fun o h=>
 .nm (T269 n b d o) h) (.ex 0 (T269 a b d e) h)
def k386_1 : KF := K2 y1 y2 fun c i x h a b=>
 A 7 b h fun d h=>
 L d h fun e h=>
 G e h fun f h=>
 x (T269 a e f i0) h
def k386_3 : KF := K1 y1 fun c i x h a=>
 .ret (T12 a) h
def k386_0 : KF := K2 y0 y1 fun c i x h a b=>
 B 245 a h fun d h=>
 A 0 d h fun e h=>
 L e h fun f h=>
 Q f i1 h fun g h=>
 I g (A 1 d h fun j h=>
 L j h fun k h=>
 tR (bs 9 1 1 [iS] [.mk 0 1 (.c k)] h) fun l h=>
 tR (appV 9 1 b l h) fun m h=>
 x (T33 m d) h) (x (T33 b d) h)
def x386 : AC := (.shal k386_0 (.seq (.shal k386_1 (.block 0 (.loop (.shal k386_2 .skip)))) (.shal k386_3 .skip)))
def f386 : AF := .mk x386 [.t .h0 .h4]
def k387_0 : KF := K1 y0 fun c i x h a=>
 G a h fun b h=>
 tR (cK (.toInt .u64) b h) fun d h=>
 C c 348 [d] h fun e h=>
 C c 481 [a,i0,b,e] h fun f h=>
 .nm T36 h
def x387 : AC := (.shal k387_0 .skip)
def f387 : AF := .mk x387 []
def k388_3 : KF := K2 y0 y3 fun c i x h a b=>
 tQ (iX 1 a b h) fun d=>
 tQ (lD d h) fun e=>
 tQ (b_sub b i1 h) fun f=>
 tQ (iX 1 a f h) fun g=>
 tQ (lD g h) fun j=>
 tQ (b_seq e j h) fun k=>
 x (T270 a b k) h
def k388_4 : KF := K2 y0 y3 fun c i x h a b=>
 D b i1 h fun d h=>
 .nm (T13 a d) h
def k388_2 : KF := K2 y0 y3 fun c i x h a b=>
 G a h fun d h=>
 Y b d h fun e h=>
 I e (x (T13 a b) h) (.ex 0 (T1 a) h)
def k388_1 : KF := K1 y0 fun c i x h a=>
 x (T13 a i1) h
def k388_5 : KF := K1 y0 fun c i x h a=>
 .ret (T24 a) h
def k388_0 : KF := K1 y0 fun c i x h a=>
 G a h fun b h=>
 Y b (pi 2) h fun d h=>
 I d (.ret (T24 a) h) (x (T1 a) h)
def x388 : AC := (.shal k388_0 (.seq (.shal k388_1 (.block 0 (.loop (.shal k388_2 (.seq (.block 1 (.shal k388_3 (.cond r25 (.bad 0) .skip))) (.shal k388_4 .skip)))))) (.shal k388_5 .skip)))
def f388 : AF := .mk x388 [.t .h0 .h2]
def k389_0 : KF := K2 y0 y1 fun c i x h a b=>
 B 240 a h fun d h=>
 A 0 d h fun e h=>
 L e h fun f h=>
 A 0 b h fun g h=>
 L g h fun j h=>
 tR (b_seq f j h) fun k h=>
 .ret (T59 k) h
def x389 : AC := (.shal k389_0 .skip)
def f389 : AF := .mk x389 [.t .h0 .h3]
def k391_0 : KF := K2 y0 y1 fun c i x h a b=>
 tR (bs 46 1 2 [.nils,.nils] [.mk 0 1 (.c a),.mk 1 1 (.c b)] h) fun d h=>
 C c 483 [d] h fun e h=>
 C c 482 [e] h fun f h=>
 E 0 f h fun g h=>
 E 1 f h fun j h=>
 .ret (T28 g j) h
def x391 : AC := (.shal k391_0 .skip)
def f391 : AF := .mk x391 [.t .h0 .h4,.t .h0 .h5]
def k392_3 : KF := K4 y3 y9 y10 y11 fun c i x h a b d e=>
 X 2 b e h fun f h=>
 M 2 f h fun g h=>
 O 205 2 (.k1 (Y2 .nils (.cplx .f64 0 0))) h fun j h=>
 S 2 j g h fun k h=>
 x (T175 a j b d e) h
def k392_4 : KF := K4 y3 y9 y10 y11 fun c i x h a b d e=>
 D e i1 h fun f h=>
 .nm (T174 a b d f) h
def k392_2 : KF := K4 y3 y9 y10 y11 fun c i x h a b d e=>
 Y e d h fun f h=>
 I f (x (T174 a b d e) h) (.ex 0 (T59 a) h)
def k392_1 : KF := K2 y0 y3 fun c i x h a b=>
 G a h fun d h=>
 x (T174 b a d i0) h
def k392_5 : KF := K1 y3 fun c i x h a=>
 .ret (T24 a) h
def k392_0 : KF := K1 y0 fun c i x h a=>
 C c 216 [a] h fun b h=>
 tR (u_not b h) fun d h=>
 I d (.ret (T24 .nils) h) (x (T13 a .nils) h)
def x392 : AC := (.shal k392_0 (.seq (.shal k392_1 (.block 0 (.loop (.shal k392_2 (.seq (.block 1 (.shal k392_3 (.drw [qf 0 d18 1 r5,
 ql 0 d19 r18,
 w (oc d20 484 [r19]),
 qf 1 d16 0 r5,
 ql 1 d17 r16,
 w (oc d21 110 [r17,r20]),
 w (o d22 (.bslice 205 2 1 [.nils,(.cplx .f64 0 0)] [.mk 0 2 r21])),
 q 3 (m d15 r3),
 w (o d23 (.app 205 2 r15 r22)),
 q 0 (m d3 r23)]))) (.shal k392_4 .skip)))))) (.shal k392_5 .skip)))
def f392 : AF := .mk x392 [.t .h0 .h2]
def k400_2 : KF := K4 y3 y6 y7 y8 fun c i x h a b d e=>
 Y e d h fun f h=>
 I f (X 2 b e h fun g h=>
 M 2 g h fun j h=>
 O 205 2 (.k1 (Y2 .nils (.cplx .f64 0 0))) h fun k h=>
 S 2 k j h fun l h=>
 A 1 k h fun m h=>
 L m h fun n h=>
 C c 218 [n] h fun o h=>
 D a o h fun p h=>
 tR (b_gt p (pi 512) h) fun q h=>
 I q (.ret (T24 (.bool true)) h) (D e i1 h fun s h=>
 .nm (T81 p b d s) h)) (.ex 0 (T81 a b d e) h)
def k400_1 : KF := K2 y0 y3 fun c i x h a b=>
 G a h fun d h=>
 x (T81 b a d i0) h
def k400_3 : KF := fun c i x r h=>
 .ret (T24 (.bool false)) h
def k400_0 : KF := K1 y0 fun c i x h a=>
 x (T13 a i0) h
def x400 : AC := (.shal k400_0 (.seq (.shal k400_1 (.block 0 (.loop (.shal k400_2 .skip)))) (.shal k400_3 .skip)))
def f400 : AF := .mk x400 [.t .h0 .h2]
def k403_0 : KF := K2 y0 y1 fun c i x h a b=>
 B 240 a h fun d h=>
 A 0 d h fun e h=>
 L e h fun f h=>
 L b h fun g h=>
 tR (b_seq f g h) fun j h=>
 .ret (T59 j) h
def x403 : AC := (.shal k403_0 .skip)
def f403 : AF := .mk x403 [.t .h0 .h3]
def k404_0 : KF := K1 y0 fun c i x h a=>
 tR (bK (.isnil .s) a .nils h) fun b h=>
 I b (.ret (T24 .nils) h) (tR (bs 240 2 0 [] [] h) fun d h=>
 tR (appV 240 2 d a h) fun e h=>
 .ret (T24 e) h)
def x404 : AC := (.shal k404_0 .skip)
def f404 : AF := .mk x404 [.t .h0 .h2]
def k405_0 : KF := K1 y0 fun c i x h a=>
 tR (bK (.isnil .s) a .nils h) fun b h=>
 I b (.ret (T24 .nils) h) (tR (bs 247 11 0 [] [] h) fun d h=>
 tR (appV 247 11 d a h) fun e h=>
 .ret (T24 e) h)
def x405 : AC := (.shal k405_0 .skip)
def f405 : AF := .mk x405 [.t .h0 .h2]
def k406_2 : KF := K4 y0 y1 y7 y8 fun c i x h a b d e=>
 Y e d h fun f h=>
 I f (X 11 a e h fun g h=>
 M 11 g h fun j h=>
 tT (cd c b [j] h) fun k h=>
 I k (.ret (T12 e) h) (D e i1 h fun l h=>
 .nm (T188 a b d l) h)) (.ex 0 (T188 a b d e) h)
def k406_1 : KF := K2 y0 y1 fun c i x h a b=>
 G a h fun d h=>
 x (T188 a b d i0) h
def k406_3 : KF := fun c i x r h=>
 .ret (T12 (ni 0)) h
def k406_0 : KF := K2 y0 y1 fun c i x h a b=>
 x (T25 a b) h
def x406 : AC := (.shal k406_0 (.seq (.shal k406_1 (.block 0 (.loop (.shal k406_2 .skip)))) (.shal k406_3 .skip)))
def f406 : AF := .mk x406 [.t .h0 .h4]
def k412_0 : KF := K1 y0 fun c i x h a=>
 tR (b_ne a a h) fun b h=>
 .ret (T24 b) h
def x412 : AC := (.shal k412_0 .skip)
def f412 : AF := .mk x412 [.t .h0 .h2]
def k413_1 : KF := K1 y1 fun c i x h a=>
 x T36 h
def k413_2 : KF := K1 y2 fun c i x h a=>
 L a h fun b h=>
 .ret (T12 b) h
def k413_0 : KF := K2 y0 y1 fun c i x h a b=>
 B 40 a h fun d h=>
 x (T34 b) h
def p413_0 : List GI := [o d2 (.box 40 r0),m d4 (.c .nils)]
def p413_1 : List GI := [m d6 r1]
def p413_2 : List GI := [ol d4 r1,o d5 (.rngm r4)]
def p413_3 : List GI := [.o d6 (.nxt false r5),oe d7 0 r6]
def p413_4 : List GI := [o d8 (.ent r5),oe d9 0 r8,m d3 r9]
def p413_5 : List GI := [m d11 r3]
def p413_6 : List GI := [m d5 r7]
def p413_7 : List GI := [ol d8 r2,m d9 r5,o d10 (.bslice 3 1 1 [i0] [.mk 0 1 r9]),o d11 (.app 3 1 r8 r10),os r2 r11]
def p413_8 : List GI := [ol d12 r2,m d4 r12]
def p413 : PK := (.coll 339 p413_0 p413_1 p413_2 p413_3 p413_4 p413_5 p413_6 p413_7 p413_8)
def x413 : AC := (.shal k413_0 (.seq (.shal k413_1 (.block 0 (.bad 402))) (.shal k413_2 .skip)))
def f413 : AF := .prim p413 x413 [.t .h0 .h4]
def k414_4 : KF := K9 y0 y1 y2 y3 y8 y9 y10 y11 y68 fun c i x h a b d e f g j k l=>
 I l (C c 505 [a,b,d] h fun m h=>
 I m (.ret T36 h) (.nm (T274 a b d e f g j k) h)) (.nm (T274 a b d e f g j k) h)
def k414_5 : KF := K9 y0 y1 y2 y3 y8 y9 y10 y11 y87 fun c i x h a b d e f g j k l=>
 I l (C c 507 [a,b,d,k] h fun m h=>
 .ex 1 (T274 a m d e f g j k) h) (.nm (T274 a b d e f g j k) h)
def k414_8 : KF := K10 y0 y1 y2 y3 y9 y14 y16 y17 y18 y113 fun c i x h a b d e f g j k l m=>
 I m (tR (b_ge j l h) fun n h=>
 C c 414 [a,b,g,e] h fun o h=>
 D g i1 h fun p h=>
 .nm (T271 a p d e n f) h) (tR (b_ge k l h) fun n h=>
 D g i1 h fun o h=>
 C c 414 [a,o,d,e] h fun p h=>
 .nm (T271 a b g e n f) h)
def k414_7 : KF := K9 y0 y1 y2 y3 y9 y14 y16 y17 y18 fun c i x h a b d e f g j k l=>
 Y j k h fun m h=>
 x (T276 a b d e f g j k l m) h
def k414_6 : KF := K6 y0 y1 y2 y3 y10 y11 fun c i x h a b d e f g=>
 C c 508 [a,b,d,g] h fun j h=>
 E 0 j h fun k h=>
 E 1 j h fun l h=>
 Z k b h fun m h=>
 Z d k h fun n h=>
 tR (b_quo f (pi 8) h) fun o h=>
 x (T275 a b d e l k m n o) h
def k414_3 : KF := K7 y0 y1 y2 y3 y8 y9 y10 fun c i x h a b d e f g j=>
 C c 503 [a,b,d] h fun k h=>
 E 0 k h fun l h=>
 E 1 k h fun m h=>
 Q m (pi 2) h fun n h=>
 I n (C c 504 [a,b,d] h fun o h=>
 Z d i1 h fun p h=>
 Z l b h fun q h=>
 Z p q h fun s h=>
 x (T273 a b d e f g j s i1) h) (x (T273 a b d e f g j l m) h)
def k414_2 : KF := K7 y0 y1 y2 y3 y8 y9 y10 fun c i x h a b d e f g j=>
 tR (u_not f h) fun k h=>
 I k (C c 502 [a,b,d] h fun l h=>
 Z e i1 h fun m h=>
 x (T272 a b d m f g j) h) (x (T272 a b d e f g j) h)
def k414_1 : KF := K6 y0 y1 y2 y3 y8 y9 fun c i x h a b d e f g=>
 Z d b h fun j h=>
 tR (b_le j (pi 12) h) fun k h=>
 I k (C c 500 [a,b,d] h fun l h=>
 .ret T36 h) (Q e i0 h fun l h=>
 I l (C c 501 [a,b,d] h fun m h=>
 .ret T36 h) (x (T272 a b d e f g j) h))
def k414_0 : KF := K4 y0 y1 y2 y3 fun c i x h a b d e=>
 x (T271 a b d e (.bool true) (.bool true)) h
def x414 : AC := (.shal k414_0 (.block 0 (.loop (.block 1 (.shal k414_1 (.shal k414_2 (.shal k414_3 (.seq (.seq (.ops [m d61 r8,
 m d62 r61,
 .g .h3 .he true d63 (.op (.mv r9)),
 o d64 (.pick r62 r63 (.c (.bool false))),
 m d65 r64,
 .g .h4 .h1 true d66 (.op (.mv r12)),
 .g .h4 .h1 true d67 (.op (.bin .eq r66 a1)),
 o d68 (.pick r65 r67 (.c (.bool false)))]) (.shal k414_4 .skip)) (.seq (.seq (.drw [q 0 (m d73 r1),
 q 0 (o d74 (.bin .gt r73 a0)),
 q 0 (m d75 r74),
 q 0 (.g .h4 .hb true d76 (.op (.mv r0))),
 q 0 (.g .h4 .hb true d77 (.op (.mv r1))),
 q 0 (.g .h4 .hb true d78 (.op (.bin .sub r77 a1))),
 q 0 (.g .h4 .hb true d79 (.op (.ixs 1 r76 r78))),
 q 0 (.g .h4 .hb true d80 (.op (.ld1 r79))),
 q 0 (.g .h4 .hb true d81 (.op (.mv r0))),
 q 0 (.g .h4 .hb true d82 (.op (.mv r11))),
 q 0 (.g .h4 .hb true d83 (.op (.ixs 1 r81 r82))),
 q 0 (.g .h4 .hb true d84 (.op (.ld1 r83))),
 w (.g .h4 .hb true d85 (.call 506 [r80,r84])),
 q 0 (.g .h4 .hb true d86 (.op (.un .not r85))),
 q 0 (o d87 (.pick r75 r86 (.c (.bool false))))]) (.shal k414_5 .skip)) (.shal k414_6 (.shal k414_7 (.shal k414_8 .skip))))))))))))
def f414 : AF := .mk x414 []
def k430_3 : KF := K1 y4 fun c i x h a=>
 I a (.ret (T24 (.bool true)) h) (.nm T36 h)
def k430_2 : KF := K1 y3 fun c i x h a=>
 tR (b_seq a (.str [116,97,98,108,101]) h) fun b h=>
 I b (x (T12 b) h) (tR (b_seq a (.str [102,105,108,116,101,114]) h) fun d h=>
 I d (x (T12 d) h) (tR (b_seq a (.str [112,114,111,106,101,99,116]) h) fun e h=>
 I e (x (T12 e) h) (tR (b_seq a (.str [106,111,105,110]) h) fun f h=>
 I f (x (T12 f) h) (tR (b_seq a (.str [117,110,105,111,110]) h) fun g h=>
 I g (x (T12 g) h) (tR (b_seq a (.str [100,105,115,116,105,110,99,116]) h) fun j h=>
 I j (x (T12 j) h) (tR (b_seq a (.str [103,114,111,117,112]) h) fun k h=>
 I k (x (T12 k) h) (tR (b_seq a (.str [99,111,117,110,116]) h) fun l h=>
 I l (x (T12 l) h) (tR (b_seq a (.str [115,117,109]) h) fun m h=>
 I m (x (T12 m) h) (tR (b_seq a (.str [109,105,110]) h) fun n h=>
 I n (x (T12 n) h) (tR (b_seq a (.str [109,97,120]) h) fun o h=>
 I o (x (T12 o) h) (tR (b_seq a (.str [97,100,100]) h) fun p h=>
 I p (x (T12 p) h) (tR (b_seq a (.str [115,117,98]) h) fun q h=>
 I q (x (T12 q) h) (tR (b_seq a (.str [109,117,108]) h) fun s h=>
 I s (x (T12 s) h) (tR (b_seq a (.str [110,101,103]) h) fun t h=>
 I t (x (T12 t) h) (tR (b_seq a (.str [101,113]) h) fun v h=>
 I v (x (T12 v) h) (tR (b_seq a (.str [108,116]) h) fun w h=>
 I w (x (T12 w) h) (tR (b_seq a (.str [97,110,100]) h) fun y h=>
 I y (x (T12 y) h) (tR (b_seq a (.str [111,114]) h) fun z h=>
 I z (x (T12 z) h) (tR (b_seq a (.str [110,111,116]) h) fun a0 h=>
 I a0 (x (T12 a0) h) (tR (b_seq a (.str [99,97,116]) h) fun a1 h=>
 I a1 (x (T12 a1) h) (tR (b_seq a (.str [108,101,110]) h) fun a2 h=>
 I a2 (x (T12 a2) h) (tR (b_seq a (.str [105,102]) h) fun a3 h=>
 x (T12 a3) h))))))))))))))))))))))
def k430_1 : KF := K1 y0 fun c i x h a=>
 x (T59 a) h
def k430_4 : KF := fun c i x r h=>
 .ret (T24 (.bool false)) h
def k430_0 : KF := K1 y0 fun c i x h a=>
 x (T1 a) h
def x430 : AC := (.shal k430_0 (.seq (.shal k430_1 (.block 0 (.shal k430_2 (.shal k430_3 .skip)))) (.shal k430_4 .skip)))
def f430 : AF := .mk x430 [.t .h0 .h2]
def k431_2 : KF := K4 y0 y1 y7 y8 fun c i x h a b d e=>
 Y e d h fun f h=>
 I f (X 2 a e h fun g h=>
 M 2 g h fun j h=>
 tT (cd c b [j] h) fun k h=>
 I k (.ret (T12 e) h) (D e i1 h fun l h=>
 .nm (T188 a b d l) h)) (.ex 0 (T188 a b d e) h)
def k431_1 : KF := K2 y0 y1 fun c i x h a b=>
 G a h fun d h=>
 x (T188 a b d i0) h
def k431_3 : KF := fun c i x r h=>
 .ret (T12 (ni 0)) h
def k431_0 : KF := K2 y0 y1 fun c i x h a b=>
 x (T25 a b) h
def x431 : AC := (.shal k431_0 (.seq (.shal k431_1 (.block 0 (.loop (.shal k431_2 .skip)))) (.shal k431_3 .skip)))
def f431 : AF := .mk x431 [.t .h0 .h4]
def k432_0 : KF := K2 y0 y1 fun c i x h a b=>
 B 69 a h fun d h=>
 A 0 d h fun e h=>
 L e h fun f h=>
 L b h fun g h=>
 tR (b_seq f g h) fun j h=>
 .ret (T59 j) h
def x432 : AC := (.shal k432_0 .skip)
def f432 : AF := .mk x432 [.t .h0 .h3]
def k433_3 : KF := K7 y0 y1 y2 y3 y8 y9 y34 fun c i x h a b d e f g j=>
 I j (.nm (T271 a b d e f g) h) (.ex 2 (T271 a b d e f g) h)
def k433_4 : KF := K6 y0 y1 y2 y3 y8 y9 fun c i x h a b d e f g=>
 Z g i1 h fun j h=>
 .nm (T271 a b d e f j) h
def k433_2 : KF := K5 y0 y1 y2 y3 y8 fun c i x h a b d e f=>
 x (T271 a b d e f f) h
def k433_5 : KF := K5 y0 y1 y2 y3 y8 fun c i x h a b d e f=>
 D f i1 h fun g h=>
 .nm (T277 a b d e g) h
def k433_1 : KF := K5 y0 y1 y2 y3 y8 fun c i x h a b d e f=>
 Y f d h fun g h=>
 I g (x (T277 a b d e f) h) (.ex 0 T36 h)
def k433_0 : KF := K4 y0 y1 y2 y3 fun c i x h a b d e=>
 D b i1 h fun f h=>
 x (T277 a b d e f) h
def x433 : AC := (.shal k433_0 (.block 0 (.loop (.shal k433_1 (.seq (.block 1 (.shal k433_2 (.block 2 (.loop (.seq (.seq (.drw [q 0 (m d18 r9),
 q 0 (m d19 r1),
 q 0 (o d20 (.bin .gt r18 r19)),
 q 0 (m d21 r20),
 q 0 (.g .h1 .h5 true d22 (.op (.mv r3))),
 q 0 (.g .h1 .h5 true d23 (.op (.mv r0))),
 q 0 (.g .h1 .h5 true d24 (.op (.mv r9))),
 q 0 (.g .h1 .h5 true d25 (.op (.ixs 2 r23 r24))),
 q 0 (.g .h1 .h5 true d26 (.op (.ldn 2 r25))),
 q 0 (.g .h1 .h5 true d27 (.op (.mv r0))),
 q 0 (.g .h1 .h5 true d28 (.op (.mv r9))),
 q 0 (.g .h1 .h5 true d29 (.op (.bin .sub r28 a1))),
 q 0 (.g .h1 .h5 true d30 (.op (.ixs 2 r27 r29))),
 q 0 (.g .h1 .h5 true d31 (.op (.ldn 2 r30))),
 w (.g .h1 .h5 true d32 (.calld r22 [r26,r31])),
 q 0 (.g .h1 .h5 true d33 (.op (.bin .lt r32 a0))),
 q 0 (o d34 (.pick r21 r33 (.c (.bool false))))]) (.shal k433_3 .skip)) (.seq (.block 3 (.drw [q 0 (m d37 r0),
 q 0 (m d38 r9),
 q 0 (m d42 r0),
 q 0 (m d43 r9),
 q 0 (o d44 (.bin .sub r43 a1)),
 q 0 (o d45 (.ixs 2 r42 r44)),
 q 0 (o d46 (.ldn 2 r45)),
 q 0 (m d47 r0),
 q 0 (m d48 r9),
 q 0 (o d49 (.ixs 2 r47 r48)),
 q 0 (o d50 (.ldn 2 r49)),
 q 0 (o d51 (.ixs 2 r37 r38)),
 w (o .no (.stn 2 r51 r46)),
 q 1 (m d39 r0),
 q 1 (m d40 r9),
 q 1 (o d41 (.bin .sub r40 a1)),
 q 0 (o d52 (.ixs 2 r39 r41)),
 w (o .no (.stn 2 r52 r50))])) (.shal k433_4 .skip))))))) (.shal k433_5 .skip))))))
def f433 : AF := .mk x433 []
def k441_0 : KF := K2 y0 y1 fun c i x h a b=>
 B 240 a h fun d h=>
 A 0 d h fun e h=>
 L e h fun f h=>
 A 1 b h fun g h=>
 L g h fun j h=>
 tR (b_seq f j h) fun k h=>
 .ret (T59 k) h
def x441 : AC := (.shal k441_0 .skip)
def f441 : AF := .mk x441 [.t .h0 .h3]
def k447_3 : KF := K5 y1 y2 y15 y16 y17 fun c i x h a b d e f=>
 D f i1 h fun g h=>
 .nm (T278 a b d e g) h
def k447_2 : KF := K5 y1 y2 y15 y16 y17 fun c i x h a b d e f=>
 Y f e h fun g h=>
 I g (X 4 d f h fun j h=>
 M 4 j h fun k h=>
 O 481 4 (.k1 (Y4 i0 iS i0 .nils)) h fun l h=>
 S 4 l k h fun m h=>
 X 4 a f h fun n h=>
 M 4 n h fun o h=>
 O 481 4 (.k1 (Y4 i0 iS i0 .nils)) h fun p h=>
 S 4 p o h fun q h=>
 M 4 l h fun s h=>
 M 4 p h fun t h=>
 tT (cd c b [s,t] h) fun v h=>
 tR (u_not v h) fun w h=>
 I w (.ret (T11 (.bool false)) h) (x (T278 a b d e f) h)) (.ex 0 T36 h)
def k447_1 : KF := K3 y0 y1 y2 fun c i x h a b d=>
 G a h fun e h=>
 x (T278 b d a e i0) h
def k447_4 : KF := fun c i x r h=>
 .ret (T11 (.bool true)) h
def k447_0 : KF := K3 y0 y1 y2 fun c i x h a b d=>
 G a h fun e h=>
 G b h fun f h=>
 tR (b_ne e f h) fun g h=>
 I g (.ret (T11 (.bool false)) h) (x (T31 a b d) h)
def x447 : AC := (.shal k447_0 (.seq (.shal k447_1 (.block 0 (.loop (.shal k447_2 (.shal k447_3 .skip))))) (.shal k447_4 .skip)))
def f447 : AF := .mk x447 [.t .h0 .h6]
def k449_2 : KF := K4 y0 y1 y12 y13 fun c i x h a b d e=>
 Y e d h fun f h=>
 I f (tQ (iX 1 a e h) fun g=>
 tQ (lD g h) fun j=>
 tQ (iX 1 b e h) fun k=>
 tQ (lD k h) fun l=>
 tQ (b_sne j l h) fun m=>
 I m (.ret (T12 (.bool false)) h) (D e i1 h fun n h=>
 .nm (T106 a b d n) h)) (.ex 0 (T106 a b d e) h)
def k449_1 : KF := K2 y0 y1 fun c i x h a b=>
 G a h fun d h=>
 x (T106 a b d i0) h
def k449_3 : KF := fun c i x r h=>
 .ret (T12 (.bool true)) h
def k449_0 : KF := K2 y0 y1 fun c i x h a b=>
 G a h fun d h=>
 G b h fun e h=>
 tR (b_ne d e h) fun f h=>
 I f (.ret (T12 (.bool false)) h) (x (T25 a b) h)
def x449 : AC := (.shal k449_0 (.seq (.shal k449_1 (.block 0 (.loop (.shal k449_2 .skip)))) (.shal k449_3 .skip)))
def f449 : AF := .mk x449 [.t .h0 .h4]
def k450_2 : KF := K4 y0 y1 y12 y13 fun c i x h a b d e=>
 Y e d h fun f h=>
 I f (tQ (iX 3 a e h) fun g=>
 tQ (ldn 3 g h) fun j=>
 tQ (iX 3 b e h) fun k=>
 tQ (ldn 3 k h) fun l=>
 tQ (bK (.ane [.s,.s,.s]) j l h) fun m=>
 I m (.ret (T12 (.bool false)) h) (D e i1 h fun n h=>
 .nm (T106 a b d n) h)) (.ex 0 (T106 a b d e) h)
def k450_1 : KF := K2 y0 y1 fun c i x h a b=>
 G a h fun d h=>
 x (T106 a b d i0) h
def k450_3 : KF := fun c i x r h=>
 .ret (T12 (.bool true)) h
def k450_0 : KF := K2 y0 y1 fun c i x h a b=>
 G a h fun d h=>
 G b h fun e h=>
 tR (b_ne d e h) fun f h=>
 I f (.ret (T12 (.bool false)) h) (x (T25 a b) h)
def x450 : AC := (.shal k450_0 (.seq (.shal k450_1 (.block 0 (.loop (.shal k450_2 .skip)))) (.shal k450_3 .skip)))
def f450 : AF := .mk x450 [.t .h0 .h4]
def k451_3 : KF := K5 y1 y2 y15 y16 y17 fun c i x h a b d e f=>
 D f i1 h fun g h=>
 .nm (T278 a b d e g) h
def k451_2 : KF := K5 y1 y2 y15 y16 y17 fun c i x h a b d e f=>
 Y f e h fun g h=>
 I g (X 8 d f h fun j h=>
 M 8 j h fun k h=>
 O 245 8 (.k1 (Y8 i0 iS .nils .nils .nils .nils .nils .nils)) h fun l h=>
 S 8 l k h fun m h=>
 X 8 a f h fun n h=>
 M 8 n h fun o h=>
 O 245 8 (.k1 (Y8 i0 iS .nils .nils .nils .nils .nils .nils)) h fun p h=>
 S 8 p o h fun q h=>
 M 8 l h fun s h=>
 M 8 p h fun t h=>
 tT (cd c b [s,t] h) fun v h=>
 tR (u_not v h) fun w h=>
 I w (.ret (T11 (.bool false)) h) (x (T278 a b d e f) h)) (.ex 0 T36 h)
def k451_1 : KF := K3 y0 y1 y2 fun c i x h a b d=>
 G a h fun e h=>
 x (T278 b d a e i0) h
def k451_4 : KF := fun c i x r h=>
 .ret (T11 (.bool true)) h
def k451_0 : KF := K3 y0 y1 y2 fun c i x h a b d=>
 G a h fun e h=>
 G b h fun f h=>
 tR (b_ne e f h) fun g h=>
 I g (.ret (T11 (.bool false)) h) (x (T31 a b d) h)
def x451 : AC := (.shal k451_0 (.seq (.shal k451_1 (.block 0 (.loop (.shal k451_2 (.shal k451_3 .skip))))) (.shal k451_4 .skip)))
def f451 : AF := .mk x451 [.t .h0 .h6]
def k452_3 : KF := K7 y0 y1 y2 y3 y8 y9 y34 fun c i x h a b d e f g j=>
 I j (.nm (T271 a b d e f g) h) (.ex 2 (T271 a b d e f g) h)
def k452_4 : KF := K6 y0 y1 y2 y3 y8 y9 fun c i x h a b d e f g=>
 Z g i1 h fun j h=>
 .nm (T271 a b d e f j) h
def k452_2 : KF := K5 y0 y1 y2 y3 y8 fun c i x h a b d e f=>
 x (T271 a b d e f f) h
def k452_5 : KF := K5 y0 y1 y2 y3 y8 fun c i x h a b d e f=>
 D f i1 h fun g h=>
 .nm (T277 a b d e g) h
def k452_1 : KF := K5 y0 y1 y2 y3 y8 fun c i x h a b d e f=>
 Y f d h fun g h=>
 I g (x (T277 a b d e f) h) (.ex 0 T36 h)
def k452_0 : KF := K4 y0 y1 y2 y3 fun c i x h a b d e=>
 D b i1 h fun f h=>
 x (T277 a b d e f) h
def x452 : AC := (.shal k452_0 (.block 0 (.loop (.shal k452_1 (.seq (.block 1 (.shal k452_2 (.block 2 (.loop (.seq (.seq (.drw [q 0 (m d18 r9),
 q 0 (m d19 r1),
 q 0 (o d20 (.bin .gt r18 r19)),
 q 0 (m d21 r20),
 q 0 (.g .h1 .h5 true d22 (.op (.mv r3))),
 q 0 (.g .h1 .h5 true d23 (.op (.mv r0))),
 q 0 (.g .h1 .h5 true d24 (.op (.mv r9))),
 q 0 (.g .h1 .h5 true d25 (.op (.ixs 11 r23 r24))),
 q 0 (.g .h1 .h5 true d26 (.op (.ldn 11 r25))),
 q 0 (.g .h1 .h5 true d27 (.op (.mv r0))),
 q 0 (.g .h1 .h5 true d28 (.op (.mv r9))),
 q 0 (.g .h1 .h5 true d29 (.op (.bin .sub r28 a1))),
 q 0 (.g .h1 .h5 true d30 (.op (.ixs 11 r27 r29))),
 q 0 (.g .h1 .h5 true d31 (.op (.ldn 11 r30))),
 w (.g .h1 .h5 true d32 (.calld r22 [r26,r31])),
 q 0 (.g .h1 .h5 true d33 (.op (.bin .lt r32 a0))),
 q 0 (o d34 (.pick r21 r33 (.c (.bool false))))]) (.shal k452_3 .skip)) (.seq (.block 3 (.drw [q 0 (m d37 r0),
 q 0 (m d38 r9),
 q 0 (m d42 r0),
 q 0 (m d43 r9),
 q 0 (o d44 (.bin .sub r43 a1)),
 q 0 (o d45 (.ixs 11 r42 r44)),
 q 0 (o d46 (.ldn 11 r45)),
 q 0 (m d47 r0),
 q 0 (m d48 r9),
 q 0 (o d49 (.ixs 11 r47 r48)),
 q 0 (o d50 (.ldn 11 r49)),
 q 0 (o d51 (.ixs 11 r37 r38)),
 w (o .no (.stn 11 r51 r46)),
 q 1 (m d39 r0),
 q 1 (m d40 r9),
 q 1 (o d41 (.bin .sub r40 a1)),
 q 0 (o d52 (.ixs 11 r39 r41)),
 w (o .no (.stn 11 r52 r50))])) (.shal k452_4 .skip))))))) (.shal k452_5 .skip))))))
def f452 : AF := .mk x452 []
def k462_0 : KF := K1 y0 fun c i x h a=>
 tR (b_ge a (.int .u8 (.ofNat 97)) h) fun b h=>
 gD b true (fun d=>d a h) h fun d h=>
 gD b true (fun e=>tR (b_le d (.int .u8 (.ofNat 122)) h) fun f h=>
 e f h) h fun e h=>
 tR (o_pick (.c b) (.c e) (.c (.bool false)) .nil h) fun f h=>
 .ret (T24 f) h
def x462 : AC := (.shal k462_0 .skip)
def f462 : AF := .mk x462 [.t .h0 .h2]
def k464_1 : KF := K4 y0 y2 y7 y19 fun c i x h a b d e=>
 I e (.nm (T279 a b d) h) (.ex 0 (T279 a b d) h)
def k464_2 : KF := K3 y0 y2 y7 fun c i x h a b d=>
 D d i1 h fun e h=>
 .nm (T279 a b e) h
def k464_3 : KF := K1 y7 fun c i x h a=>
 .ret (T11 a) h
def k464_0 : KF := K3 y0 y1 y2 fun c i x h a b d=>
 x (T279 a d b) h
def x464 : AC := (.shal k464_0 (.seq (.block 0 (.loop (.seq (.seq (.ops [m d9 r7,
 m d10 r0,
 o d11 (.lent r10),
 o d12 (.bin .lt r9 r11),
 m d13 r12,
 .g .h0 .hd true d14 (.op (.mv r2)),
 .g .h0 .hd true d15 (.op (.mv r0)),
 .g .h0 .hd true d16 (.op (.mv r7)),
 .g .h0 .hd true d17 (.op (.idxs r15 r16)),
 .g .h0 .hd true d18 (.calld r14 [r17]),
 o d19 (.pick r13 r18 (.c (.bool false)))]) (.shal k464_1 .skip)) (.shal k464_2 .skip)))) (.shal k464_3 .skip)))
def f464 : AF := .mk x464 [.t .h0 .h6]
def k467_1 : KF := K2 y1 y19 fun c i x h a b=>
 I b (.ret (T24 iS) h) (.nm (T34 a) h)
def k467_2 : KF := K1 y1 fun c i x h a=>
 A 3 a h fun b h=>
 L b h fun d h=>
 X 5 d i0 h fun e h=>
 A 1 e h fun f h=>
 L f h fun g h=>
 .ret (T24 g) h
def k467_0 : KF := K1 y0 fun c i x h a=>
 B 418 a h fun b h=>
 x (T34 b) h
def x467 : AC := (.shal k467_0 (.seq (.seq (.ops [of d3 0 r1,
 ol d4 r3,
 o d5 (.bin .ne r4 a1),
 m d6 r5,
 .g .h0 .h6 false d7 (.op (.fad 3 r1)),
 .g .h0 .h6 false d8 (.op (.ld1 r7)),
 .g .h0 .h6 false d9 (.op (.len r8)),
 .g .h0 .h6 false d10 (.op (.bin .eq r9 a0)),
 o d11 (.pick r6 (.c (.bool true)) r10),
 m d12 r11,
 .g .h0 .hc false d13 (.op (.fad 3 r1)),
 .g .h0 .hc false d14 (.op (.ld1 r13)),
 .g .h0 .hc false d15 (.op (.ixs 5 r14 a0)),
 .g .h0 .hc false d16 (.op (.fad 0 r15)),
 .g .h0 .hc false d17 (.op (.ld1 r16)),
 .g .h0 .hc false d18 (.op (.bin .ne r17 a2)),
 o d19 (.pick r12 (.c (.bool true)) r18)]) (.shal k467_1 .skip)) (.shal k467_2 .skip)))
def f467 : AF := .mk x467 [.t .h0 .h2]
def k473_1 : KF := K2 y0 y1 fun c i x h a b=>
 Y b i0 h fun d h=>
 x (T280 a b d) h
def k473_2 : KF := K2 y0 y1 fun c i x h a b=>
 tQ (nC a h) fun d=>
 tQ (fA 1 d h) fun e=>
 tQ (lD e h) fun f=>
 tQ (o_cap (.c f) .nil h) fun g=>
 tQ (nC a h) fun j=>
 tQ (fA 1 j h) fun k=>
 tQ (lD k h) fun l=>
 tQ (len l h) fun m=>
 tQ (b_sub g m h) fun n=>
 tQ (b_lt n b h) fun o=>
 I o (C c 533 [a,b] h fun p h=>
 .nm T36 h) (.nm T36 h)
def k473_0 : KF := K2 y0 y1 fun c i x h a b=>
 C c 532 [a] h fun d h=>
 x (T25 a b) h
def x473 : AC := (.shal k473_0 (.seq (.shal k473_1 (.cond r7 (.ops [o d8 (.mki 9 (.c (.str [115,116,114,105,110,103,115,46,66,117,105,108,100,101,114,46,71,114,111,119,58,32,110,101,103,97,116,105,118,101,32,99,111,117,110,116]))),
 o .no (.bad 400)]) .skip)) (.shal k473_2 .skip)))
def f473 : AF := .mk x473 []
def k474_0 : KF := K2 y0 y1 fun c i x h a b=>
 C c 532 [a] h fun d h=>
 J a h fun e h=>
 A 1 e h fun f h=>
 L f h fun g h=>
 tR (o_apps 5 (.c g) (.c b) .nil h) fun j h=>
 J a h fun k h=>
 A 1 k h fun l h=>
 W l j h fun m h=>
 tR (lent b h) fun n h=>
 .ret (T28 n .nili) h
def x474 : AC := (.shal k474_0 .skip)
def f474 : AF := .mk x474 [.t .h0 .h4,.t .h0 .h5]
def k475_0 : KF := K1 y0 fun c i x h a=>
 tQ (nC a h) fun b=>
 tQ (fA 1 b h) fun d=>
 tQ (lD d h) fun e=>
 tQ (o_ussd (.c e) .nil h) fun f=>
 tQ (nC a h) fun g=>
 tQ (fA 1 g h) fun j=>
 tQ (lD j h) fun k=>
 tQ (len k h) fun l=>
 tX (RV.toT (o_ustr 5 (.c f) (.c l) .nil h)) fun m h=>
 .ret (T24 m) h
def x475 : AC := (.shal k475_0 .skip)
def f475 : AF := .mk x475 [.t .h0 .h2]
def k481_4 : KF := K9 y0 y1 y2 y3 y8 y9 y10 y11 y68 fun c i x h a b d e f g j k l=>
 I l (C c 544 [a,b,d] h fun m h=>
 I m (.ret T36 h) (.nm (T274 a b d e f g j k) h)) (.nm (T274 a b d e f g j k) h)
def k481_5 : KF := K9 y0 y1 y2 y3 y8 y9 y10 y11 y87 fun c i x h a b d e f g j k l=>
 I l (C c 546 [a,b,d,k] h fun m h=>
 .ex 1 (T274 a m d e f g j k) h) (.nm (T274 a b d e f g j k) h)
def k481_8 : KF := K10 y0 y1 y2 y3 y9 y14 y16 y17 y18 y113 fun c i x h a b d e f g j k l m=>
 I m (tR (b_ge j l h) fun n h=>
 C c 481 [a,b,g,e] h fun o h=>
 D g i1 h fun p h=>
 .nm (T271 a p d e n f) h) (tR (b_ge k l h) fun n h=>
 D g i1 h fun o h=>
 C c 481 [a,o,d,e] h fun p h=>
 .nm (T271 a b g e n f) h)
def k481_7 : KF := K9 y0 y1 y2 y3 y9 y14 y16 y17 y18 fun c i x h a b d e f g j k l=>
 Y j k h fun m h=>
 x (T276 a b d e f g j k l m) h
def k481_6 : KF := K6 y0 y1 y2 y3 y10 y11 fun c i x h a b d e f g=>
 C c 547 [a,b,d,g] h fun j h=>
 E 0 j h fun k h=>
 E 1 j h fun l h=>
 Z k b h fun m h=>
 Z d k h fun n h=>
 tR (b_quo f (pi 8) h) fun o h=>
 x (T275 a b d e l k m n o) h
def k481_3 : KF := K7 y0 y1 y2 y3 y8 y9 y10 fun c i x h a b d e f g j=>
 C c 542 [a,b,d] h fun k h=>
 E 0 k h fun l h=>
 E 1 k h fun m h=>
 Q m (pi 2) h fun n h=>
 I n (C c 543 [a,b,d] h fun o h=>
 Z d i1 h fun p h=>
 Z l b h fun q h=>
 Z p q h fun s h=>
 x (T273 a b d e f g j s i1) h) (x (T273 a b d e f g j l m) h)
def k481_2 : KF := K7 y0 y1 y2 y3 y8 y9 y10 fun c i x h a b d e f g j=>
 tR (u_not f h) fun k h=>
 I k (C c 541 [a,b,d] h fun l h=>
 Z e i1 h fun m h=>
 x (T272 a b d m f g j) h) (x (T272 a b d e f g j) h)
def k481_1 : KF := K6 y0 y1 y2 y3 y8 y9 fun c i x h a b d e f g=>
 Z d b h fun j h=>
 tR (b_le j (pi 12) h) fun k h=>
 I k (C c 539 [a,b,d] h fun l h=>
 .ret T36 h) (Q e i0 h fun l h=>
 I l (C c 540 [a,b,d] h fun m h=>
 .ret T36 h) (x (T272 a b d e f g j) h))
def k481_0 : KF := K4 y0 y1 y2 y3 fun c i x h a b d e=>
 x (T271 a b d e (.bool true) (.bool true)) h
def x481 : AC := (.shal k481_0 (.block 0 (.loop (.block 1 (.shal k481_1 (.shal k481_2 (.shal k481_3 (.seq (.seq (.ops [m d61 r8,
 m d62 r61,
 .g .h3 .he true d63 (.op (.mv r9)),
 o d64 (.pick r62 r63 (.c (.bool false))),
 m d65 r64,
 .g .h4 .h1 true d66 (.op (.mv r12)),
 .g .h4 .h1 true d67 (.op (.bin .eq r66 a1)),
 o d68 (.pick r65 r67 (.c (.bool false)))]) (.shal k481_4 .skip)) (.seq (.seq (.drw [q 0 (m d73 r1),
 q 0 (o d74 (.bin .gt r73 a0)),
 q 0 (m d75 r74),
 q 0 (.g .h4 .hb true d76 (.op (.mv r0))),
 q 0 (.g .h4 .hb true d77 (.op (.mv r1))),
 q 0 (.g .h4 .hb true d78 (.op (.bin .sub r77 a1))),
 q 0 (.g .h4 .hb true d79 (.op (.ixs 1 r76 r78))),
 q 0 (.g .h4 .hb true d80 (.op (.ld1 r79))),
 q 0 (.g .h4 .hb true d81 (.op (.mv r0))),
 q 0 (.g .h4 .hb true d82 (.op (.mv r11))),
 q 0 (.g .h4 .hb true d83 (.op (.ixs 1 r81 r82))),
 q 0 (.g .h4 .hb true d84 (.op (.ld1 r83))),
 w (.g .h4 .hb true d85 (.call 545 [r80,r84])),
 q 0 (.g .h4 .hb true d86 (.op (.un .not r85))),
 q 0 (o d87 (.pick r75 r86 (.c (.bool false))))]) (.shal k481_5 .skip)) (.shal k481_6 (.shal k481_7 (.shal k481_8 .skip))))))))))))
def f481 : AF := .mk x481 []
def k482_4 : KF := K5 y0 y11 y12 y13 y26 fun c i x h a b d e f=>
 I f (.ret (T8 .nils i1) h) (.nm (T281 a b d e) h)
def k482_3 : KF := K4 y0 y11 y12 y13 fun c i x h a b d e=>
 X 2 b e h fun f h=>
 M 2 f h fun g h=>
 O 205 2 (.k1 (Y2 .nils (.cplx .f64 0 0))) h fun j h=>
 S 2 j g h fun k h=>
 x (T282 a j b d e) h
def k482_5 : KF := K4 y0 y11 y12 y13 fun c i x h a b d e=>
 D e i1 h fun f h=>
 .nm (T281 a b d f) h
def k482_2 : KF := K4 y0 y11 y12 y13 fun c i x h a b d e=>
 Y e d h fun f h=>
 I f (x (T281 a b d e) h) (.ex 0 (T1 a) h)
def k482_1 : KF := K1 y0 fun c i x h a=>
 G a h fun b h=>
 x (T281 a a b i0) h
def k482_10 : KF := K6 y0 y6 y7 y8 y9 y53 fun c i x h a b d e f g=>
 I g (.nm (T283 a b d e f) h) (.ex 4 (T283 a b d e f) h)
def k482_12 : KF := K5 y0 y6 y7 y8 y9 fun c i x h a b d e f=>
 D d i1 h fun g h=>
 .nm (T283 a b g e f) h
def k482_11 : KF := K5 y0 y6 y7 y8 y9 fun c i x h a b d e f=>
 X 2 a d h fun g h=>
 A 1 g h fun j h=>
 L j h fun k h=>
 C c 552 [f,k] h fun l h=>
 E 0 l h fun m h=>
 E 1 l h fun n h=>
 tR (u_not n h) fun o h=>
 I o (.ret (T8 .nils (pi 27)) h) (x (T283 a b d e m) h)
def k482_13 : KF := K5 y0 y6 y7 y8 y9 fun c i x h a b d e f=>
 tR (bK (.cop .neq) f (.cplx .f64 0 0) h) fun g h=>
 I g (C c 110 [e,f] h fun j h=>
 tR (bs 205 2 1 [.nils,(.cplx .f64 0 0)] [.mk 0 2 (.c j)] h) fun k h=>
 tR (appV 205 2 b k h) fun l h=>
 .nm (T182 a l d) h) (.nm (T182 a b d) h)
def k482_9 : KF := K3 y0 y6 y7 fun c i x h a b d=>
 X 2 a d h fun e h=>
 A 0 e h fun f h=>
 L f h fun g h=>
 x (T283 a b d g (.cplx .f64 0 0)) h
def k482_8 : KF := K3 y0 y6 y7 fun c i x h a b d=>
 G a h fun e h=>
 Y d e h fun f h=>
 I f (x (T182 a b d) h) (.ex 2 (T11 b) h)
def k482_7 : KF := K2 y0 y6 fun c i x h a b=>
 x (T182 a b i0) h
def k482_14 : KF := K1 y6 fun c i x h a=>
 .ret (T8 a i0) h
def k482_6 : KF := K1 y0 fun c i x h a=>
 C c 548 [a] h fun b h=>
 C c 549 [b,(.fn 550 [])] h fun d h=>
 x (T9 b .nils) h
def k482_0 : KF := K1 y0 fun c i x h a=>
 x (T1 a) h
def x482 : AC := (.shal k482_0 (.seq (.shal k482_1 (.block 0 (.loop (.shal k482_2 (.seq (.block 1 (.shal k482_3 (.seq (.ops [of d17 0 r5,
 ol d18 r17,
 oc d19 280 [r18],
 o d20 (.un .not r19),
 m d21 r20,
 .g .h1 .h5 false d22 (.op (.fad 1 r5)),
 .g .h1 .h5 false d23 (.op (.ld1 r22)),
 .g .h1 .h5 false d24 (.call 281 [r23]),
 .g .h1 .h5 false d25 (.op (.un .not r24)),
 o d26 (.pick r21 (.c (.bool true)) r25)]) (.shal k482_4 .skip)))) (.shal k482_5 .skip)))))) (.shal k482_6 (.seq (.shal k482_7 (.block 2 (.loop (.shal k482_8 (.block 3 (.shal k482_9 (.seq (.block 4 (.loop (.seq (.seq (.ops [m d41 r7,
 m d42 r0,
 o d43 (.len r42),
 o d44 (.bin .lt r41 r43),
 m d45 r44,
 .g .h2 .hd true d46 (.op (.mv r0)),
 .g .h2 .hd true d47 (.op (.mv r7)),
 .g .h2 .hd true d48 (.op (.ixs 2 r46 r47)),
 .g .h2 .hd true d49 (.op (.fad 0 r48)),
 .g .h2 .hd true d50 (.op (.ld1 r49)),
 .g .h2 .hd true d51 (.op (.mv r8)),
 .g .h2 .hd true d52 (.call 551 [r50,r51]),
 o d53 (.pick r45 r52 (.c (.bool false)))]) (.shal k482_10 .skip)) (.shal k482_11 (.shal k482_12 .skip))))) (.shal k482_13 .skip)))))))) (.shal k482_14 .skip)))))
def f482 : AF := .mk x482 [.t .h0 .h2,.t .h0 .h3]
def k483_3 : KF := K5 y0 y3 y9 y10 y11 fun c i x h a b d e f=>
 X 1 d f h fun g h=>
 L g h fun j h=>
 G j h fun k h=>
 D b k h fun l h=>
 Y l i0 h fun m h=>
 x (T285 a l d e f m) h
def k483_4 : KF := K5 y0 y3 y9 y10 y11 fun c i x h a b d e f=>
 D f i1 h fun g h=>
 .nm (T284 a b d e g) h
def k483_2 : KF := K5 y0 y3 y9 y10 y11 fun c i x h a b d e f=>
 Y f e h fun g h=>
 I g (x (T284 a b d e f) h) (.ex 0 (T13 a b) h)
def k483_1 : KF := K2 y0 y3 fun c i x h a b=>
 G a h fun d h=>
 x (T284 a b a d i0) h
def k483_7 : KF := K4 y6 y25 y26 y27 fun c i x h a b d e=>
 Y e d h fun f h=>
 I f (X 1 b e h fun g h=>
 L g h fun j h=>
 tR (appV 205 2 a j h) fun k h=>
 D e i1 h fun l h=>
 .nm (T286 k b d l) h) (.ex 2 (T286 a b d e) h)
def k483_6 : KF := K2 y0 y6 fun c i x h a b=>
 G a h fun d h=>
 x (T286 b a d i0) h
def k483_8 : KF := K1 y6 fun c i x h a=>
 .ret (T24 a) h
def k483_5 : KF := K2 y0 y3 fun c i x h a b=>
 C c 553 [.nils,b] h fun d h=>
 x (T9 a d) h
def k483_0 : KF := K1 y0 fun c i x h a=>
 x (T13 a i0) h
def x483 : AC := (.shal k483_0 (.seq (.shal k483_1 (.block 0 (.loop (.shal k483_2 (.seq (.block 1 (.shal k483_3 (.cond r20 (.ops [o d21 (.mki 9 (.c (.str [108,101,110,32,111,117,116,32,111,102,32,114,97,110,103,101]))),
 o .no (.bad 400)]) .skip))) (.shal k483_4 .skip)))))) (.shal k483_5 (.seq (.shal k483_6 (.block 2 (.loop (.shal k483_7 .skip)))) (.shal k483_8 .skip)))))
def f483 : AF := .mk x483 [.t .h0 .h2]
def k500_3 : KF := K6 y0 y1 y2 y6 y7 y30 fun c i x h a b d e f g=>
 I g (.nm (T147 a b d e f) h) (.ex 2 (T147 a b d e f) h)
def k500_4 : KF := K5 y0 y1 y2 y6 y7 fun c i x h a b d e f=>
 Z f i1 h fun g h=>
 .nm (T147 a b d e g) h
def k500_2 : KF := K4 y0 y1 y2 y6 fun c i x h a b d e=>
 x (T147 a b d e e) h
def k500_5 : KF := K4 y0 y1 y2 y6 fun c i x h a b d e=>
 D e i1 h fun f h=>
 .nm (T92 a b d f) h
def k500_1 : KF := K4 y0 y1 y2 y6 fun c i x h a b d e=>
 Y e d h fun f h=>
 I f (x (T92 a b d e) h) (.ex 0 T36 h)
def k500_0 : KF := K3 y0 y1 y2 fun c i x h a b d=>
 D b i1 h fun e h=>
 x (T92 a b d e) h
def x500 : AC := (.shal k500_0 (.block 0 (.loop (.shal k500_1 (.seq (.block 1 (.shal k500_2 (.block 2 (.loop (.seq (.seq (.drw [q 0 (m d16 r7),
 q 0 (m d17 r1),
 q 0 (o d18 (.bin .gt r16 r17)),
 q 0 (m d19 r18),
 q 0 (.g .h1 .h3 true d20 (.op (.mv r0))),
 q 0 (.g .h1 .h3 true d21 (.op (.mv r7))),
 q 0 (.g .h1 .h3 true d22 (.op (.ixs 1 r20 r21))),
 q 0 (.g .h1 .h3 true d23 (.op (.ld1 r22))),
 q 0 (.g .h1 .h3 true d24 (.op (.mv r0))),
 q 0 (.g .h1 .h3 true d25 (.op (.mv r7))),
 q 0 (.g .h1 .h3 true d26 (.op (.bin .sub r25 a1))),
 q 0 (.g .h1 .h3 true d27 (.op (.ixs 1 r24 r26))),
 q 0 (.g .h1 .h3 true d28 (.op (.ld1 r27))),
 w (.g .h1 .h3 true d29 (.call 506 [r23,r28])),
 q 0 (o d30 (.pick r19 r29 (.c (.bool false))))]) (.shal k500_3 .skip)) (.seq (.block 3 (.drw [q 0 (m d33 r0),
 q 0 (m d34 r7),
 q 0 (m d38 r0),
 q 0 (m d39 r7),
 q 0 (o d40 (.bin .sub r39 a1)),
 q 0 (o d41 (.ixs 1 r38 r40)),
 ql 0 d42 r41,
 q 0 (m d43 r0),
 q 0 (m d44 r7),
 q 0 (o d45 (.ixs 1 r43 r44)),
 ql 0 d46 r45,
 q 0 (o d47 (.ixs 1 r33 r34)),
 w (os r47 r42),
 q 1 (m d35 r0),
 q 1 (m d36 r7),
 q 1 (o d37 (.bin .sub r36 a1)),
 q 0 (o d48 (.ixs 1 r35 r37)),
 w (os r48 r46)])) (.shal k500_4 .skip))))))) (.shal k500_5 .skip))))))
def f500 : AF := .mk x500 []
def k532_1 : KF := K1 y0 fun c i x h a=>
 tR (cK .uto a h) fun b h=>
 C c 583 [b] h fun d h=>
 tR (cK (.ufrom 576 2) d h) fun e h=>
 J a h fun f h=>
 A 0 f h fun g h=>
 W g e h fun j h=>
 .nm T36 h
def k532_2 : KF := K1 y0 fun c i x h a=>
 J a h fun b h=>
 A 0 b h fun d h=>
 L d h fun e h=>
 tR (bK .pne e a h) fun f h=>
 x (T287 f) h
def k532_0 : KF := K1 y0 fun c i x h a=>
 J a h fun b h=>
 A 0 b h fun d h=>
 L d h fun e h=>
 tR (bK .peq e .nilp h) fun f h=>
 x (T9 a f) h
def x532 : AC := (.shal k532_0 (.cond r6 (.shal k532_1 .skip) (.shal k532_2 (.cond r19 (.bad 403) .skip))))
def f532 : AF := .mk x532 []
def k533_0 : KF := K2 y0 y4 fun c i x h a b=>
 J a h fun d h=>
 A 1 d h fun e h=>
 L e h fun f h=>
 tR (cpyV 1 b f h) fun g h=>
 J a h fun j h=>
 A 1 j h fun k h=>
 W k b h fun l h=>
 .nm T36 h
def x533 : AC := (.seq (.drw [q 0 (m d5 r0),
 qj 0 d6 r5,
 qf 0 d7 1 r6,
 ql 0 d8 r7,
 q 0 (o d9 (.cap r8)),
 q 0 (o d10 (.bin .mul a2 r9)),
 q 0 (m d11 r1),
 q 0 (o d12 (.bin .add r10 r11)),
 w (oc d13 584 [r12]),
 q 1 (m d14 r0),
 qj 1 d15 r14,
 qf 1 d16 1 r15,
 ql 1 d17 r16,
 q 1 (o d18 (.len r17)),
 q 0 (o d19 (.slc 1 r13 .none (.some r18) .none)),
 q 0 (m d4 r19)]) (.shal k533_0 .skip))
def f533 : AF := .mk x533 []
def k539_3 : KF := K6 y0 y1 y2 y6 y7 y30 fun c i x h a b d e f g=>
 I g (.nm (T147 a b d e f) h) (.ex 2 (T147 a b d e f) h)
def k539_4 : KF := K5 y0 y1 y2 y6 y7 fun c i x h a b d e f=>
 Z f i1 h fun g h=>
 .nm (T147 a b d e g) h
def k539_2 : KF := K4 y0 y1 y2 y6 fun c i x h a b d e=>
 x (T147 a b d e e) h
def k539_5 : KF := K4 y0 y1 y2 y6 fun c i x h a b d e=>
 D e i1 h fun f h=>
 .nm (T92 a b d f) h
def k539_1 : KF := K4 y0 y1 y2 y6 fun c i x h a b d e=>
 Y e d h fun f h=>
 I f (x (T92 a b d e) h) (.ex 0 T36 h)
def k539_0 : KF := K3 y0 y1 y2 fun c i x h a b d=>
 D b i1 h fun e h=>
 x (T92 a b d e) h
def x539 : AC := (.shal k539_0 (.block 0 (.loop (.shal k539_1 (.seq (.block 1 (.shal k539_2 (.block 2 (.loop (.seq (.seq (.drw [q 0 (m d16 r7),
 q 0 (m d17 r1),
 q 0 (o d18 (.bin .gt r16 r17)),
 q 0 (m d19 r18),
 q 0 (.g .h1 .h3 true d20 (.op (.mv r0))),
 q 0 (.g .h1 .h3 true d21 (.op (.mv r7))),
 q 0 (.g .h1 .h3 true d22 (.op (.ixs 1 r20 r21))),
 q 0 (.g .h1 .h3 true d23 (.op (.ld1 r22))),
 q 0 (.g .h1 .h3 true d24 (.op (.mv r0))),
 q 0 (.g .h1 .h3 true d25 (.op (.mv r7))),
 q 0 (.g .h1 .h3 true d26 (.op (.bin .sub r25 a1))),
 q 0 (.g .h1 .h3 true d27 (.op (.ixs 1 r24 r26))),
 q 0 (.g .h1 .h3 true d28 (.op (.ld1 r27))),
 w (.g .h1 .h3 true d29 (.call 545 [r23,r28])),
 q 0 (o d30 (.pick r19 r29 (.c (.bool false))))]) (.shal k539_3 .skip)) (.seq (.block 3 (.drw [q 0 (m d33 r0),
 q 0 (m d34 r7),
 q 0 (m d38 r0),
 q 0 (m d39 r7),
 q 0 (o d40 (.bin .sub r39 a1)),
 q 0 (o d41 (.ixs 1 r38 r40)),
 ql 0 d42 r41,
 q 0 (m d43 r0),
 q 0 (m d44 r7),
 q 0 (o d45 (.ixs 1 r43 r44)),
 ql 0 d46 r45,
 q 0 (o d47 (.ixs 1 r33 r34)),
 w (os r47 r42),
 q 1 (m d35 r0),
 q 1 (m d36 r7),
 q 1 (o d37 (.bin .sub r36 a1)),
 q 0 (o d48 (.ixs 1 r35 r37)),
 w (os r48 r46)])) (.shal k539_4 .skip))))))) (.shal k539_5 .skip))))))
def f539 : AF := .mk x539 []
def k548_0 : KF := K1 y0 fun c i x h a=>
 tR (bK (.isnil .s) a .nils h) fun b h=>
 I b (.ret (T24 .nils) h) (tR (bs 205 2 0 [] [] h) fun d h=>
 tR (appV 205 2 d a h) fun e h=>
 .ret (T24 e) h)
def x548 : AC := (.shal k548_0 .skip)
def f548 : AF := .mk x548 [.t .h0 .h2]
def k549_0 : KF := K2 y0 y1 fun c i x h a b=>
 G a h fun d h=>
 C c 589 [a,d,b] h fun e h=>
 .nm T36 h
def x549 : AC := (.shal k549_0 .skip)
def f549 : AF := .mk x549 []
def k553_1 : KF := K2 y0 y1 fun c i x h a b=>
 Y b i0 h fun d h=>
 x (T26 a b d) h
def k553_3 : KF := K1 y0 fun c i x h a=>
 .ret (T12 a) h
def k553_2 : KF := K2 y0 y1 fun c i x h a b=>
 tR (o_cap (.c a) .nil h) fun d h=>
 G a h fun e h=>
 Z d e h fun f h=>
 Z b f h fun g h=>
 tR (b_gt g i0 h) fun j h=>
 I j (tR (o_cap (.c a) .nil h) fun k h=>
 tR (o_slc 2 (.c a) .none (.some (.c k)) .none .nil h) fun l h=>
 tR (o_appz 205 2 [.nils,(.cplx .f64 0 0)] (.c l) (.c g) .nil h) fun m h=>
 G a h fun n h=>
 tR (o_slc 2 (.c m) .none (.some (.c n)) .none .nil h) fun o h=>
 x (T1 o) h) (x (T1 a) h)
def k553_0 : KF := K2 y0 y1 fun c i x h a b=>
 x (T25 a b) h
def x553 : AC := (.shal k553_0 (.seq (.shal k553_1 (.cond r6 (.ops [o d7 (.mki 9 (.c (.str [99,97,110,110,111,116,32,98,101,32,110,101,103,97,116,105,118,101]))),
 o .no (.bad 400)]) .skip)) (.shal k553_2 (.shal k553_3 .skip))))
def f553 : AF := .mk x553 [.t .h0 .h4]
def k589_1 : KF := K6 y0 y1 y2 y6 y7 y8 fun c i x h a b d e f g=>
 tR (b_le g b h) fun j h=>
 I j (C c 606 [a,f,g,d] h fun k h=>
 D g e h fun l h=>
 .nm (T288 a b d e g l) h) (.ex 0 (T288 a b d e f g) h)
def k589_5 : KF := K6 y0 y1 y2 y6 y7 y8 fun c i x h a b d e f g=>
 tR (b_le g b h) fun j h=>
 I j (D f e h fun k h=>
 C c 607 [a,f,k,g,d] h fun l h=>
 tR (b_mul (pi 2) e h) fun m h=>
 D g m h fun n h=>
 .nm (T288 a b d e g n) h) (.ex 4 (T288 a b d e f g) h)
def k589_6 : KF := K5 y0 y1 y2 y6 y7 fun c i x h a b d e f=>
 D f e h fun g h=>
 Y g b h fun j h=>
 I j (C c 607 [a,f,g,b,d] h fun k h=>
 tR (b_mul e (pi 2) h) fun l h=>
 .nm (T92 a b d l) h) (tR (b_mul e (pi 2) h) fun k h=>
 .nm (T92 a b d k) h)
def k589_4 : KF := K4 y0 y1 y2 y6 fun c i x h a b d e=>
 tR (b_mul (pi 2) e h) fun f h=>
 x (T288 a b d e i0 f) h
def k589_3 : KF := K4 y0 y1 y2 y6 fun c i x h a b d e=>
 Y e b h fun f h=>
 I f (x (T92 a b d e) h) (.ex 2 T36 h)
def k589_2 : KF := K5 y0 y1 y2 y6 y7 fun c i x h a b d e f=>
 C c 606 [a,f,b,d] h fun g h=>
 x (T92 a b d e) h
def k589_0 : KF := K3 y0 y1 y2 fun c i x h a b d=>
 x (T288 a b d (pi 20) i0 (pi 20)) h
def x589 : AC := (.shal k589_0 (.seq (.block 0 (.loop (.shal k589_1 .skip))) (.shal k589_2 (.block 2 (.loop (.shal k589_3 (.block 3 (.shal k589_4 (.seq (.block 4 (.loop (.shal k589_5 .skip))) (.shal k589_6 .skip))))))))))
def f589 : AF := .mk x589 []
def k606_3 : KF := K7 y0 y1 y2 y3 y8 y9 y34 fun c i x h a b d e f g j=>
 I j (.nm (T271 a b d e f g) h) (.ex 2 (T271 a b d e f g) h)
def k606_4 : KF := K6 y0 y1 y2 y3 y8 y9 fun c i x h a b d e f g=>
 Z g i1 h fun j h=>
 .nm (T271 a b d e f j) h
def k606_2 : KF := K5 y0 y1 y2 y3 y8 fun c i x h a b d e f=>
 x (T271 a b d e f f) h
def k606_5 : KF := K5 y0 y1 y2 y3 y8 fun c i x h a b d e f=>
 D f i1 h fun g h=>
 .nm (T277 a b d e g) h
def k606_1 : KF := K5 y0 y1 y2 y3 y8 fun c i x h a b d e f=>
 Y f d h fun g h=>
 I g (x (T277 a b d e f) h) (.ex 0 T36 h)
def k606_0 : KF := K4 y0 y1 y2 y3 fun c i x h a b d e=>
 D b i1 h fun f h=>
 x (T277 a b d e f) h
def x606 : AC := (.shal k606_0 (.block 0 (.loop (.shal k606_1 (.seq (.block 1 (.shal k606_2 (.block 2 (.loop (.seq (.seq (.drw [q 0 (m d18 r9),
 q 0 (m d19 r1),
 q 0 (o d20 (.bin .gt r18 r19)),
 q 0 (m d21 r20),
 q 0 (.g .h1 .h5 true d22 (.op (.mv r3))),
 q 0 (.g .h1 .h5 true d23 (.op (.mv r0))),
 q 0 (.g .h1 .h5 true d24 (.op (.mv r9))),
 q 0 (.g .h1 .h5 true d25 (.op (.ixs 2 r23 r24))),
 q 0 (.g .h1 .h5 true d26 (.op (.ldn 2 r25))),
 q 0 (.g .h1 .h5 true d27 (.op (.mv r0))),
 q 0 (.g .h1 .h5 true d28 (.op (.mv r9))),
 q 0 (.g .h1 .h5 true d29 (.op (.bin .sub r28 a1))),
 q 0 (.g .h1 .h5 true d30 (.op (.ixs 2 r27 r29))),
 q 0 (.g .h1 .h5 true d31 (.op (.ldn 2 r30))),
 w (.g .h1 .h5 true d32 (.calld r22 [r26,r31])),
 q 0 (.g .h1 .h5 true d33 (.op (.bin .lt r32 a0))),
 q 0 (o d34 (.pick r21 r33 (.c (.bool false))))]) (.shal k606_3 .skip)) (.seq (.block 3 (.drw [q 0 (m d37 r0),
 q 0 (m d38 r9),
 q 0 (m d42 r0),
 q 0 (m d43 r9),
 q 0 (o d44 (.bin .sub r43 a1)),
 q 0 (o d45 (.ixs 2 r42 r44)),
 q 0 (o d46 (.ldn 2 r45)),
 q 0 (m d47 r0),
 q 0 (m d48 r9),
 q 0 (o d49 (.ixs 2 r47 r48)),
 q 0 (o d50 (.ldn 2 r49)),
 q 0 (o d51 (.ixs 2 r37 r38)),
 w (o .no (.stn 2 r51 r46)),
 q 1 (m d39 r0),
 q 1 (m d40 r9),
 q 1 (o d41 (.bin .sub r40 a1)),
 q 0 (o d52 (.ixs 2 r39 r41)),
 w (o .no (.stn 2 r52 r50))])) (.shal k606_4 .skip))))))) (.shal k606_5 .skip))))))
def f606 : AF := .mk x606 []
def k642_0 : KF := K5 y0 y1 y2 y3 y4 fun c i x h a b d e f=>
 I f (C c 643 [a,b,d,e] h fun g h=>
 .nm T36 h) (.nm T36 h)
def x642 : AC := (.seq (.drw [q 0 (m d19 r3),
 w (o d20 (.bslice 9 1 1 [iS] [.mk 0 1 r19])),
 q 1 (m d12 r0),
 q 1 (m d13 r1),
 qj 1 d14 r12,
 qf 1 d15 0 r14,
 q 1 (o d16 (.ixa 5 3 r15 r13)),
 qf 1 d17 2 r16,
 ql 1 d18 r17,
 w (o d21 (.app 9 1 r18 r20)),
 q 2 (m d10 r0),
 q 2 (m d11 r1),
 qj 2 d22 r10,
 qf 2 d23 0 r22,
 q 0 (o d24 (.ixa 5 3 r23 r11)),
 qf 0 d25 2 r24,
 w (os r25 r21)]) (.shal k642_0 .skip))
def f642 : AF := .mk x642 []
def k643_0 : KF := K4 y0 y1 y2 y3 fun c i x h a b d e=>
 J a h fun f h=>
 A 15 f h fun g h=>
 L g h fun j h=>
 U [i0,i0,iS,i0] [.mk 0 1 (.c i1),.mk 1 1 (.c b),.mk 2 1 (.c e),.mk 3 1 (.c d)] h fun k h=>
 tR (bs 105 4 1 [i0,i0,iS,i0] [.mk 0 4 (.c k)] h) fun l h=>
 tR (appV 105 4 j l h) fun m h=>
 J a h fun n h=>
 A 15 n h fun o h=>
 W o m h fun p h=>
 .nm T36 h
def x643 : AC := (.shal k643_0 .skip)
def f643 : AF := .mk x643 []
def k645_0 : KF := K4 y0 y1 y2 y3 fun c i x h a b d e=>
 U [i0,iS,.nils] [.mk 0 1 (.c d),.mk 1 1 (.c e),.mk 2 1 (.c .nils)] h fun f h=>
 J a h fun g h=>
 A 0 g h fun j h=>
 tR (ixa 5 3 j b h) fun k h=>
 S 3 k f h fun l h=>
 .nm T36 h
def x645 : AC := (.shal k645_0 .skip)
def f645 : AF := .mk x645 []
def k646_0 : KF := K4 y0 y1 y2 y3 fun c i x h a b d e=>
 J a h fun f h=>
 A 15 f h fun g h=>
 L g h fun j h=>
 U [i0,i0,iS,i0] [.mk 0 1 (.c (pi 2)),.mk 1 1 (.c b),.mk 2 1 (.c e),.mk 3 1 (.c d)] h fun k h=>
 tR (bs 105 4 1 [i0,i0,iS,i0] [.mk 0 4 (.c k)] h) fun l h=>
 tR (appV 105 4 j l h) fun m h=>
 J a h fun n h=>
 A 15 n h fun o h=>
 W o m h fun p h=>
 .nm T36 h
def x646 : AC := (.shal k646_0 .skip)
def f646 : AF := .mk x646 []
def row0 : F1 := (.mk .none .none .none f3 f4 f5 f6 f7 f8 f9 f10 f11 f12 f13 f14 f15)
def row1 : F1 := (.mk f16 f17 f18 f19 f20 f21 f22 f23 f24 f25 f26 f27 f28 f29 .none f31)
def row2 : F1 := (.mk f32 f33 f34 f35 f36 f37 f38 f39 f40 f41 f42 f43 f44 f45 f46 .none)
def row3 : F1 := (.mk .none f49 f50 f51 .none f53 f54 f55 f56 f57 f58 .none f60 f61 f62 f63)
def row4 : F1 := (.mk f64 f65 f66 f67 f68 f69 f70 f71 f72 f73 .none f75 f76 .none f78 f79)
def row5 : F1 := (.mk f80 f81 f82 f83 f84 f85 f86 f87 f88 .none f90 f91 .none .none .none .none)
def row6 : F1 := (.mk f96 f97 f98 f99 f100 f101 f102 f103 f104 f105 f106 f107 f108 f109 .none f111)
def row7 : F1 := (.mk f112 .none f114 f115 f116 .none f118 f119 f120 f121 f122 f123 f124 f125 f126 f127)
def row8 : F1 := (.mk f128 f129 f130 f131 f132 f133 f134 .none .none f137 f138 f139 .none f141 .none .none)
def row9 : F1 := (.mk .none f145 f146 f147 f148 f149 f150 .none f152 .none f154 f155 .none .none .none f159)
def row10 : F1 := (.mk f160 f161 f162 f163 f164 .none f166 f167 f168 f169 .none .none .none f173 .none .none)
def row11 : F1 := (.mk .none .none f178 .none f180 f181 f182 .none f184 f185 f186 f187 f188 f189 f190 f191)
def row12 : F1 := (.mk f192 .none f194 f195 f196 f197 f198 f199 f200 f201 f202 f203 f204 f205 f206 f207)
def row13 : F1 := (.mk .none .none f210 f211 f212 f213 .none .none f216 .none .none f219 f220 f221 f222 .none)
def row14 : F1 := (.mk f224 .none .none .none f228 .none f230 .none f232 .none .none .none f236 f237 f238 .none)
def row15 : F1 := (.mk f240 .none .none .none f244 f245 f246 f247 .none f249 .none .none .none f253 .none .none)
def row16 : F1 := (.mk f256 .none f258 f259 f260 f261 f262 f263 f264 f265 f266 f267 f268 f269 f270 f271)
def row17 : F1 := (.mk f272 f273 .none f275 .none .none .none .none .none .none .none .none .none .none f286 .none)
def row18 : F1 := (.mk .none .none f290 .none .none f293 f294 f295 .none .none f298 f299 f300 .none .none .none)
def row19 : F1 := (.mk f304 .none f306 f307 .none .none f310 f311 f312 f313 .none f315 f316 f317 f318 f319)
def row20 : F1 := (.mk f320 f321 .none f323 f324 .none .none f327 f328 .none .none .none .none .none f334 f335)
def row21 : F1 := (.mk f336 f337 f338 .none .none .none .none .none .none .none .none .none f348 f349 f350 f351)
def row22 : F1 := (.mk .none f353 f354 f355 .none .none f358 .none .none f361 f362 f363 f364 f365 f366 .none)
def row23 : F1 := (.mk .none .none f370 .none .none .none f374 f375 .none .none f378 f379 .none .none .none .none)
def row24 : F1 := (.mk .none f385 f386 f387 f388 f389 .none f391 f392 .none .none .none .none .none .none .none)
def row25 : F1 := (.mk f400 .none .none f403 f404 f405 f406 .none .none .none .none .none f412 f413 f414 .none)
def row26 : F1 := (.mk .none .none .none .none .none .none .none .none .none .none .none .none .none .none f430 f431)
def row27 : F1 := (.mk f432 f433 .none .none .none .none .none .none .none f441 .none .none .none .none .none f447)
def row28 : F1 := (.mk .none f449 f450 f451 f452 .none .none .none .none .none .none .none .none .none f462 .none)
def row29 : F1 := (.mk f464 .none .none f467 .none .none .none .none .none f473 f474 f475 .none .none .none .none)
def row30 : F1 := (.mk .none f481 f482 f483 .none .none .none .none .none .none .none .none .none .none .none .none)
def row31 : F1 := (.mk .none .none .none .none f500 .none .none .none .none .none .none .none .none .none .none .none)
def row33 : F1 := (.mk .none .none .none .none f532 f533 .none .none .none .none .none f539 .none .none .none .none)
def row34 : F1 := (.mk .none .none .none .none f548 f549 .none .none .none f553 .none .none .none .none .none .none)
def row36 : F1 := (.mk .none .none .none .none .none .none .none f583 f584 .none .none .none .none f589 .none .none)
def row37 : F1 := (.mk .none .none .none .none .none .none .none .none .none .none .none .none .none .none f606 .none)
def row40 : F1 := (.mk .none .none f642 f643 .none f645 f646 .none .none .none .none .none .none .none .none .none)
def page0 : F2 := .mk row0 row1 row2 row3 row4 row5 row6 row7 row8 row9 row10 row11 row12 row13 row14 row15
def page1 : F2 := .mk row16 row17 row18 row19 row20 row21 row22 row23 row24 row25 row26 row27 row28 row29 row30 row31
def page2 : F2 := .mk .nil row33 row34 .nil row36 row37 .nil .nil row40 .nil .nil .nil .nil .nil .nil .nil
def pg : Pg := .mk (.mk page0 page1 page2 .nil .nil .nil .nil .nil .nil .nil .nil .nil .nil .nil .nil .nil) [.mk 91 2 52, .mk 84 2 644, .mk 84 1 643, .mk 84 4 642, .mk 66 4 79, .mk 84 3 646, .mk 84 0 645, .mk 66 0 77]
end
end Go.Am.Seat
