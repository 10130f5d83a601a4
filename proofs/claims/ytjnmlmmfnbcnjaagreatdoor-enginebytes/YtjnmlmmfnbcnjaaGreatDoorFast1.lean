/- The program's code in a form that runs fast, written by program. Nothing is asked. -/
import Derived.Test.YtjnmlmmfnbcnjaaGreatDoorFast0
set_option linter.all false
namespace Go.Am.Seat
set_option maxRecDepth 20000
noncomputable section
def x213 : AC := b213
def f213 : AF := .mk x213 [.t .h0 .h4]
def x214 : AC := b214
def f214 : AF := .mk x214 [.t .h0 .h6]
def x215 : AC := b215
def f215 : AF := .mk x215 []
def x223 : AC := b223
def f223 : AF := .mk x223 [.t .h0 .h3]
def x225 : AC := b225
def f225 : AF := .mk x225 [.t .h0 .h4]
def x226 : AC := b226
def f226 : AF := .mk x226 [.t .h0 .h4]
def x227 : AC := b227
def f227 : AF := .mk x227 [.t .h0 .h4,.t .h0 .h5]
def x228 : AC := b228
def f228 : AF := .mk x228 [.t .h0 .h4]
def x229 : AC := b229
def f229 : AF := .mk x229 [.t .h0 .h2]
def k230_0 : KF := K1 y0 fun c i x h a=>
 C c 292 [a] h fun b h=>
 E 0 b h fun d h=>
 E 1 b h fun e h=>
 E 2 b h fun f h=>
 Z d e h fun g h=>
 .ret (T11 g) h
def x230 : AC := (.ah k230_0 .skip)
def f230 : AF := .mk x230 [.t .h0 .h2]
def x231 : AC := b231
def f231 : AF := .mk x231 [.t .h0 .h4]
def k232_3 : KF := K1 y1 fun c i x h a=>
 A 2 a h fun b h=>
 L b h fun d h=>
 tR (dh d iS h) fun e h=>
 .ret (T11 e) h
def k232_4 : KF := K2 y1 y4 fun c i x h a b=>
 Q b (pi 2) h fun d h=>
 x (T254 a d) h
def k232_2 : KF := K2 y1 y4 fun c i x h a b=>
 Q b i1 h fun d h=>
 x (T15 a b d) h
def k232_1 : KF := K1 y1 fun c i x h a=>
 A 0 a h fun b h=>
 L b h fun d h=>
 x (T14 a d) h
def k232_5 : KF := fun c i x r h=>
 .ret (T11 (.bool false)) h
def k232_0 : KF := K1 y0 fun c i x h a=>
 B 50 a h fun b h=>
 x (T12 b) h
def x232 : AC := (.ah k232_0 (.seq (.ah k232_1 (.block 0 (.ah k232_2 (.cond r5 (.ah k232_3 .skip) (.ah k232_4 (.cond r10 (.seq (.ops [of d12 1 r1,
 ol d13 r12,
 o d14 (.bin .eq r13 a0),
 m d15 r14,
 .g .h0 .hf true d16 (.op (.lS 2 r1)),
 .g .h0 .hf true d17 (.op (.lP r16)),
 .g .h0 .hf true d18 (.op (.fQ r17)),
 .g .h0 .hf true d19 (.op (.bin .le r18 (.c (pi 40)))),
 o d20 (.pick r15 r19 (.c (.bool false))),
 m d2 r20]) .ret) .skip)))))) (.ah k232_5 .skip)))
def f232 : AF := .mk x232 [.t .h0 .h2]
def k233_0 : KF := K2 y0 y1 fun c i x h a b=>
 x (T27 a b) h
def x233 : AC := (.ah k233_0 (.seq (.ops [m d5 r0,
 oc d6 243 [r5],
 m d7 r6,
 .g .h0 .h7 true d8 (.op (.mv r1)),
 .g .h0 .h7 true d9 (.call 243 [r8]),
 o d10 (.pick r7 r9 (.c (.bool false))),
 m d11 r10,
 .g .h0 .hb true d12 (.op (.mv r0)),
 .g .h0 .hb true d13 (.op (.mv r1)),
 .g .h0 .hb true d14 (.call 248 [r12,r13]),
 .g .h0 .hb true d15 (.op (.bin .eq r14 a0)),
 o d16 (.pick r11 r15 (.c (.bool false))),
 m d4 r16]) .ret))
def f233 : AF := .mk x233 [.t .h0 .h4]
def x234 : AC := b234
def f234 : AF := .mk x234 []
def x240 : AC := b240
def f240 : AF := .mk x240 [.t .h0 .h4]
def k243_0 : KF := K1 y0 fun c i x h a=>
 x (T34 a) h
def x243 : AC := (.ah k243_0 (.seq (.ops [m d3 r0,
 o d4 (.len r3),
 o d5 (.bin .gt r4 a0),
 m d6 r5,
 .g .h0 .h6 true d7 (.op (.mv r0)),
 .g .h0 .h6 true d8 (.op (.len r7)),
 .g .h0 .h6 true d9 (.op (.bin .le r8 (.c (pi 6)))),
 o d10 (.pick r6 r9 (.c (.bool false))),
 m d11 r10,
 .g .h0 .hb true d12 (.op (.mv r0)),
 .g .h0 .hb true d13 (.call 296 [r12,(.c (.fn 297 []))]),
 .g .h0 .hb true d14 (.op (.un .not r13)),
 o d15 (.pick r11 r14 (.c (.bool false))),
 m d2 r15]) .ret))
def f243 : AF := .mk x243 [.t .h0 .h2]
def k244_0 : KF := K1 y0 fun c i x h a=>
 x (T34 a) h
def x244 : AC := (.ah k244_0 (.seq (.ops [m d3 r0,
 o d4 (.real false r3),
 oc d5 298 [r4],
 m d6 r5,
 .g .h0 .h6 true d7 (.op (.mv r0)),
 .g .h0 .h6 true d8 (.op (.real true r7)),
 .g .h0 .h6 true d9 (.call 298 [r8]),
 o d10 (.pick r6 r9 (.c (.bool false))),
 m d2 r10]) .ret))
def f244 : AF := .mk x244 [.t .h0 .h2]
def x245 : AC := b245
def f245 : AF := .mk x245 [.t .h0 .h2]
def x246 : AC := b246
def f246 : AF := .mk x246 []
def x247 : AC := b247
def f247 : AF := .mk x247 [.t .h0 .h4]
def k248_0 : KF := K2 y0 y1 fun c i x h a b=>
 C c 300 [a,b,(.fn 301 [])] h fun d h=>
 .ret (T31 d) h
def x248 : AC := (.ah k248_0 .skip)
def f248 : AF := .mk x248 [.t .h0 .h4]
def x249 : AC := b249
def f249 : AF := .mk x249 [.t .h0 .h4,.t .h0 .h5]
def x250 : AC := b250
def f250 : AF := .mk x250 [.t .h0 .h4]
def x251 : AC := b251
def f251 : AF := .mk x251 [.t .h0 .h2]
def x252 : AC := b252
def f252 : AF := .mk x252 [.t .h0 .h4]
def x253 : AC := b253
def f253 : AF := .mk x253 [.t .h0 .h2]
def x262 : AC := b262
def f262 : AF := .mk x262 [.t .h0 .h4,.t .h0 .h5]
def x263 : AC := b263
def f263 : AF := .mk x263 [.t .h0 .h4]
def k265_0 : KF := K1 y0 fun c i x h a=>
 tR (yn a (.int .u8 (.ofNat 97)) h) fun b h=>
 gD b true (fun d=>d a h) h fun d h=>
 gD b true (fun e=>tR (IZ d (.int .u8 (.ofNat 122)) h) fun f h=>
 e f h) h fun e h=>
 tR (fU (.c b) (.c e) (.c (.bool false)) .nil h) fun f h=>
 .ret (T11 f) h
def x265 : AC := (.ah k265_0 .skip)
def f265 : AF := .mk x265 [.t .h0 .h2]
def k267_1 : KF := K4 y0 y2 y7 y19 fun c i x h a b d e=>
 I e (.nm (T33 a b d) h) (.ex 0 (T33 a b d) h)
def k267_2 : KF := K3 y0 y2 y7 fun c i x h a b d=>
 D d i1 h fun e h=>
 .nm (T33 a b e) h
def k267_3 : KF := K1 y7 fun c i x h a=>
 .ret (T28 a) h
def k267_0 : KF := K3 y0 y1 y2 fun c i x h a b d=>
 x (T33 a d b) h
def x267 : AC := (.ah k267_0 (.seq (.block 0 (.loop (.seq (.seq (.ops [m d9 r7,
 m d10 r0,
 o d11 (.fQ r10),
 o d12 (.bin .lt r9 r11),
 m d13 r12,
 .g .h0 .hd true d14 (.op (.mv r2)),
 .g .h0 .hd true d15 (.op (.mv r0)),
 .g .h0 .hd true d16 (.op (.mv r7)),
 .g .h0 .hd true d17 (.op (.idxs r15 r16)),
 .g .h0 .hd true d18 (.lE r14 [r17]),
 o d19 (.pick r13 r18 (.c (.bool false)))]) (.ah k267_1 .skip)) (.ah k267_2 .skip)))) (.ah k267_3 .skip)))
def f267 : AF := .mk x267 [.t .h0 .h6]
def x270 : AC := b270
def f270 : AF := .mk x270 [.t .h0 .h2]
def x271 : AC := b271
def f271 : AF := .mk x271 [.t .h0 .h4]
def x273 : AC := b273
def f273 : AF := .mk x273 [.t .h0 .h2]
def x274 : AC := b274
def f274 : AF := .mk x274 [.t .h0 .h2]
def k276_1 : KF := K2 y0 y1 fun c i x h a b=>
 Y b i0 h fun d h=>
 x (T262 a b d) h
def k276_2 : KF := K2 y0 y1 fun c i x h a b=>
 tQ (nC a h) fun d=>
 tQ (fA 1 d h) fun e=>
 tQ (lD e h) fun f=>
 tQ (ux (.c f) .nil h) fun g=>
 tQ (nC a h) fun j=>
 tQ (fA 1 j h) fun k=>
 tQ (lD k h) fun l=>
 tQ (len l h) fun m=>
 tQ (nV g m h) fun n=>
 tQ (qR n b h) fun o=>
 I o (C c 324 [a,b] h fun p h=>
 .nm T6 h) (.nm T6 h)
def k276_0 : KF := K2 y0 y1 fun c i x h a b=>
 C c 323 [a] h fun d h=>
 x (T27 a b) h
def x276 : AC := (.ah k276_0 (.seq (.ah k276_1 (.cond r7 (.ops [o d8 (.OK 9 (.c (.str [115,116,114,105,110,103,115,46,66,117,105,108,100,101,114,46,71,114,111,119,58,32,110,101,103,97,116,105,118,101,32,99,111,117,110,116]))),
 o .no (.bad 400)]) .skip)) (.ah k276_2 .skip)))
def f276 : AF := .mk x276 []
def k277_0 : KF := K2 y0 y1 fun c i x h a b=>
 C c 323 [a] h fun d h=>
 J a h fun e h=>
 A 1 e h fun f h=>
 L f h fun g h=>
 tR (me 5 (.c g) (.c b) .nil h) fun j h=>
 J a h fun k h=>
 A 1 k h fun l h=>
 W l j h fun m h=>
 tR (fQ b h) fun n h=>
 .ret (T55 n .Br) h
def x277 : AC := (.ah k277_0 .skip)
def f277 : AF := .mk x277 [.t .h0 .h4,.t .h0 .h5]
def k278_0 : KF := K1 y0 fun c i x h a=>
 tQ (nC a h) fun b=>
 tQ (fA 1 b h) fun d=>
 tQ (lD d h) fun e=>
 tQ (lY (.c e) .nil h) fun f=>
 tQ (nC a h) fun g=>
 tQ (fA 1 g h) fun j=>
 tQ (lD j h) fun k=>
 tQ (len k h) fun l=>
 tX (RV.lL (oC 5 (.c f) (.c l) .nil h)) fun m h=>
 .ret (T11 m) h
def x278 : AC := (.ah k278_0 .skip)
def f278 : AF := .mk x278 [.t .h0 .h2]
def x282 : AC := b282
def f282 : AF := .mk x282 [.t .h0 .h4]
def x283 : AC := b283
def f283 : AF := .mk x283 [.t .h0 .h2,.agg 2 .h0 .h3]
def x288 : AC := b288
def f288 : AF := .mk x288 [.t .h0 .h2]
def x289 : AC := b289
def f289 : AF := .mk x289 [.t .h0 .h2]
def x290 : AC := b290
def f290 : AF := .mk x290 [.t .h0 .h0]
def x291 : AC := b291
def f291 : AF := .mk x291 [.agg 2 .h0 .h4]
def k292_0 : KF := K1 y0 fun c i x h a=>
 C c 244 [a] h fun b h=>
 tR (nT b h) fun d h=>
 I d (.ret (T102 i0 i0 (.bool false)) h) (tR (kX false (.c a) .nil h) fun e h=>
 tR (cK (.Un .i64) e h) fun f h=>
 tR (kX true (.c a) .nil h) fun g h=>
 tR (cK (.Un .i64) g h) fun j h=>
 .ret (T102 f j (.bool true)) h)
def x292 : AC := (.ah k292_0 .skip)
def f292 : AF := .mk x292 [.t .h0 .h2,.t .h0 .h3,.t .h0 .h4]
def k296_0 : KF := K2 y0 y1 fun c i x h a b=>
 C c 337 [a,b] h fun d h=>
 tR (yn d i0 h) fun e h=>
 .ret (T31 e) h
def x296 : AC := (.ah k296_0 .skip)
def f296 : AF := .mk x296 [.t .h0 .h4]
def k297_0 : KF := K1 y0 fun c i x h a=>
 B 50 a h fun b h=>
 M 3 b h fun d h=>
 C c 232 [d] h fun e h=>
 tR (nT e h) fun f h=>
 .ret (T11 f) h
def x297 : AC := (.ah k297_0 .skip)
def f297 : AF := .mk x297 [.t .h0 .h2]
def k298_0 : KF := K1 y0 fun c i x h a=>
 x (T34 a) h
def x298 : AC := (.ah k298_0 (.seq (.ops [m d3 r0,
 o d4 (.bin (.Sy .geq) r3 (.c (.nG .f64 0))),
 m d5 r4,
 .g .h0 .h5 true d6 (.op (.mv r0)),
 .g .h0 .h5 true d7 (.op (.bin (.Sy .leq) r6 (.c (.nG .f64 4832362400168542208)))),
 o d8 (.pick r5 r7 (.c (.bool false))),
 m d9 r8,
 .g .h0 .h9 true d10 (.op (.mv r0)),
 .g .h0 .h9 true d11 (.op (.mv r0)),
 .g .h0 .h9 true d12 (.call 338 [r11]),
 .g .h0 .h9 true d13 (.op (.bin (.Sy .eql) r10 r12)),
 o d14 (.pick r9 r13 (.c (.bool false))),
 m d2 r14]) .ret))
def f298 : AF := .mk x298 [.t .h0 .h2]
def x299 : AC := b299
def f299 : AF := .mk x299 []
def k300_4 : KF := K6 y0 y1 y2 y11 y12 y13 fun c i x h a b d e f g=>
 D g i1 h fun j h=>
 .nm (T264 a b d e f j) h
def k300_3 : KF := K6 y0 y1 y2 y11 y12 y13 fun c i x h a b d e f g=>
 X 3 e g h fun j h=>
 M 3 j h fun k h=>
 O 50 3 (.k1 (Y3 i0 i0 iS)) h fun l h=>
 S 3 l k h fun m h=>
 G b h fun n h=>
 tR (yn g n h) fun o h=>
 I o (.ret (T28 i1) h) (X 3 b g h fun p h=>
 M 3 p h fun q h=>
 O 50 3 (.k1 (Y3 i0 i0 iS)) h fun s h=>
 S 3 s q h fun t h=>
 M 3 l h fun v h=>
 M 3 s h fun w h=>
 tT (cd c d [v,w] h) fun y h=>
 tR (jL y i0 h) fun z h=>
 I z (.ret (T28 y) h) (x (T264 a b d e f g) h))
def k300_2 : KF := K6 y0 y1 y2 y11 y12 y13 fun c i x h a b d e f g=>
 Y g f h fun j h=>
 I j (x (T264 a b d e f g) h) (.ex 0 (T27 a b) h)
def k300_1 : KF := K3 y0 y1 y2 fun c i x h a b d=>
 G a h fun e h=>
 x (T264 a b d a e i0) h
def k300_5 : KF := K2 y0 y1 fun c i x h a b=>
 G a h fun d h=>
 G b h fun e h=>
 Y d e h fun f h=>
 I f (.ret (T28 (ni 0)) h) (.ret (T28 i0) h)
def k300_0 : KF := K3 y0 y1 y2 fun c i x h a b d=>
 x (T32 a b d) h
def x300 : AC := (.ah k300_0 (.seq (.ah k300_1 (.block 0 (.loop (.ah k300_2 (.ah k300_3 (.ah k300_4 .skip)))))) (.ah k300_5 .skip)))
def f300 : AF := .mk x300 [.t .h0 .h6]
def k301_0 : KF := K2 y0 y1 fun c i x h a b=>
 B 50 a h fun d h=>
 B 50 b h fun e h=>
 M 3 d h fun f h=>
 M 3 e h fun g h=>
 C c 302 [f,g] h fun j h=>
 I j (.ret (T31 (ni 0)) h) (M 3 e h fun k h=>
 M 3 d h fun l h=>
 C c 302 [k,l] h fun m h=>
 I m (.ret (T31 i1) h) (.ret (T31 i0) h))
def x301 : AC := (.ah k301_0 .skip)
def f301 : AF := .mk x301 [.t .h0 .h4]
def k302_1 : KF := K3 y2 y3 y5 fun c i x h a b d=>
 I d (.ret (T31 (.bool false)) h) (A 0 a h fun e h=>
 L e h fun f h=>
 A 0 b h fun g h=>
 L g h fun j h=>
 tR (jL f j h) fun k h=>
 I k (A 0 a h fun l h=>
 L l h fun m h=>
 Q m i1 h fun n h=>
 .ret (T31 n) h) (A 0 a h fun l h=>
 L l h fun m h=>
 Q m i1 h fun n h=>
 I n (A 1 a h fun o h=>
 L o h fun p h=>
 A 1 b h fun q h=>
 L q h fun s h=>
 Y p s h fun t h=>
 .ret (T31 t) h) (.nm (T25 a b) h)))
def k302_2 : KF := K2 y2 y3 fun c i x h a b=>
 A 2 a h fun d h=>
 L d h fun e h=>
 A 2 b h fun f h=>
 L f h fun g h=>
 tR (Ja e g h) fun j h=>
 .ret (T31 j) h
def k302_0 : KF := K2 y0 y1 fun c i x h a b=>
 B 50 a h fun d h=>
 B 50 b h fun e h=>
 x (T25 d e) h
def x302 : AC := (.ah k302_0 (.seq (.block 0 (.seq (.ops [o d6 (.lR 3 r2),
 oc d7 232 [r6],
 o d8 (.un .not r7),
 m d9 r8,
 .g .h0 .h9 false d10 (.op (.lR 3 r3)),
 .g .h0 .h9 false d11 (.call 232 [r10]),
 .g .h0 .h9 false d12 (.op (.un .not r11)),
 o d13 (.pick r9 (.c (.bool true)) r12),
 m d5 r13]) (.ah k302_1 .skip))) (.ah k302_2 .skip)))
def f302 : AF := .mk x302 [.t .h0 .h4]
def x303 : AC := b303
def f303 : AF := .mk x303 [.t .h0 .h4,.t .h0 .h5]
def k304_0 : KF := K1 y0 fun c i x h a=>
 tR (II false [a,i0] h) fun b h=>
 tR (DF a h) fun d h=>
 tR (II false [d,i0] h) fun e h=>
 C c 161 [b,e] h fun f h=>
 .ret (T11 f) h
def x304 : AC := (.ah k304_0 .skip)
def f304 : AF := .mk x304 [.t .h0 .h2]
def x307 : AC := b307
def f307 : AF := .mk x307 [.t .h0 .h4,.t .h0 .h5]
def x311 : AC := b311
def f311 : AF := .mk x311 [.t .h0 .h4,.t .h0 .h5]
def x312 : AC := b312
def f312 : AF := .mk x312 [.t .h0 .h2]
def x313 : AC := b313
def f313 : AF := .mk x313 [.t .h0 .h4]
def x314 : AC := b314
def f314 : AF := .mk x314 [.t .h0 .h2]
def x315 : AC := b315
def f315 : AF := .mk x315 [.t .h0 .h2]
def x316 : AC := b316
def f316 : AF := .mk x316 [.t .h0 .h6,.t .h0 .h7]
def k319_0 : KF := K2 y0 y1 fun c i x h a b=>
 C c 352 [a,b] h fun d h=>
 tR (yn d i0 h) fun e h=>
 .ret (T31 e) h
def x319 : AC := (.ah k319_0 .skip)
def f319 : AF := .mk x319 [.t .h0 .h4]
def x320 : AC := b320
def f320 : AF := .mk x320 [.t .h0 .h3]
def k321_0 : KF := K1 y0 fun c i x h a=>
 B 242 a h fun b h=>
 A 0 b h fun d h=>
 L d h fun e h=>
 tR (jL e (pi 2) h) fun f h=>
 .ret (T11 f) h
def x321 : AC := (.ah k321_0 .skip)
def f321 : AF := .mk x321 [.t .h0 .h2]
def k323_1 : KF := K1 y0 fun c i x h a=>
 tR (cK .Ul a h) fun b h=>
 C c 353 [b] h fun d h=>
 tR (cK (.GR 386 2) d h) fun e h=>
 J a h fun f h=>
 A 0 f h fun g h=>
 W g e h fun j h=>
 .nm T6 h
def k323_2 : KF := K1 y0 fun c i x h a=>
 J a h fun b h=>
 A 0 b h fun d h=>
 L d h fun e h=>
 tR (bK .Uk e a h) fun f h=>
 x (T274 f) h
def k323_0 : KF := K1 y0 fun c i x h a=>
 J a h fun b h=>
 A 0 b h fun d h=>
 L d h fun e h=>
 tR (bK .qw e .fo h) fun f h=>
 x (T43 a f) h
def x323 : AC := (.ah k323_0 (.cond r6 (.ah k323_1 .skip) (.ah k323_2 (.cond r19 (.bad 403) .skip))))
def f323 : AF := .mk x323 []
def k324_0 : KF := K2 y0 y4 fun c i x h a b=>
 J a h fun d h=>
 A 1 d h fun e h=>
 L e h fun f h=>
 tR (FY 1 b f h) fun g h=>
 J a h fun j h=>
 A 1 j h fun k h=>
 W k b h fun l h=>
 .nm T6 h
def x324 : AC := (.seq (.qv [q 0 (m d5 r0),
 qj 0 d6 r5,
 qf 0 d7 1 r6,
 ql 0 d8 r7,
 q 0 (o d9 (.cap r8)),
 q 0 (o d10 (.bin .mul a2 r9)),
 q 0 (m d11 r1),
 q 0 (o d12 (.bin .add r10 r11)),
 w (oc d13 354 [r12]),
 q 1 (m d14 r0),
 qj 1 d15 r14,
 qf 1 d16 1 r15,
 ql 1 d17 r16,
 q 1 (o d18 (.len r17)),
 q 0 (o d19 (.Sh 1 r13 .none (.some r18) .none)),
 q 0 (m d4 r19)]) (.ah k324_0 .skip))
def f324 : AF := .mk x324 []
def x334 : AC := b334
def f334 : AF := .mk x334 [.t .h0 .h4]
def x335 : AC := b335
def f335 : AF := .mk x335 [.t .h0 .h2]
def k337_2 : KF := K4 y0 y1 y7 y8 fun c i x h a b d e=>
 Y e d h fun f h=>
 I f (X 3 a e h fun g h=>
 M 3 g h fun j h=>
 tT (cd c b [j] h) fun k h=>
 I k (.ret (T31 e) h) (D e i1 h fun l h=>
 .nm (T75 a b d l) h)) (.ex 0 (T75 a b d e) h)
def k337_1 : KF := K2 y0 y1 fun c i x h a b=>
 G a h fun d h=>
 x (T75 a b d i0) h
def k337_3 : KF := fun c i x r h=>
 .ret (T31 (ni 0)) h
def k337_0 : KF := K2 y0 y1 fun c i x h a b=>
 x (T27 a b) h
def x337 : AC := (.ah k337_0 (.seq (.ah k337_1 (.block 0 (.loop (.ah k337_2 .skip)))) (.ah k337_3 .skip)))
def f337 : AF := .mk x337 [.t .h0 .h4]
def k338_0 : KF := K1 y0 fun c i x h a=>
 I (.bool true) (C c 362 [a] h fun b h=>
 .ret (T11 b) h) (C c 363 [a] h fun b h=>
 .ret (T11 b) h)
def x338 : AC := (.ah k338_0 .skip)
def f338 : AF := .mk x338 [.t .h0 .h2]
def x339 : AC := b339
def f339 : AF := .mk x339 []
def x341 : AC := b341
def f341 : AF := .mk x341 [.agg 3 .h0 .h2]
def x344 : AC := b344
def f344 : AF := .mk x344 []
def x345 : AC := b345
def f345 : AF := .mk x345 []
def x346 : AC := b346
def f346 : AF := .mk x346 [.t .h0 .h2]
def x348 : AC := b348
def f348 : AF := .mk x348 [.agg 3 .h0 .h4,.t .h0 .h5]
def k352_2 : KF := K4 y0 y1 y7 y8 fun c i x h a b d e=>
 Y e d h fun f h=>
 I f (X 5 a e h fun g h=>
 M 5 g h fun j h=>
 tT (cd c b [j] h) fun k h=>
 I k (.ret (T31 e) h) (D e i1 h fun l h=>
 .nm (T75 a b d l) h)) (.ex 0 (T75 a b d e) h)
def k352_1 : KF := K2 y0 y1 fun c i x h a b=>
 G a h fun d h=>
 x (T75 a b d i0) h
def k352_3 : KF := fun c i x r h=>
 .ret (T31 (ni 0)) h
def k352_0 : KF := K2 y0 y1 fun c i x h a b=>
 x (T27 a b) h
def x352 : AC := (.ah k352_0 (.seq (.ah k352_1 (.block 0 (.loop (.ah k352_2 .skip)))) (.ah k352_3 .skip)))
def f352 : AF := .mk x352 [.t .h0 .h4]
def x361 : AC := b361
def f361 : AF := .mk x361 [.t .h0 .h4]
def k368_1 : KF := K1 y1 fun c i x h a=>
 x T6 h
def k368_2 : KF := K1 y2 fun c i x h a=>
 L a h fun b h=>
 .ret (T31 b) h
def k368_0 : KF := K2 y0 y1 fun c i x h a b=>
 B 141 a h fun d h=>
 x (T12 b) h
def p368_0 : List GI := [o d2 (.box 141 r0),m d4 (.c .ar)]
def p368_1 : List GI := [m d6 r1]
def p368_2 : List GI := [ol d4 r1,o d5 (.EX r4)]
def p368_3 : List GI := [.o d6 (.Dc false r5),oe d7 0 r6]
def p368_4 : List GI := [o d8 (.Md r5),oe d9 0 r8,m d3 r9]
def p368_5 : List GI := [m d11 r3]
def p368_6 : List GI := [m d5 r7]
def p368_7 : List GI := [ol d8 r2,m d9 r5,o d10 (.cu 9 1 1 [iS] [.mk 0 1 r9]),o d11 (.app 9 1 r8 r10),os r2 r11]
def p368_8 : List GI := [ol d12 r2,m d4 r12]
def p368 : PK := (.QV 347 p368_0 p368_1 p368_2 p368_3 p368_4 p368_5 p368_6 p368_7 p368_8)
def x368 : AC := (.ah k368_0 (.seq (.ah k368_1 (.block 0 (.bad 402))) (.ah k368_2 .skip)))
def f368 : AF := .tz p368 x368 [.t .h0 .h4]
def x369 : AC := b369
def f369 : AF := .mk x369 [.agg 2 .h0 .h6]
def x370 : AC := b370
def f370 : AF := .mk x370 [.t .h0 .h2,.t .h0 .h3]
def x386 : AC := b386
def f386 : AF := .mk x386 [.t .h0 .h2]
def Rl : F1 := (.mk .none .none .none f3 f4 f5 f6 f7 f8 f9 f10 f11 f12 f13 f14 f15)
def Tm : F1 := (.mk f16 f17 f18 f19 f20 f21 f22 f23 f24 f25 f26 f27 f28 f29 f30 f31)
def Tn : F1 := (.mk f32 f33 f34 f35 f36 f37 f38 f39 f40 f41 f42 f43 f44 f45 f46 f47)
def Tp : F1 := (.mk f48 f49 f50 f51 f52 f53 f54 f55 f56 f57 f58 f59 f60 f61 f62 f63)
def Tq : F1 := (.mk .none .none .none f67 .none f69 f70 f71 f72 f73 f74 .none .none f77 .none f79)
def Tr : F1 := (.mk f80 .none .none f83 f84 f85 f86 .none f88 f89 f90 f91 f92 f93 f94 f95)
def Ts : F1 := (.mk f96 f97 f98 f99 f100 f101 .none .none f104 f105 f106 f107 f108 f109 f110 f111)
def Tt : F1 := (.mk .none f113 f114 f115 .none f117 f118 f119 f120 f121 f122 f123 f124 f125 f126 f127)
def Tu : F1 := (.mk f128 f129 f130 f131 f132 f133 f134 f135 .none .none .none .none .none .none .none .none)
def Tv : F1 := (.mk f144 .none f146 f147 f148 f149 .none f151 f152 f153 f154 f155 f156 f157 f158 .none)
def Pm : F1 := (.mk f160 f161 .none f163 f164 f165 f166 f167 f168 .none f170 f171 f172 .none .none .none)
def Pn : F1 := (.mk .none f177 .none f179 .none .none .none .none .none .none f186 f187 f188 f189 f190 .none)
def Po : F1 := (.mk f192 f193 f194 .none .none .none f198 f199 .none f201 f202 .none f204 .none .none .none)
def Pp : F1 := (.mk .none f209 f210 .none f212 f213 f214 f215 .none .none .none .none .none .none .none f223)
def Pq : F1 := (.mk .none f225 f226 f227 f228 f229 f230 f231 f232 f233 f234 .none .none .none .none .none)
def Pr : F1 := (.mk f240 .none .none f243 f244 f245 f246 f247 f248 f249 f250 f251 f252 f253 .none .none)
def Ps : F1 := (.mk .none .none .none .none .none .none f262 f263 .none f265 .none f267 .none .none f270 f271)
def Pt : F1 := (.mk .none f273 f274 .none f276 f277 f278 .none .none .none f282 f283 .none .none .none .none)
def Pu : F1 := (.mk f288 f289 f290 f291 f292 .none .none .none f296 f297 f298 f299 f300 f301 f302 f303)
def Pv : F1 := (.mk f304 f305 .none f307 .none .none .none f311 f312 f313 f314 f315 f316 .none .none f319)
def Pw : F1 := (.mk f320 f321 .none f323 f324 .none .none .none .none .none .none .none .none .none f334 f335)
def Px : F1 := (.mk .none f337 f338 f339 .none f341 .none .none f344 f345 f346 .none f348 .none .none .none)
def Py : F1 := (.mk f352 f353 f354 .none .none .none .none .none .none f361 f362 .none .none .none .none .none)
def Pz : F1 := (.mk f368 f369 f370 .none .none .none .none .none .none .none .none .none .none .none .none .none)
def PA : F1 := (.mk .none .none f386 .none f388 .none .none .none .none .none .none .none .none .none .none .none)
def Jm : F2 := .mk Rl Tm Tn Tp Tq Tr Ts Tt Tu Tv Pm Pn Po Pp Pq Pr
def PB : F2 := .mk Ps Pt Pu Pv Pw Px Py Pz PA .nil .nil .nil .nil .nil .nil .nil
def pg : Pg := .mk (.mk Jm PB .nil .nil .nil .nil .nil .nil .nil .nil .nil .nil .nil .nil .nil .nil) []
end
end Go.Am.Seat
