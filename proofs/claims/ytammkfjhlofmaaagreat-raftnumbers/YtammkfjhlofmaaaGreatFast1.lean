/- The same code in a form that runs faster, written by program. Nothing is asked. -/
import Derived.Test.YtammkfjhlofmaaaGreatFast0
set_option linter.all false
namespace Go.Am.Seat
set_option linter.unusedVariables false
set_option maxRecDepth 20000
noncomputable section
def k169_0 : KF := fun c i x r h => (fun (x0 : AV) =>
 tR (nic x0 h) fun v1 h2 =>
 tR (fa 6 v1 h2) fun v3 h4 =>
 tR (ld v3 h4) fun v5 h6 =>
 tR (o_lenm (.c v5) .nil h6) fun v7 h8 =>
 tT (c 168 [x0,v7] h8) fun v9 h10 =>
 .ret (T20 v9) h10) (y0 r)
def x169 : AC := (.shal k169_0 .skip)
def z169 : List Rs := [.t .h0 .h2]
def f169 : AF := .mk x169 z169
def k170_0 : KF := fun c i x r h => (fun (x0 x1 x2 : AV) =>
 tR (ld x1 h) fun v3 h4 =>
 tR (ld x2 h4) fun v5 h6 =>
 tR (o_build [(pi 0),(pi 0),(pi 0),(.str [])] [.mk 0 1 (.c v3),.mk 3 1 (.c v5)] .nil h6) fun v7 h8 =>
 tR (o_bslice 138 4 1 [(pi 0),(pi 0),(pi 0),(.str [])] [.mk 0 4 (.c v7)] .nil h8) fun v9 h10 =>
 tT (c 124 [x0,v9] h10) fun v11 h12 =>
 .nm T26 h12) (y0 r) (y1 r) (y2 r)
def x170 : AC := (.shal k170_0 .skip)
def z170 : List Rs := []
def f170 : AF := .mk x170 z170
def k171_0 : KF := fun c i x r h => (fun (x0 x1 : AV) =>
 tR (o_box 129 (.c x0) .nil h) fun v2 h3 =>
 tR (o_box 129 (.c x1) .nil h3) fun v4 h5 =>
 x (T7 v2 v4) h5) (y0 r) (y1 r)
def x171 : AC := (.shal k171_0 (.seq (.drw [q 0 (o d5 (.fad 0 r2)),
 q 0 (o d6 (.ld1 r5)),
 q 0 (o d7 (.fad 0 r3)),
 q 0 (o d8 (.ld1 r7)),
 w (.o d9 (.call 196 [r6,r8])),
 q 1 (o d10 (.fad 1 r2)),
 q 1 (o d11 (.ld1 r10)),
 q 1 (o d12 (.fad 1 r3)),
 q 1 (o d13 (.ld1 r12)),
 w (.o d14 (.call 196 [r11,r13])),
 w (o d15 (.bslice 3 1 2 [(pi 0),(pi 0)] [.mk 0 1 r9,.mk 1 1 r14])),
 w (.o d16 (.call 195 [r15])),
 q 0 (m d4 r16)]) .ret))
def z171 : List Rs := [.t .h0 .h4]
def f171 : AF := .mk x171 z171
def k172_0 : KF := fun c i x r h => (fun (x0 x1 : AV) =>
 tR (len x1 h) fun v2 h3 =>
 tR (nic x0 h3) fun v4 h5 =>
 tR (fa 0 v4 h5) fun v6 h7 =>
 tR (ld v6 h7) fun v8 h9 =>
 tR (len v8 h9) fun v10 h11 =>
 tR (b_sub (pi 4194304) v10 h11) fun v12 h13 =>
 tR (b_gt v2 v12 h13) fun v14 h15 =>
 ifR v14 (.ret (T12 (pi 13)) h15) (tR (nic x0 h15) fun v16 h17 =>
 tR (fa 0 v16 h17) fun v18 h19 =>
 tR (ld v18 h19) fun v20 h21 =>
 tR (appV 5 1 v20 x1 h21) fun v22 h23 =>
 tR (nic x0 h23) fun v24 h25 =>
 tR (fa 0 v24 h25) fun v26 h27 =>
 tR (sto v26 v22 h27) fun v28 h29 =>
 x (T12 (pi 0)) h29)) (y0 r) (y1 r)
def x172 : AC := (.shal k172_0 .ret)
def z172 : List Rs := [.t .h0 .h4]
def f172 : AF := .mk x172 z172
def k173_0 : KF := fun c i x r h => (fun (x0 : AV) =>
 tR (nic x0 h) fun v1 h2 =>
 tR (fa 0 v1 h2) fun v3 h4 =>
 tR (ld v3 h4) fun v5 h6 =>
 tR (len v5 h6) fun v7 h8 =>
 tR (nic x0 h8) fun v9 h10 =>
 tR (fa 1 v9 h10) fun v11 h12 =>
 tR (sto v11 v7 h12) fun v13 h14 =>
 .nm T26 h14) (y0 r)
def x173 : AC := (.shal k173_0 .skip)
def z173 : List Rs := []
def f173 : AF := .mk x173 z173
def k174_2 : KF := fun c i x r h => (fun (x6 x7 x8 x9 : AV) =>
 tR (b_lt x9 x8 h) fun v10 h11 =>
 ifR v10 (tR (ix 6 x6 x9 h11) fun v12 h13 =>
 tR (o_ldn 6 (.c v12) .nil h13) fun v14 h15 =>
 tT (AV.onFn x7 (fun f l => c f (List.append [v14] l) h15) (.err 202)) fun v16 h17 =>
 ifR v16 (.ret (T12 x9) h17) (tR (b_add x9 (pi 1) h17) fun v18 h19 =>
 .nm (T121 x6 x7 x8 v18) h19)) (.ex 0 (T121 x6 x7 x8 x9) h11)) (y0 r) (y1 r) (y7 r) (y8 r)
def k174_1 : KF := fun c i x r h => (fun (x2 x3 : AV) =>
 tR (len x2 h) fun v4 h5 =>
 x (T121 x2 x3 v4 (pi 0)) h5) (y0 r) (y1 r)
def k174_3 : KF := fun c i x r h => .ret (T12 (ni 0)) h
def k174_0 : KF := fun c i x r h => (fun (x0 x1 : AV) =>
 x (T13 x0 x1) h) (y0 r) (y1 r)
def x174 : AC := (.shal k174_0 (.seq (.shal k174_1 (.block 0 (.loop (.shal k174_2 .skip)))) (.shal k174_3 .skip)))
def z174 : List Rs := [.t .h0 .h4]
def f174 : AF := .mk x174 z174
def k175_0 : KF := fun c i x r h => (fun (x0 x1 : AV) =>
 tR (o_box 127 (.c x0) .nil h) fun v2 h3 =>
 tR (fa 0 v2 h3) fun v4 h5 =>
 tR (o_ldn 3 (.c v4) .nil h5) fun v6 h7 =>
 tR (o_ldn 3 (.c x1) .nil h7) fun v8 h9 =>
 tR (bK (.aeq [.i,.i,.i]) v6 v8 h9) fun v10 h11 =>
 .ret (T86 v10) h11) (y0 r) (y1 r)
def x175 : AC := (.shal k175_0 .skip)
def z175 : List Rs := [.t .h0 .h3]
def f175 : AF := .mk x175 z175
def k176_1 : KF := fun c i x r h => (fun (x11 x12 x13 x14 : AV) =>
 tQ (o_slc 6 (.c x11) .none (.some (.c x12)) .none .nil h) fun v15 =>
 tQ (o_slc 6 (.c x11) (.some (.c x13)) .none .none .nil h) fun v16 =>
 tX (RV.toT (appV 127 6 v15 v16 h)) fun v17 h18 =>
 tR (len v17 h18) fun v19 h20 =>
 tR (o_slc 6 (.c v17) (.some (.c v19)) (.some (.c x14)) .none .nil h20) fun v21 h22 =>
 tR (o_clr [(pi 0),(pi 0),(pi 0),(.bool false),(.str []),(pi 0)] (.c v21) .nil h22) fun v23 h24 =>
 .ret (T32 v17) h24) (y0 r) (y1 r) (y2 r) (y7 r)
def k176_0 : KF := fun c i x r h => (fun (x0 x1 x2 : AV) =>
 tR (len x0 h) fun v3 h4 =>
 tR (o_slc 6 (.c x0) (.some (.c x1)) (.some (.c x2)) (.some (.c v3)) .nil h4) fun v5 h6 =>
 tR (b_eq x1 x2 h6) fun v7 h8 =>
 ifR v7 (.ret (T32 x0) h8) (tR (len x0 h8) fun v9 h10 =>
 x (T42 x0 x1 x2 v9) h10)) (y0 r) (y1 r) (y2 r)
def x176 : AC := (.shal k176_0 (.shal k176_1 .skip))
def z176 : List Rs := [.t .h0 .h6]
def f176 : AF := .mk x176 z176
def k177_0 : KF := fun c i x r h => (fun (x0 : AV) =>
 tR (bK (.isnil .s) x0 .nils h) fun v1 h2 =>
 ifR v1 (.ret (T20 .nils) h2) (tR (o_bslice 127 6 0 [] [] .nil h2) fun v3 h4 =>
 tR (appV 127 6 v3 x0 h4) fun v5 h6 =>
 .ret (T20 v5) h6)) (y0 r)
def x177 : AC := (.shal k177_0 .skip)
def z177 : List Rs := [.t .h0 .h2]
def f177 : AF := .mk x177 z177
def k178_3 : KF := fun c i x r h => (fun (x33 x34 x35 x36 : AV) =>
 tR (b_add x36 (pi 1) h) fun v37 h38 =>
 .nm (T117 x33 x34 x35 v37) h38) (y0 r) (y1 r) (y5 r) (y6 r)
def k178_2 : KF := fun c i x r h => (fun (x11 x12 x13 x14 : AV) =>
 tR (len x11 h) fun v15 h16 =>
 tR (b_lt x14 v15 h16) fun v17 h18 =>
 ifR v17 (tR (ix 1 x11 x14 h18) fun v19 h20 =>
 tR (ld v19 h20) fun v21 h22 =>
 tT (AV.onFn x12 (fun f l => c f (List.append [v21] l) h22) (.err 202)) fun v23 h24 =>
 tR (u_not v23 h24) fun v25 h26 =>
 ifR v25 (tR (ix 1 x11 x13 h26) fun v27 h28 =>
 tR (sto v27 v21 h28) fun v29 h30 =>
 tR (b_add x13 (pi 1) h30) fun v31 h32 =>
 x (T117 x11 x12 v31 x14) h32) (x (T117 x11 x12 x13 x14) h26)) (.ex 0 (T21 x11 x13) h18)) (y0 r) (y1 r) (y5 r) (y6 r)
def k178_1 : KF := fun c i x r h => (fun (x6 x7 x8 : AV) =>
 tR (b_add x8 (pi 1) h) fun v9 h10 =>
 x (T117 x6 x7 x8 v9) h10) (y0 r) (y1 r) (y5 r)
def k178_4 : KF := fun c i x r h => (fun (x39 x40 : AV) =>
 tR (o_slc 1 (.c x39) (.some (.c x40)) .none .none .nil h) fun v41 h42 =>
 tR (o_clr [(pi 0)] (.c v41) .nil h42) fun v43 h44 =>
 tR (o_slc 1 (.c x39) .none (.some (.c x40)) .none .nil h44) fun v45 h46 =>
 .ret (T12 v45) h46) (y0 r) (y5 r)
def k178_0 : KF := fun c i x r h => (fun (x0 x1 : AV) =>
 tT (c 197 [x0,x1] h) fun v2 h3 =>
 tR (b_eq v2 (ni 0) h3) fun v4 h5 =>
 ifR v4 (.ret (T12 x0) h5) (x (T19 x0 x1 v2) h5)) (y0 r) (y1 r)
def x178 : AC := (.shal k178_0 (.seq (.shal k178_1 (.block 0 (.loop (.shal k178_2 (.shal k178_3 .skip))))) (.shal k178_4 .skip)))
def z178 : List Rs := [.t .h0 .h4]
def f178 : AF := .mk x178 z178
def k179_0 : KF := fun c i x r h => (fun (x0 : AV) =>
 tT (c 198 [x0] h) fun v1 h2 =>
 tT (c 199 [v1] h2) fun v3 h4 =>
 .ret (T20 v1) h4) (y0 r)
def x179 : AC := (.shal k179_0 .skip)
def z179 : List Rs := [.t .h0 .h2]
def f179 : AF := .mk x179 z179
def k180_0 : KF := fun c i x r h => (fun (x0 : AV) =>
 tR (o_box 99 (.c x0) .nil h) fun v1 h2 =>
 .ret (T20 (.fn 200 [v1])) h2) (y0 r)
def x180 : AC := (.shal k180_0 .skip)
def z180 : List Rs := [.t .h0 .h2]
def f180 : AF := .mk x180 z180
def k181_0 : KF := fun c i x r h => (fun (x0 x1 : AV) =>
 tR (ld x1 h) fun v2 h3 =>
 tR (nic v2 h3) fun v4 h5 =>
 tR (fa 8 v4 h5) fun v6 h7 =>
 tR (ld v6 h7) fun v8 h9 =>
 tR (lkp (.one .i) .nilp false v8 x0 h9) fun v10 h11 =>
 x (T122 x1 v10) h11) (y0 r) (y1 r)
def x181 : AC := (.shal k181_0 (.seq (.drw [q 0 (m d11 r4),
 q 0 (o d12 (.bin .pne r11 (.c .nilp))),
 q 0 (m d13 r12),
 q 0 (.g .h0 .hd true d14 (.op (.ld1 r1))),
 q 0 (.g .h0 .hd true d15 (.op (.mv r4))),
 q 0 (.g .h0 .hd true d16 (.op (.nilc r15))),
 q 0 (.g .h0 .hd true d17 (.op (.fad 1 r16))),
 q 0 (.g .h0 .hd true d18 (.op (.ld1 r17))),
 q 0 (.g .h0 .hd true d19 (.op (.lenm r18))),
 w (.g .h0 .hd true d20 (.call 168 [r14,r19])),
 q 0 (o d21 (.pick r13 r20 (.c (.bool false)))),
 q 0 (m d3 r21)]) .ret))
def z181 : List Rs := [.t .h0 .h3]
def f181 : AF := .mk x181 z181
def k182_0 : KF := fun c i x r h => (fun (x0 x1 x2 x3 : AV) =>
 tR (o_ldn 2 (.c x1) .nil h) fun v4 h5 =>
 tT (c 104 [x0,v4] h5) fun v6 h7 =>
 tR (ld x2 h7) fun v8 h9 =>
 tT (c 85 [x0,v8] h9) fun v10 h11 =>
 tR (ld x3 h11) fun v12 h13 =>
 tT (c 105 [x0,v12] h13) fun v14 h15 =>
 .nm T26 h15) (y0 r) (y1 r) (y2 r) (y3 r)
def x182 : AC := (.shal k182_0 .skip)
def z182 : List Rs := []
def f182 : AF := .mk x182 z182
def k183_1 : KF := fun c i x r h => (fun (x4 x5 x6 x7 : AV) =>
 ifR x7 (tR (o_ent (.c x6) .nil h) fun v8 h9 =>
 tR (o_ext 0 (.c v8) .nil h9) fun v10 h11 =>
 tR (o_ext 1 (.c v8) .nil h11) fun v12 h13 =>
 tR (o_alloc 138 4 (.k1 (.mk (pi 0) (pi 0) (pi 0) (.str []) .undef .undef .undef .undef .undef .undef .undef .undef .undef .undef .undef .undef)) .nil h13) fun v14 h15 =>
 tR (o_stn 4 (.c v14) (.c v12) .nil h15) fun v16 h17 =>
 tR (o_ldn 4 (.c v14) .nil h17) fun v18 h19 =>
 tT (AV.onFn x5 (fun f l => c f (List.append [v10,v18] l) h19) (.err 202)) fun v20 h21 =>
 ifR v20 (tR (del (.one .i) x4 v10 h21) fun v22 h23 =>
 .nm (T123 x4 x5 x6) h23) (.nm (T123 x4 x5 x6) h21)) (.ex 0 (T123 x4 x5 x6) h)) (y0 r) (y1 r) (y7 r) (y9 r)
def k183_0 : KF := fun c i x r h => (fun (x0 x1 : AV) =>
 tR (o_rngm (.c x0) .nil h) fun v2 h3 =>
 x (T123 x0 x1 v2) h3) (y0 r) (y1 r)
def x183 : AC := (.shal k183_0 (.join (.block 0 (.loop (.seq (.ops [.o d8 (.nxt false r7),
 o d9 (.ext 0 r8)]) (.shal k183_1 .skip))))))
def z183 : List Rs := []
def f183 : AF := .mk x183 z183
def k184_0 : KF := fun c i x r h => (fun (x0 x1 x2 : AV) =>
 tR (o_box 138 (.c x1) .nil h) fun v3 h4 =>
 tR (ld x2 h4) fun v5 h6 =>
 tR (b_lt x0 v5 h6) fun v7 h8 =>
 .ret (T23 v7) h8) (y0 r) (y1 r) (y2 r)
def x184 : AC := (.shal k184_0 .skip)
def z184 : List Rs := [.t .h0 .h5]
def f184 : AF := .mk x184 z184
def k185_1 : KF := fun c i x r h => (fun (x4 x5 x6 x7 : AV) =>
 ifR x7 (tR (o_ent (.c x6) .nil h) fun v8 h9 =>
 tR (o_ext 0 (.c v8) .nil h9) fun v10 h11 =>
 tR (o_ext 1 (.c v8) .nil h11) fun v12 h13 =>
 tT (AV.onFn x5 (fun f l => c f (List.append [v10,v12] l) h13) (.err 202)) fun v14 h15 =>
 ifR v14 (tR (del (.one .i) x4 v10 h15) fun v16 h17 =>
 .nm (T123 x4 x5 x6) h17) (.nm (T123 x4 x5 x6) h15)) (.ex 0 (T123 x4 x5 x6) h)) (y0 r) (y1 r) (y7 r) (y9 r)
def k185_0 : KF := fun c i x r h => (fun (x0 x1 : AV) =>
 tR (o_rngm (.c x0) .nil h) fun v2 h3 =>
 x (T123 x0 x1 v2) h3) (y0 r) (y1 r)
def x185 : AC := (.shal k185_0 (.join (.block 0 (.loop (.seq (.ops [.o d8 (.nxt false r7),
 o d9 (.ext 0 r8)]) (.shal k185_1 .skip))))))
def z185 : List Rs := []
def f185 : AF := .mk x185 z185
def k186_0 : KF := fun c i x r h => (fun (x0 x1 : AV) =>
 tR (ld x1 h) fun v2 h3 =>
 tR (b_lt x0 v2 h3) fun v4 h5 =>
 .ret (T23 v4) h5) (y0 r) (y2 r)
def x186 : AC := (.shal k186_0 .skip)
def z186 : List Rs := [.t .h0 .h5]
def f186 : AF := .mk x186 z186
def k187_4 : KF := fun c i x r h => (fun (x23 x24 x25 x26 x27 : AV) =>
 tR (b_lt x27 (pi 8) h) fun v28 h29 =>
 ifR v28 (tR (b_and x23 (.int .u32 (.ofNat 1)) h29) fun v30 h31 =>
 tR (bK .shr x23 (.int .u64 (.ofNat 1)) h31) fun v32 h33 =>
 tR (b_eq v30 (.int .u32 (.ofNat 1)) h33) fun v34 h35 =>
 ifR v34 (tR (b_xor v32 (.int .u32 (.ofNat 3988292384)) h35) fun v36 h37 =>
 tR (b_add x27 (pi 1) h37) fun v38 h39 =>
 .nm (T125 v36 x24 x25 x26 v38) h39) (tR (b_add x27 (pi 1) h35) fun v40 h41 =>
 .nm (T125 v32 x24 x25 x26 v40) h41)) (.ex 2 (T125 x23 x24 x25 x26 x27) h29)) (y3 r) (y7 r) (y8 r) (y9 r) (y17 r)
def k187_3 : KF := fun c i x r h => (fun (x11 x12 x13 x14 : AV) =>
 tR (ix 1 x12 x14 h) fun v15 h16 =>
 tR (ld v15 h16) fun v17 h18 =>
 tR (cK (.toInt .u32) v17 h18) fun v19 h20 =>
 tR (b_xor x11 v19 h20) fun v21 h22 =>
 x (T125 v21 x12 x13 x14 (pi 0)) h22) (y3 r) (y7 r) (y8 r) (y9 r)
def k187_5 : KF := fun c i x r h => (fun (x42 x43 x44 x45 : AV) =>
 tR (b_add x45 (pi 1) h) fun v46 h47 =>
 .nm (T124 x42 x43 x44 v46) h47) (y3 r) (y7 r) (y8 r) (y9 r)
def k187_2 : KF := fun c i x r h => (fun (x5 x6 x7 x8 : AV) =>
 tR (b_lt x8 x7 h) fun v9 h10 =>
 ifR v9 (x (T124 x5 x6 x7 x8) h10) (.ex 0 (T86 x5) h10)) (y3 r) (y7 r) (y8 r) (y9 r)
def k187_1 : KF := fun c i x r h => (fun (x1 x2 : AV) =>
 tR (len x1 h) fun v3 h4 =>
 x (T124 x2 x1 v3 (pi 0)) h4) (y0 r) (y3 r)
def k187_6 : KF := fun c i x r h => (fun (x48 : AV) =>
 tR (u_com x48 h) fun v49 h50 =>
 .ret (T20 v49) h50) (y3 r)
def k187_0 : KF := fun c i x r h => (fun (x0 : AV) =>
 x (T8 x0 (.int .u32 (.ofNat 4294967295))) h) (y0 r)
def p187 : PK := .crc
def x187 : AC := (.shal k187_0 (.seq (.shal k187_1 (.block 0 (.loop (.shal k187_2 (.seq (.block 1 (.shal k187_3 (.block 2 (.loop (.shal k187_4 .skip))))) (.shal k187_5 .skip)))))) (.shal k187_6 .skip)))
def z187 : List Rs := [.t .h0 .h2]
def f187 : AF := .prim p187 x187 z187
def k188_0 : KF := fun c i x r h => (fun (x0 : AV) =>
 tT (c 119 [x0,(pi 2)] h) fun v1 h2 =>
 tR (cK (.toInt .i64) v1 h2) fun v3 h4 =>
 .ret (T20 v3) h4) (y0 r)
def x188 : AC := (.shal k188_0 .skip)
def z188 : List Rs := [.t .h0 .h2]
def f188 : AF := .mk x188 z188
def k189_0 : KF := fun c i x r h => (fun (x0 x1 x2 : AV) =>
 tR (nic x0 h) fun v3 h4 =>
 tR (fa 2 v3 h4) fun v5 h6 =>
 tR (ld v5 h6) fun v7 h8 =>
 tR (b_eq v7 (pi 0) h8) fun v9 h10 =>
 ifR v9 (tR (nic x0 h10) fun v11 h12 =>
 tR (fa 2 v11 h12) fun v13 h14 =>
 tR (sto v13 x1 h14) fun v15 h16 =>
 tR (nic x0 h16) fun v17 h18 =>
 tR (fa 3 v17 h18) fun v19 h20 =>
 tR (sto v19 x2 h20) fun v21 h22 =>
 .nm T26 h22) (.nm T26 h10)) (y0 r) (y1 r) (y2 r)
def x189 : AC := (.shal k189_0 .skip)
def z189 : List Rs := []
def f189 : AF := .mk x189 z189
def k190_0 : KF := fun c i x r h => (fun (x0 : AV) =>
 tT (c 201 [.nils,x0] h) fun v1 h2 =>
 .ret (T20 v1) h2) (y0 r)
def x190 : AC := (.shal k190_0 .skip)
def z190 : List Rs := [.t .h0 .h2]
def f190 : AF := .mk x190 z190
def k191_0 : KF := fun c i x r h => (fun (x0 x1 : AV) =>
 tR (len x0 h) fun v2 h3 =>
 tR (cK (.toInt .u64) v2 h3) fun v4 h5 =>
 tT (c 203 [v4] h5) fun v6 h7 =>
 tT (c 202 [x0,(pi 0),v2,v6,x1] h7) fun v8 h9 =>
 .nm T26 h9) (y0 r) (y1 r)
def x191 : AC := (.shal k191_0 .skip)
def z191 : List Rs := []
def f191 : AF := .mk x191 z191
def k192_1 : KF := fun c i x r h => (fun (x6 x7 x8 : AV) =>
 ifR x8 (tR (o_ent (.c x7) .nil h) fun v9 h10 =>
 tR (o_ext 0 (.c v9) .nil h10) fun v11 h12 =>
 tR (o_alloc 125 3 (.k1 (.mk (pi 0) (pi 0) (pi 0) .undef .undef .undef .undef .undef .undef .undef .undef .undef .undef .undef .undef .undef)) .nil h12) fun v13 h14 =>
 tR (o_stn 3 (.c v13) (.c v11) .nil h14) fun v15 h16 =>
 tR (o_ldn 3 (.c v13) .nil h16) fun v17 h18 =>
 tT (AV.onFn x6 (fun f l => c f (List.append [v17] l) h18) (.err 202)) fun v19 h20 =>
 tR (u_not v19 h20) fun v21 h22 =>
 ifR v21 (.ret T26 h22) (.nm (T21 x6 x7) h22)) (.ex 0 (T21 x6 x7) h)) (y0 r) (y5 r) (y7 r)
def k192_0 : KF := fun c i x r h => (fun (x0 x1 : AV) =>
 tR (ld x1 h) fun v2 h3 =>
 tR (o_rngm (.c v2) .nil h3) fun v4 h5 =>
 x (T21 x0 v4) h5) (y0 r) (y1 r)
def x192 : AC := (.shal k192_0 (.join (.block 0 (.loop (.seq (.ops [.o d6 (.nxt false r5),
 o d7 (.ext 0 r6)]) (.shal k192_1 .skip))))))
def z192 : List Rs := []
def f192 : AF := .mk x192 z192
def k193_0 : KF := fun c i x r h => (fun (x0 x1 : AV) =>
 tR (cK (.toInt .u64) x1 h) fun v2 h3 =>
 tT (c 140 [x0,v2,(pi 2)] h3) fun v4 h5 =>
 .nm T26 h5) (y0 r) (y1 r)
def x193 : AC := (.shal k193_0 .skip)
def z193 : List Rs := []
def f193 : AF := .mk x193 z193
def k194_0 : KF := fun c i x r h => (fun (x0 : AV) =>
 tR (nic x0 h) fun v1 h2 =>
 tR (fa 2 v1 h2) fun v3 h4 =>
 tR (ld v3 h4) fun v5 h6 =>
 tR (b_ne v5 (pi 0) h6) fun v7 h8 =>
 ifR v7 (.ret (T20 (pi 0)) h8) (tQ (nic x0 h8) fun v9 =>
 tQ (fa 0 v9 h8) fun v10 =>
 tQ (ld v10 h8) fun v11 =>
 tQ (len v11 h8) fun v12 =>
 tQ (nic x0 h8) fun v13 =>
 tQ (fa 1 v13 h8) fun v14 =>
 tQ (ld v14 h8) fun v15 =>
 tQ (b_sub v12 v15 h8) fun v16 =>
 .ret (T20 v16) h8)) (y0 r)
def x194 : AC := (.shal k194_0 .skip)
def z194 : List Rs := [.t .h0 .h2]
def f194 : AF := .mk x194 z194
def k195_2 : KF := fun c i x r h => (fun (x5 x6 x7 x8 : AV) =>
 tR (b_lt x8 x7 h) fun v9 h10 =>
 ifR v9 (tR (ix 1 x6 x8 h10) fun v11 h12 =>
 tR (ld v11 h12) fun v13 h14 =>
 tR (b_ne v13 x5 h14) fun v15 h16 =>
 ifR v15 (.ret (T20 v13) h16) (tR (b_add x8 (pi 1) h16) fun v17 h18 =>
 .nm (T126 x5 x6 x7 v17) h18)) (.ex 0 (T126 x5 x6 x7 x8) h10)) (y3 r) (y6 r) (y7 r) (y8 r)
def k195_1 : KF := fun c i x r h => (fun (x1 x2 : AV) =>
 tR (len x1 h) fun v3 h4 =>
 x (T126 x2 x1 v3 (pi 0)) h4) (y0 r) (y3 r)
def k195_3 : KF := fun c i x r h => (fun (x19 : AV) =>
 .ret (T20 x19) h) (y3 r)
def k195_0 : KF := fun c i x r h => (fun (x0 : AV) =>
 x (T8 x0 (pi 0)) h) (y0 r)
def x195 : AC := (.shal k195_0 (.seq (.shal k195_1 (.block 0 (.loop (.shal k195_2 .skip)))) (.shal k195_3 .skip)))
def z195 : List Rs := [.t .h0 .h2]
def f195 : AF := .mk x195 z195
def k196_1 : KF := fun c i x r h => (fun (x6 x7 : AV) =>
 tR (b_lt x6 x7 h) fun v8 h9 =>
 ifR v8 (.ret (T12 (ni 0)) h9) (tR (b_gt x6 x7 h9) fun v10 h11 =>
 ifR v10 (.ret (T12 (pi 1)) h11) (.ret (T12 (pi 0)) h11))) (y0 r) (y1 r)
def k196_0 : KF := fun c i x r h => (fun (x0 x1 : AV) =>
 tT (c 204 [x0] h) fun v2 h3 =>
 tT (c 204 [x1] h3) fun v4 h5 =>
 ifR v2 (ifR v4 (.ret (T12 (pi 0)) h5) (.ret (T12 (ni 0)) h5)) (ifR v4 (.ret (T12 (pi 1)) h5) (x (T13 x0 x1) h5))) (y0 r) (y1 r)
def x196 : AC := (.shal k196_0 (.shal k196_1 .skip))
def z196 : List Rs := [.t .h0 .h4]
def f196 : AF := .mk x196 z196
def k197_2 : KF := fun c i x r h => (fun (x6 x7 x8 x9 : AV) =>
 tR (b_lt x9 x8 h) fun v10 h11 =>
 ifR v10 (tR (ix 1 x6 x9 h11) fun v12 h13 =>
 tR (ld v12 h13) fun v14 h15 =>
 tT (AV.onFn x7 (fun f l => c f (List.append [v14] l) h15) (.err 202)) fun v16 h17 =>
 ifR v16 (.ret (T12 x9) h17) (tR (b_add x9 (pi 1) h17) fun v18 h19 =>
 .nm (T121 x6 x7 x8 v18) h19)) (.ex 0 (T121 x6 x7 x8 x9) h11)) (y0 r) (y1 r) (y7 r) (y8 r)
def k197_1 : KF := fun c i x r h => (fun (x2 x3 : AV) =>
 tR (len x2 h) fun v4 h5 =>
 x (T121 x2 x3 v4 (pi 0)) h5) (y0 r) (y1 r)
def k197_3 : KF := fun c i x r h => .ret (T12 (ni 0)) h
def k197_0 : KF := fun c i x r h => (fun (x0 x1 : AV) =>
 x (T13 x0 x1) h) (y0 r) (y1 r)
def x197 : AC := (.shal k197_0 (.seq (.shal k197_1 (.block 0 (.loop (.shal k197_2 .skip)))) (.shal k197_3 .skip)))
def z197 : List Rs := [.t .h0 .h4]
def f197 : AF := .mk x197 z197
def k198_0 : KF := fun c i x r h => (fun (x0 : AV) =>
 tT (c 205 [.nils,x0] h) fun v1 h2 =>
 .ret (T20 v1) h2) (y0 r)
def x198 : AC := (.shal k198_0 .skip)
def z198 : List Rs := [.t .h0 .h2]
def f198 : AF := .mk x198 z198
def k199_0 : KF := fun c i x r h => (fun (x0 : AV) =>
 tR (len x0 h) fun v1 h2 =>
 tR (cK (.toInt .u64) v1 h2) fun v3 h4 =>
 tT (c 203 [v3] h4) fun v5 h6 =>
 tT (c 206 [x0,(pi 0),v1,v5] h6) fun v7 h8 =>
 .nm T26 h8) (y0 r)
def x199 : AC := (.shal k199_0 .skip)
def z199 : List Rs := []
def f199 : AF := .mk x199 z199
def k200_1 : KF := fun c i x r h => (fun (x6 x7 x8 : AV) =>
 ifR x8 (tR (o_ent (.c x7) .nil h) fun v9 h10 =>
 tR (o_ext 0 (.c v9) .nil h10) fun v11 h12 =>
 tT (AV.onFn x6 (fun f l => c f (List.append [v11] l) h12) (.err 202)) fun v13 h14 =>
 tR (u_not v13 h14) fun v15 h16 =>
 ifR v15 (.ret T26 h16) (.nm (T21 x6 x7) h16)) (.ex 0 (T21 x6 x7) h)) (y0 r) (y5 r) (y7 r)
def k200_0 : KF := fun c i x r h => (fun (x0 x1 : AV) =>
 tR (ld x1 h) fun v2 h3 =>
 tR (o_rngm (.c v2) .nil h3) fun v4 h5 =>
 x (T21 x0 v4) h5) (y0 r) (y1 r)
def x200 : AC := (.shal k200_0 (.join (.block 0 (.loop (.seq (.ops [.o d6 (.nxt false r5),
 o d7 (.ext 0 r6)]) (.shal k200_1 .skip))))))
def z200 : List Rs := []
def f200 : AF := .mk x200 z200
def k201_1 : KF := fun c i x r h => (fun (x4 : AV) =>
 x T26 h) (y1 r)
def k201_2 : KF := fun c i x r h => (fun (x5 : AV) =>
 tR (ld x5 h) fun v6 h7 =>
 .ret (T12 v6) h7) (y2 r)
def k201_0 : KF := fun c i x r h => (fun (x0 x1 : AV) =>
 tR (o_box 202 (.c x0) .nil h) fun v2 h3 =>
 x (T17 x1) h3) (y0 r) (y1 r)
def p201_0 : List GI := [o d2 (.box 202 r0),m d4 (.c .nils)]
def p201_1 : List GI := [m d6 r1]
def p201_2 : List GI := [o d4 (.ld1 r1),o d5 (.rngm r4)]
def p201_3 : List GI := [.o d6 (.nxt false r5),o d7 (.ext 0 r6)]
def p201_4 : List GI := [o d8 (.ent r5),o d9 (.ext 0 r8),o d3 (.alloc 125 3 (.k1 (.mk (pi 0) (pi 0) (pi 0) .undef .undef .undef .undef .undef .undef .undef .undef .undef .undef .undef .undef .undef))),o .no (.stn 3 r3 r9)]
def p201_5 : List GI := [o d11 (.ldn 3 r3)]
def p201_6 : List GI := [o d5 (.alloc 125 3 (.k1 (.mk (pi 0) (pi 0) (pi 0) .undef .undef .undef .undef .undef .undef .undef .undef .undef .undef .undef .undef .undef))),o .no (.stn 3 r5 r7)]
def p201_7 : List GI := [o d8 (.ld1 r2),o d9 (.ldn 3 r5),o d10 (.bslice 125 3 1 [(pi 0),(pi 0),(pi 0)] [.mk 0 3 r9]),o d11 (.app 125 3 r8 r10),o .no (.st1 r2 r11)]
def p201_8 : List GI := [o d12 (.ld1 r2),m d4 r12]
def p201 : PK := (.coll 192 p201_0 p201_1 p201_2 p201_3 p201_4 p201_5 p201_6 p201_7 p201_8)
def x201 : AC := (.shal k201_0 (.seq (.shal k201_1 (.block 0 (.bad 402))) (.shal k201_2 .skip)))
def z201 : List Rs := [.t .h0 .h4]
def f201 : AF := .prim p201 x201 z201
def k202_5 : KF := fun c i x r h => (fun (x70 x71 x72 x73 x74 x75 x76 x77 x78 x79 : AV) =>
 ifR x79 (tT (c 212 [x70,x71,x72,x74] h) fun v80 h81 =>
 ifR v80 (.ret T26 h81) (.nm (T130 x70 x71 x72 x73 x74 x75 x76 x77 x78) h81)) (.nm (T130 x70 x71 x72 x73 x74 x75 x76 x77 x78) h)) (y0 r) (y1 r) (y2 r) (y3 r) (y4 r) (y10 r) (y11 r) (y12 r) (y13 r) (y75 r)
def k202_6 : KF := fun c i x r h => (fun (x82 x83 x84 x85 x86 x87 x88 x89 x90 x91 : AV) =>
 ifR x91 (tT (c 213 [x82,x83,x84,x90,x86] h) fun v92 h93 =>
 .ex 1 (T130 x82 v92 x84 x85 x86 x87 x88 x89 x90) h93) (.nm (T130 x82 x83 x84 x85 x86 x87 x88 x89 x90) h)) (y0 r) (y1 r) (y2 r) (y3 r) (y4 r) (y10 r) (y11 r) (y12 r) (y13 r) (y97 r)
def k202_9 : KF := fun c i x r h => (fun (x125 x126 x127 x128 x129 x130 x131 x132 x133 x134 x135 : AV) =>
 ifR x135 (tR (b_ge x132 x134 h) fun v136 h137 =>
 tT (c 202 [x125,x126,x131,x128,x129] h137) fun v138 h139 =>
 tR (b_add x131 (pi 1) h139) fun v140 h141 =>
 .nm (T127 x125 v140 x127 x128 x129 v136 x130) h141) (tR (b_ge x133 x134 h) fun v142 h143 =>
 tR (b_add x131 (pi 1) h143) fun v144 h145 =>
 tT (c 202 [x125,v144,x127,x128,x129] h145) fun v146 h147 =>
 .nm (T127 x125 x126 x131 x128 x129 v142 x130) h147)) (y0 r) (y1 r) (y2 r) (y3 r) (y4 r) (y11 r) (y16 r) (y18 r) (y19 r) (y20 r) (y125 r)
def k202_8 : KF := fun c i x r h => (fun (x113 x114 x115 x116 x117 x118 x119 x120 x121 x122 : AV) =>
 tR (b_lt x120 x121 h) fun v123 h124 =>
 x (T132 x113 x114 x115 x116 x117 x118 x119 x120 x121 x122 v123) h124) (y0 r) (y1 r) (y2 r) (y3 r) (y4 r) (y11 r) (y16 r) (y18 r) (y19 r) (y20 r)
def k202_7 : KF := fun c i x r h => (fun (x94 x95 x96 x97 x98 x99 x100 : AV) =>
 tT (c 214 [x94,x95,x96,x100,x98] h) fun v101 h102 =>
 tR (o_ext 0 (.c v101) .nil h102) fun v103 h104 =>
 tR (o_ext 1 (.c v101) .nil h104) fun v105 h106 =>
 tR (b_sub v103 x95 h106) fun v107 h108 =>
 tR (b_sub x96 v103 h108) fun v109 h110 =>
 tR (b_quo x99 (pi 8) h110) fun v111 h112 =>
 x (T131 x94 x95 x96 x97 x98 v105 v103 v107 v109 v111) h112) (y0 r) (y1 r) (y2 r) (y3 r) (y4 r) (y12 r) (y13 r)
def k202_4 : KF := fun c i x r h => (fun (x50 x51 x52 x53 x54 x55 x56 x57 x58 x59 : AV) =>
 tR (b_eq x59 (pi 2) h) fun v60 h61 =>
 ifR v60 (tT (c 211 [x50,x51,x52,x54] h61) fun v62 h63 =>
 tR (b_sub x52 (pi 1) h63) fun v64 h65 =>
 tR (b_sub x58 x51 h65) fun v66 h67 =>
 tR (b_sub v64 v66 h67) fun v68 h69 =>
 x (T129 x50 x51 x52 x53 x54 x55 x56 x57 v68 (pi 1)) h69) (x (T129 x50 x51 x52 x53 x54 x55 x56 x57 x58 x59) h61)) (y0 r) (y1 r) (y2 r) (y3 r) (y4 r) (y10 r) (y11 r) (y12 r) (y13 r) (y14 r)
def k202_3 : KF := fun c i x r h => (fun (x36 x37 x38 x39 x40 x41 x42 x43 : AV) =>
 tT (c 210 [x36,x37,x38,x40] h) fun v44 h45 =>
 tR (o_ext 0 (.c v44) .nil h45) fun v46 h47 =>
 tR (o_ext 1 (.c v44) .nil h47) fun v48 h49 =>
 x (T129 x36 x37 x38 x39 x40 x41 x42 x43 v46 v48) h49) (y0 r) (y1 r) (y2 r) (y3 r) (y4 r) (y10 r) (y11 r) (y12 r)
def k202_2 : KF := fun c i x r h => (fun (x22 x23 x24 x25 x26 x27 x28 x29 : AV) =>
 tR (u_not x27 h) fun v30 h31 =>
 ifR v30 (tT (c 209 [x22,x23,x24,x26] h31) fun v32 h33 =>
 tR (b_sub x25 (pi 1) h33) fun v34 h35 =>
 x (T128 x22 x23 x24 v34 x26 x27 x28 x29) h35) (x (T128 x22 x23 x24 x25 x26 x27 x28 x29) h31)) (y0 r) (y1 r) (y2 r) (y3 r) (y4 r) (y10 r) (y11 r) (y12 r)
def k202_1 : KF := fun c i x r h => (fun (x5 x6 x7 x8 x9 x10 x11 : AV) =>
 tR (b_sub x7 x6 h) fun v12 h13 =>
 tR (b_le v12 (pi 12) h13) fun v14 h15 =>
 ifR v14 (tT (c 207 [x5,x6,x7,x9] h15) fun v16 h17 =>
 .ret T26 h17) (tR (b_eq x8 (pi 0) h15) fun v18 h19 =>
 ifR v18 (tT (c 208 [x5,x6,x7,x9] h19) fun v20 h21 =>
 .ret T26 h21) (x (T128 x5 x6 x7 x8 x9 x10 x11 v12) h19))) (y0 r) (y1 r) (y2 r) (y3 r) (y4 r) (y10 r) (y11 r)
def k202_0 : KF := fun c i x r h => (fun (x0 x1 x2 x3 x4 : AV) =>
 x (T127 x0 x1 x2 x3 x4 (.bool true) (.bool true)) h) (y0 r) (y1 r) (y2 r) (y3 r) (y4 r)
def x202 : AC := (.shal k202_0 (.block 0 (.loop (.block 1 (.shal k202_1 (.shal k202_2 (.shal k202_3 (.shal k202_4 (.seq (.seq (.ops [m d68 r10,
 m d69 r68,
 .g .h4 .h5 true d70 (.op (.mv r11)),
 o d71 (.pick r69 r70 (.c (.bool false))),
 m d72 r71,
 .g .h4 .h8 true d73 (.op (.mv r14)),
 .g .h4 .h8 true d74 (.op (.bin .eq r73 (.c (pi 1)))),
 o d75 (.pick r72 r74 (.c (.bool false)))]) (.shal k202_5 .skip)) (.seq (.seq (.drw [q 0 (m d81 r1),
 q 0 (o d82 (.bin .gt r81 (.c (pi 0)))),
 q 0 (m d83 r82),
 q 0 (.g .h5 .h3 true d84 (.op (.mv r4))),
 q 0 (.g .h5 .h3 true d85 (.op (.mv r0))),
 q 0 (.g .h5 .h3 true d86 (.op (.mv r1))),
 q 0 (.g .h5 .h3 true d87 (.op (.bin .sub r86 (.c (pi 1))))),
 q 0 (.g .h5 .h3 true d88 (.op (.ixs 3 r85 r87))),
 q 0 (.g .h5 .h3 true d89 (.op (.ldn 3 r88))),
 q 0 (.g .h5 .h3 true d90 (.op (.mv r0))),
 q 0 (.g .h5 .h3 true d91 (.op (.mv r13))),
 q 0 (.g .h5 .h3 true d92 (.op (.ixs 3 r90 r91))),
 q 0 (.g .h5 .h3 true d93 (.op (.ldn 3 r92))),
 w (.g .h5 .h3 true d94 (.calld r84 [r89,r93])),
 q 0 (.g .h5 .h3 true d95 (.op (.bin .lt r94 (.c (pi 0))))),
 q 0 (.g .h5 .h3 true d96 (.op (.un .not r95))),
 q 0 (o d97 (.pick r83 r96 (.c (.bool false))))]) (.shal k202_6 .skip)) (.shal k202_7 (.shal k202_8 (.shal k202_9 .skip)))))))))))))
def z202 : List Rs := []
def f202 : AF := .mk x202 z202
def k203_0 : KF := fun c i x r h => (fun (x0 : AV) =>
 ifR (.bool false) (tR (cK (.toInt .u32) x0 h) fun v1 h2 =>
 tT (c 215 [v1] h2) fun v3 h4 =>
 .ret (T20 v3) h4) (tT (c 216 [x0] h) fun v5 h6 =>
 .ret (T20 v5) h6)) (y0 r)
def x203 : AC := (.shal k203_0 .skip)
def z203 : List Rs := [.t .h0 .h2]
def f203 : AF := .mk x203 z203
def k204_0 : KF := fun c i x r h => (fun (x0 : AV) =>
 tR (b_ne x0 x0 h) fun v1 h2 =>
 .ret (T20 v1) h2) (y0 r)
def x204 : AC := (.shal k204_0 .skip)
def z204 : List Rs := [.t .h0 .h2]
def f204 : AF := .mk x204 z204
def k205_1 : KF := fun c i x r h => (fun (x4 : AV) =>
 x T26 h) (y1 r)
def k205_2 : KF := fun c i x r h => (fun (x5 : AV) =>
 tR (ld x5 h) fun v6 h7 =>
 .ret (T12 v6) h7) (y2 r)
def k205_0 : KF := fun c i x r h => (fun (x0 x1 : AV) =>
 tR (o_box 34 (.c x0) .nil h) fun v2 h3 =>
 x (T17 x1) h3) (y0 r) (y1 r)
def p205_0 : List GI := [o d2 (.box 34 r0),m d4 (.c .nils)]
def p205_1 : List GI := [m d6 r1]
def p205_2 : List GI := [o d4 (.ld1 r1),o d5 (.rngm r4)]
def p205_3 : List GI := [.o d6 (.nxt false r5),o d7 (.ext 0 r6)]
def p205_4 : List GI := [o d8 (.ent r5),o d9 (.ext 0 r8),m d3 r9]
def p205_5 : List GI := [m d11 r3]
def p205_6 : List GI := [m d5 r7]
def p205_7 : List GI := [o d8 (.ld1 r2),m d9 r5,o d10 (.bslice 3 1 1 [(pi 0)] [.mk 0 1 r9]),o d11 (.app 3 1 r8 r10),o .no (.st1 r2 r11)]
def p205_8 : List GI := [o d12 (.ld1 r2),m d4 r12]
def p205 : PK := (.coll 200 p205_0 p205_1 p205_2 p205_3 p205_4 p205_5 p205_6 p205_7 p205_8)
def x205 : AC := (.shal k205_0 (.seq (.shal k205_1 (.block 0 (.bad 402))) (.shal k205_2 .skip)))
def z205 : List Rs := [.t .h0 .h4]
def f205 : AF := .prim p205 x205 z205
def k206_4 : KF := fun c i x r h => (fun (x56 x57 x58 x59 x60 x61 x62 x63 x64 : AV) =>
 ifR x64 (tT (c 222 [x56,x57,x58] h) fun v65 h66 =>
 ifR v65 (.ret T26 h66) (.nm (T136 x56 x57 x58 x59 x60 x61 x62 x63) h66)) (.nm (T136 x56 x57 x58 x59 x60 x61 x62 x63) h)) (y0 r) (y1 r) (y2 r) (y3 r) (y8 r) (y9 r) (y10 r) (y11 r) (y68 r)
def k206_5 : KF := fun c i x r h => (fun (x67 x68 x69 x70 x71 x72 x73 x74 x75 : AV) =>
 ifR x75 (tT (c 224 [x67,x68,x69,x74] h) fun v76 h77 =>
 .ex 1 (T136 x67 v76 x69 x70 x71 x72 x73 x74) h77) (.nm (T136 x67 x68 x69 x70 x71 x72 x73 x74) h)) (y0 r) (y1 r) (y2 r) (y3 r) (y8 r) (y9 r) (y10 r) (y11 r) (y87 r)
def k206_8 : KF := fun c i x r h => (fun (x107 x108 x109 x110 x111 x112 x113 x114 x115 x116 : AV) =>
 ifR x116 (tR (b_ge x113 x115 h) fun v117 h118 =>
 tT (c 206 [x107,x108,x112,x110] h118) fun v119 h120 =>
 tR (b_add x112 (pi 1) h120) fun v121 h122 =>
 .nm (T133 x107 v121 x109 x110 v117 x111) h122) (tR (b_ge x114 x115 h) fun v123 h124 =>
 tR (b_add x112 (pi 1) h124) fun v125 h126 =>
 tT (c 206 [x107,v125,x109,x110] h126) fun v127 h128 =>
 .nm (T133 x107 x108 x112 x110 v123 x111) h128)) (y0 r) (y1 r) (y2 r) (y3 r) (y9 r) (y14 r) (y16 r) (y17 r) (y18 r) (y113 r)
def k206_7 : KF := fun c i x r h => (fun (x96 x97 x98 x99 x100 x101 x102 x103 x104 : AV) =>
 tR (b_lt x102 x103 h) fun v105 h106 =>
 x (T138 x96 x97 x98 x99 x100 x101 x102 x103 x104 v105) h106) (y0 r) (y1 r) (y2 r) (y3 r) (y9 r) (y14 r) (y16 r) (y17 r) (y18 r)
def k206_6 : KF := fun c i x r h => (fun (x78 x79 x80 x81 x82 x83 : AV) =>
 tT (c 225 [x78,x79,x80,x83] h) fun v84 h85 =>
 tR (o_ext 0 (.c v84) .nil h85) fun v86 h87 =>
 tR (o_ext 1 (.c v84) .nil h87) fun v88 h89 =>
 tR (b_sub v86 x79 h89) fun v90 h91 =>
 tR (b_sub x80 v86 h91) fun v92 h93 =>
 tR (b_quo x82 (pi 8) h93) fun v94 h95 =>
 x (T137 x78 x79 x80 x81 v88 v86 v90 v92 v94) h95) (y0 r) (y1 r) (y2 r) (y3 r) (y10 r) (y11 r)
def k206_3 : KF := fun c i x r h => (fun (x33 x34 x35 x36 x37 x38 x39 : AV) =>
 tT (c 220 [x33,x34,x35] h) fun v40 h41 =>
 tR (o_ext 0 (.c v40) .nil h41) fun v42 h43 =>
 tR (o_ext 1 (.c v40) .nil h43) fun v44 h45 =>
 tR (b_eq v44 (pi 2) h45) fun v46 h47 =>
 ifR v46 (tT (c 221 [x33,x34,x35] h47) fun v48 h49 =>
 tR (b_sub x35 (pi 1) h49) fun v50 h51 =>
 tR (b_sub v42 x34 h51) fun v52 h53 =>
 tR (b_sub v50 v52 h53) fun v54 h55 =>
 x (T135 x33 x34 x35 x36 x37 x38 x39 v54 (pi 1)) h55) (x (T135 x33 x34 x35 x36 x37 x38 x39 v42 v44) h47)) (y0 r) (y1 r) (y2 r) (y3 r) (y8 r) (y9 r) (y10 r)
def k206_2 : KF := fun c i x r h => (fun (x20 x21 x22 x23 x24 x25 x26 : AV) =>
 tR (u_not x24 h) fun v27 h28 =>
 ifR v27 (tT (c 219 [x20,x21,x22] h28) fun v29 h30 =>
 tR (b_sub x23 (pi 1) h30) fun v31 h32 =>
 x (T134 x20 x21 x22 v31 x24 x25 x26) h32) (x (T134 x20 x21 x22 x23 x24 x25 x26) h28)) (y0 r) (y1 r) (y2 r) (y3 r) (y8 r) (y9 r) (y10 r)
def k206_1 : KF := fun c i x r h => (fun (x4 x5 x6 x7 x8 x9 : AV) =>
 tR (b_sub x6 x5 h) fun v10 h11 =>
 tR (b_le v10 (pi 12) h11) fun v12 h13 =>
 ifR v12 (tT (c 217 [x4,x5,x6] h13) fun v14 h15 =>
 .ret T26 h15) (tR (b_eq x7 (pi 0) h13) fun v16 h17 =>
 ifR v16 (tT (c 218 [x4,x5,x6] h17) fun v18 h19 =>
 .ret T26 h19) (x (T134 x4 x5 x6 x7 x8 x9 v10) h17))) (y0 r) (y1 r) (y2 r) (y3 r) (y8 r) (y9 r)
def k206_0 : KF := fun c i x r h => (fun (x0 x1 x2 x3 : AV) =>
 x (T133 x0 x1 x2 x3 (.bool true) (.bool true)) h) (y0 r) (y1 r) (y2 r) (y3 r)
def x206 : AC := (.shal k206_0 (.block 0 (.loop (.block 1 (.shal k206_1 (.shal k206_2 (.shal k206_3 (.seq (.seq (.ops [m d61 r8,
 m d62 r61,
 .g .h3 .he true d63 (.op (.mv r9)),
 o d64 (.pick r62 r63 (.c (.bool false))),
 m d65 r64,
 .g .h4 .h1 true d66 (.op (.mv r12)),
 .g .h4 .h1 true d67 (.op (.bin .eq r66 (.c (pi 1)))),
 o d68 (.pick r65 r67 (.c (.bool false)))]) (.shal k206_4 .skip)) (.seq (.seq (.drw [q 0 (m d73 r1),
 q 0 (o d74 (.bin .gt r73 (.c (pi 0)))),
 q 0 (m d75 r74),
 q 0 (.g .h4 .hb true d76 (.op (.mv r0))),
 q 0 (.g .h4 .hb true d77 (.op (.mv r1))),
 q 0 (.g .h4 .hb true d78 (.op (.bin .sub r77 (.c (pi 1))))),
 q 0 (.g .h4 .hb true d79 (.op (.ixs 1 r76 r78))),
 q 0 (.g .h4 .hb true d80 (.op (.ld1 r79))),
 q 0 (.g .h4 .hb true d81 (.op (.mv r0))),
 q 0 (.g .h4 .hb true d82 (.op (.mv r11))),
 q 0 (.g .h4 .hb true d83 (.op (.ixs 1 r81 r82))),
 q 0 (.g .h4 .hb true d84 (.op (.ld1 r83))),
 w (.g .h4 .hb true d85 (.call 223 [r80,r84])),
 q 0 (.g .h4 .hb true d86 (.op (.un .not r85))),
 q 0 (o d87 (.pick r75 r86 (.c (.bool false))))]) (.shal k206_5 .skip)) (.shal k206_6 (.shal k206_7 (.shal k206_8 .skip))))))))))))
def z206 : List Rs := []
def f206 : AF := .mk x206 z206
def k207_3 : KF := fun c i x r h => (fun (x18 x19 x20 x21 x22 x23 x24 : AV) =>
 ifR x24 (.nm (T133 x18 x19 x20 x21 x22 x23) h) (.ex 2 (T133 x18 x19 x20 x21 x22 x23) h)) (y0 r) (y1 r) (y2 r) (y3 r) (y8 r) (y9 r) (y34 r)
def k207_4 : KF := fun c i x r h => (fun (x25 x26 x27 x28 x29 x30 : AV) =>
 tR (b_sub x30 (pi 1) h) fun v31 h32 =>
 .nm (T133 x25 x26 x27 x28 x29 v31) h32) (y0 r) (y1 r) (y2 r) (y3 r) (y8 r) (y9 r)
def k207_2 : KF := fun c i x r h => (fun (x13 x14 x15 x16 x17 : AV) =>
 x (T133 x13 x14 x15 x16 x17 x17) h) (y0 r) (y1 r) (y2 r) (y3 r) (y8 r)
def k207_5 : KF := fun c i x r h => (fun (x33 x34 x35 x36 x37 : AV) =>
 tR (b_add x37 (pi 1) h) fun v38 h39 =>
 .nm (T139 x33 x34 x35 x36 v38) h39) (y0 r) (y1 r) (y2 r) (y3 r) (y8 r)
def k207_1 : KF := fun c i x r h => (fun (x6 x7 x8 x9 x10 : AV) =>
 tR (b_lt x10 x8 h) fun v11 h12 =>
 ifR v11 (x (T139 x6 x7 x8 x9 x10) h12) (.ex 0 T26 h12)) (y0 r) (y1 r) (y2 r) (y3 r) (y8 r)
def k207_0 : KF := fun c i x r h => (fun (x0 x1 x2 x3 : AV) =>
 tR (b_add x1 (pi 1) h) fun v4 h5 =>
 x (T139 x0 x1 x2 x3 v4) h5) (y0 r) (y1 r) (y2 r) (y3 r)
def x207 : AC := (.shal k207_0 (.block 0 (.loop (.shal k207_1 (.seq (.block 1 (.shal k207_2 (.block 2 (.loop (.seq (.seq (.drw [q 0 (m d18 r9),
 q 0 (m d19 r1),
 q 0 (o d20 (.bin .gt r18 r19)),
 q 0 (m d21 r20),
 q 0 (.g .h1 .h5 true d22 (.op (.mv r3))),
 q 0 (.g .h1 .h5 true d23 (.op (.mv r0))),
 q 0 (.g .h1 .h5 true d24 (.op (.mv r9))),
 q 0 (.g .h1 .h5 true d25 (.op (.ixs 3 r23 r24))),
 q 0 (.g .h1 .h5 true d26 (.op (.ldn 3 r25))),
 q 0 (.g .h1 .h5 true d27 (.op (.mv r0))),
 q 0 (.g .h1 .h5 true d28 (.op (.mv r9))),
 q 0 (.g .h1 .h5 true d29 (.op (.bin .sub r28 (.c (pi 1))))),
 q 0 (.g .h1 .h5 true d30 (.op (.ixs 3 r27 r29))),
 q 0 (.g .h1 .h5 true d31 (.op (.ldn 3 r30))),
 w (.g .h1 .h5 true d32 (.calld r22 [r26,r31])),
 q 0 (.g .h1 .h5 true d33 (.op (.bin .lt r32 (.c (pi 0))))),
 q 0 (o d34 (.pick r21 r33 (.c (.bool false))))]) (.shal k207_3 .skip)) (.seq (.block 3 (.drw [q 0 (m d37 r0),
 q 0 (m d38 r9),
 q 0 (m d42 r0),
 q 0 (m d43 r9),
 q 0 (o d44 (.bin .sub r43 (.c (pi 1)))),
 q 0 (o d45 (.ixs 3 r42 r44)),
 q 0 (o d46 (.ldn 3 r45)),
 q 0 (m d47 r0),
 q 0 (m d48 r9),
 q 0 (o d49 (.ixs 3 r47 r48)),
 q 0 (o d50 (.ldn 3 r49)),
 q 0 (o d51 (.ixs 3 r37 r38)),
 w (o .no (.stn 3 r51 r46)),
 q 1 (m d39 r0),
 q 1 (m d40 r9),
 q 1 (o d41 (.bin .sub r40 (.c (pi 1)))),
 q 0 (o d52 (.ixs 3 r39 r41)),
 w (o .no (.stn 3 r52 r50))])) (.shal k207_4 .skip))))))) (.shal k207_5 .skip))))))
def z207 : List Rs := []
def f207 : AF := .mk x207 z207
def k208_2 : KF := fun c i x r h => (fun (x15 x16 x17 x18 x19 x20 : AV) =>
 tR (b_ge x20 (pi 0) h) fun v21 h22 =>
 ifR v21 (tT (c 226 [x15,x20,x19,x17,x16] h22) fun v23 h24 =>
 tR (b_sub x20 (pi 1) h24) fun v25 h26 =>
 .nm (T141 x15 x16 x17 x18 x19 v25) h26) (.ex 0 (T141 x15 x16 x17 x18 x19 x20) h22)) (y0 r) (y3 r) (y8 r) (y9 r) (y10 r) (y11 r)
def k208_1 : KF := fun c i x r h => (fun (x6 x7 x8 x9 x10 : AV) =>
 tR (b_sub x10 (pi 1) h) fun v11 h12 =>
 tR (b_quo v11 (pi 2) h12) fun v13 h14 =>
 x (T141 x6 x7 x8 x9 x10 v13) h14) (y0 r) (y3 r) (y8 r) (y9 r) (y10 r)
def k208_5 : KF := fun c i x r h => (fun (x41 x42 x43 x44 x45 : AV) =>
 tT (c 226 [x41,x44,x45,x43,x42] h) fun v46 h47 =>
 .nm (T142 x41 x42 x43 x44 x45) h47) (y0 r) (y3 r) (y8 r) (y9 r) (y12 r)
def k208_6 : KF := fun c i x r h => (fun (x48 x49 x50 x51 x52 : AV) =>
 tR (b_sub x52 (pi 1) h) fun v53 h54 =>
 .nm (T142 x48 x49 x50 x51 v53) h54) (y0 r) (y3 r) (y8 r) (y9 r) (y12 r)
def k208_4 : KF := fun c i x r h => (fun (x34 x35 x36 x37 x38 : AV) =>
 tR (b_ge x38 (pi 0) h) fun v39 h40 =>
 ifR v39 (x (T142 x34 x35 x36 x37 x38) h40) (.ex 2 T26 h40)) (y0 r) (y3 r) (y8 r) (y9 r) (y12 r)
def k208_3 : KF := fun c i x r h => (fun (x27 x28 x29 x30 x31 : AV) =>
 tR (b_sub x31 (pi 1) h) fun v32 h33 =>
 x (T142 x27 x28 x29 x30 v32) h33) (y0 r) (y3 r) (y8 r) (y9 r) (y10 r)
def k208_0 : KF := fun c i x r h => (fun (x0 x1 x2 x3 : AV) =>
 tR (b_sub x2 x1 h) fun v4 h5 =>
 x (T140 x0 x3 x1 (pi 0) v4) h5) (y0 r) (y1 r) (y2 r) (y3 r)
def x208 : AC := (.shal k208_0 (.seq (.shal k208_1 (.block 0 (.loop (.shal k208_2 .skip)))) (.shal k208_3 (.block 2 (.loop (.shal k208_4 (.seq (.block 3 (.seq (.drw [q 0 (m d36 r0),
 q 0 (m d37 r8),
 q 0 (m d42 r0),
 q 0 (m d43 r8),
 q 0 (m d44 r12),
 q 0 (o d45 (.bin .add r43 r44)),
 q 0 (o d46 (.ixs 3 r42 r45)),
 q 0 (o d47 (.ldn 3 r46)),
 q 0 (m d48 r0),
 q 0 (m d49 r8),
 q 0 (o d50 (.ixs 3 r48 r49)),
 q 0 (o d51 (.ldn 3 r50)),
 q 0 (o d52 (.ixs 3 r36 r37)),
 w (o .no (.stn 3 r52 r47)),
 q 1 (m d38 r0),
 q 1 (m d39 r8),
 q 1 (m d40 r12),
 q 1 (o d41 (.bin .add r39 r40)),
 q 0 (o d53 (.ixs 3 r38 r41)),
 w (o .no (.stn 3 r53 r51))]) (.shal k208_5 .skip))) (.shal k208_6 .skip))))))))
def z208 : List Rs := []
def f208 : AF := .mk x208 z208
def k209_3 : KF := fun c i x r h => (fun (x42 x43 x44 x45 x46 x47 : AV) =>
 tT (c 228 [x45] h) fun v48 h49 =>
 tR (b_sub x46 (.int .u64 (.ofNat 1)) h49) fun v50 h51 =>
 tR (b_and v48 v50 h51) fun v52 h53 =>
 tR (cK (.toInt .i64) v52 h53) fun v54 h55 =>
 tR (b_ge v54 x44 h55) fun v56 h57 =>
 ifR v56 (tR (b_sub v54 x44 h57) fun v58 h59 =>
 x (T145 x42 x43 x44 x45 x46 x47 v58) h59) (x (T145 x42 x43 x44 x45 x46 x47 v54) h57)) (y0 r) (y1 r) (y8 r) (y9 r) (y10 r) (y11 r)
def k209_4 : KF := fun c i x r h => (fun (x60 x61 x62 x63 x64 x65 : AV) =>
 tR (b_add x65 (pi 1) h) fun v66 h67 =>
 .nm (T144 x60 x61 x62 x63 x64 v66) h67) (y0 r) (y1 r) (y8 r) (y9 r) (y10 r) (y11 r)
def k209_2 : KF := fun c i x r h => (fun (x26 x27 x28 x29 x30 x31 : AV) =>
 tR (b_quo x28 (pi 4) h) fun v32 h33 =>
 tR (b_mul v32 (pi 2) h33) fun v34 h35 =>
 tR (b_add x27 v34 h35) fun v36 h37 =>
 tR (b_add v36 (pi 1) h37) fun v38 h39 =>
 tR (b_le x31 v38 h39) fun v40 h41 =>
 ifR v40 (x (T144 x26 x27 x28 x29 x30 x31) h41) (.ex 0 T26 h41)) (y0 r) (y1 r) (y8 r) (y9 r) (y10 r) (y11 r)
def k209_1 : KF := fun c i x r h => (fun (x7 x8 x9 : AV) =>
 tR (cK (.toInt .u64) x9 h) fun v10 h11 =>
 tR (o_alloc 265 1 (.k1 (.mk (.int .u64 (.ofNat 0)) .undef .undef .undef .undef .undef .undef .undef .undef .undef .undef .undef .undef .undef .undef .undef)) .nil h11) fun v12 h13 =>
 tR (sto v12 v10 h13) fun v14 h15 =>
 tT (c 227 [x9] h15) fun v16 h17 =>
 tR (b_quo x9 (pi 4) h17) fun v18 h19 =>
 tR (b_mul v18 (pi 2) h19) fun v20 h21 =>
 tR (b_add x8 v20 h21) fun v22 h23 =>
 tR (b_sub v22 (pi 1) h23) fun v24 h25 =>
 x (T144 x7 x8 x9 v12 v16 v24) h25) (y0 r) (y1 r) (y8 r)
def k209_0 : KF := fun c i x r h => (fun (x0 x1 x2 : AV) =>
 tR (b_sub x2 x1 h) fun v3 h4 =>
 tR (b_ge v3 (pi 8) h4) fun v5 h6 =>
 x (T143 x0 x1 v3 v5) h6) (y0 r) (y1 r) (y2 r)
def x209 : AC := (.shal k209_0 (.cond r17 (.shal k209_1 (.block 0 (.loop (.shal k209_2 (.seq (.block 1 (.shal k209_3 (.drw [q 0 (m d49 r0),
 q 0 (m d50 r11),
 q 0 (m d55 r0),
 q 0 (m d56 r1),
 q 0 (m d57 r12),
 q 0 (o d58 (.bin .add r56 r57)),
 q 0 (o d59 (.ixs 3 r55 r58)),
 q 0 (o d60 (.ldn 3 r59)),
 q 0 (m d61 r0),
 q 0 (m d62 r11),
 q 0 (o d63 (.ixs 3 r61 r62)),
 q 0 (o d64 (.ldn 3 r63)),
 q 0 (o d65 (.ixs 3 r49 r50)),
 w (o .no (.stn 3 r65 r60)),
 q 1 (m d51 r0),
 q 1 (m d52 r1),
 q 1 (m d53 r12),
 q 1 (o d54 (.bin .add r52 r53)),
 q 0 (o d66 (.ixs 3 r51 r54)),
 w (o .no (.stn 3 r66 r64))]))) (.shal k209_4 .skip)))))) .skip))
def z209 : List Rs := []
def f209 : AF := .mk x209 z209
def k210_3 : KF := fun c i x r h => (fun (x54 x55 : AV) =>
 tR (ld x54 h) fun v56 h57 =>
 tR (b_eq v56 (pi 0) h57) fun v58 h59 =>
 ifR v58 (.ret (T149 x55 (pi 1)) h59) (tR (b_eq v56 (pi 12) h59) fun v60 h61 =>
 ifR v60 (.ret (T149 x55 (pi 2)) h61) (.ret (T149 x55 (pi 0)) h61))) (y11 r) (y13 r)
def k210_2 : KF := fun c i x r h => (fun (x33 x34 x35 x36 x37 x38 x39 : AV) =>
 tR (b_ge x35 (pi 8) h) fun v40 h41 =>
 ifR v40 (tR (b_ge x35 (pi 50) h41) fun v42 h43 =>
 ifR v42 (tT (c 229 [x33,x37,x36,x34] h43) fun v44 h45 =>
 tT (c 229 [x33,x38,x36,x34] h45) fun v46 h47 =>
 tT (c 229 [x33,x39,x36,x34] h47) fun v48 h49 =>
 tT (c 230 [x33,v44,v46,v48,x36,x34] h49) fun v50 h51 =>
 x (T148 x36 v50) h51) (tT (c 230 [x33,x37,x38,x39,x36,x34] h43) fun v52 h53 =>
 x (T148 x36 v52) h53)) (x (T148 x36 x38) h41)) (y0 r) (y3 r) (y10 r) (y11 r) (y12 r) (y13 r) (y14 r)
def k210_1 : KF := fun c i x r h => (fun (x20 x21 x22 x23 x24 x25 x26 : AV) =>
 tR (b_quo x23 (pi 4) h) fun v27 h28 =>
 tR (b_mul v27 (pi 3) h28) fun v29 h30 =>
 tR (b_add x21 v29 h30) fun v31 h32 =>
 x (T147 x20 x22 x23 x24 x25 x26 v31) h32) (y0 r) (y1 r) (y3 r) (y10 r) (y11 r) (y12 r) (y13 r)
def k210_0 : KF := fun c i x r h => (fun (x0 x1 x2 x3 : AV) =>
 tR (b_sub x2 x1 h) fun v4 h5 =>
 tR (o_alloc 3 1 (.k1 (.mk (pi 0) .undef .undef .undef .undef .undef .undef .undef .undef .undef .undef .undef .undef .undef .undef .undef)) .nil h5) fun v6 h7 =>
 tR (b_quo v4 (pi 4) h7) fun v8 h9 =>
 tR (b_mul v8 (pi 1) h9) fun v10 h11 =>
 tR (b_add x1 v10 h11) fun v12 h13 =>
 tR (b_quo v4 (pi 4) h13) fun v14 h15 =>
 tR (b_mul v14 (pi 2) h15) fun v16 h17 =>
 tR (b_add x1 v16 h17) fun v18 h19 =>
 x (T146 x0 x1 x3 v4 v6 v12 v18) h19) (y0 r) (y1 r) (y2 r) (y3 r)
def x210 : AC := (.shal k210_0 (.shal k210_1 (.shal k210_2 (.shal k210_3 .skip))))
def z210 : List Rs := [.t .h0 .h8,.t .h0 .h9]
def f210 : AF := .mk x210 z210
def k211_2 : KF := fun c i x r h => (fun (x10 x11 x12 : AV) =>
 tR (b_add x11 (pi 1) h) fun v13 h14 =>
 tR (b_sub x12 (pi 1) h14) fun v15 h16 =>
 .nm (T150 x10 v13 v15) h16) (y0 r) (y8 r) (y9 r)
def k211_1 : KF := fun c i x r h => (fun (x5 x6 x7 : AV) =>
 tR (b_lt x6 x7 h) fun v8 h9 =>
 ifR v8 (x (T150 x5 x6 x7) h9) (.ex 0 T26 h9)) (y0 r) (y8 r) (y9 r)
def k211_0 : KF := fun c i x r h => (fun (x0 x1 x2 : AV) =>
 tR (b_sub x2 (pi 1) h) fun v3 h4 =>
 x (T150 x0 x1 v3) h4) (y0 r) (y1 r) (y2 r)
def x211 : AC := (.shal k211_0 (.block 0 (.loop (.shal k211_1 (.block 1 (.seq (.drw [q 0 (m d16 r0),
 q 0 (m d17 r8),
 q 0 (m d20 r0),
 q 0 (m d21 r9),
 q 0 (o d22 (.ixs 3 r20 r21)),
 q 0 (o d23 (.ldn 3 r22)),
 q 0 (m d24 r0),
 q 0 (m d25 r8),
 q 0 (o d26 (.ixs 3 r24 r25)),
 q 0 (o d27 (.ldn 3 r26)),
 q 0 (o d28 (.ixs 3 r16 r17)),
 w (o .no (.stn 3 r28 r23)),
 q 1 (m d18 r0),
 q 1 (m d19 r9),
 q 0 (o d29 (.ixs 3 r18 r19)),
 w (o .no (.stn 3 r29 r27))]) (.shal k211_2 .skip)))))))
def z211 : List Rs := []
def f211 : AF := .mk x211 z211
def k212_3 : KF := fun c i x r h => (fun (x19 x20 x21 x22 x23 x24 x25 : AV) =>
 ifR x25 (.nm (T152 x19 x20 x21 x22 x23 x24) h) (.ex 2 (T152 x19 x20 x21 x22 x23 x24) h)) (y0 r) (y1 r) (y2 r) (y3 r) (y9 r) (y10 r) (y36 r)
def k212_4 : KF := fun c i x r h => (fun (x26 x27 x28 x29 x30 x31 : AV) =>
 tR (b_add x30 (pi 1) h) fun v32 h33 =>
 .nm (T152 x26 x27 x28 x29 v32 x31) h33) (y0 r) (y1 r) (y2 r) (y3 r) (y9 r) (y10 r)
def k212_9 : KF := fun c i x r h => (fun (x73 x74 x75 x76 x77 x78 x79 : AV) =>
 tQ (ix 3 x73 x79 h) fun v80 =>
 tQ (o_ldn 3 (.c v80) .nil h) fun v81 =>
 tQ (b_sub x79 (pi 1) h) fun v82 =>
 tQ (ix 3 x73 v82 h) fun v83 =>
 tQ (o_ldn 3 (.c v83) .nil h) fun v84 =>
 tX (AV.onFn x76 (fun f l => c f (List.append [v81,v84] l) h) (.err 202)) fun v85 h86 =>
 tQ (b_lt v85 (pi 0) h86) fun v87 =>
 tQ (u_not v87 h86) fun v88 =>
 ifR v88 (.ex 4 (T152 x73 x74 x75 x76 x77 x78) h86) (x (T154 x73 x74 x75 x76 x77 x78 x79) h86)) (y0 r) (y1 r) (y2 r) (y3 r) (y9 r) (y10 r) (y11 r)
def k212_10 : KF := fun c i x r h => (fun (x89 x90 x91 x92 x93 x94 x95 : AV) =>
 tR (b_sub x95 (pi 1) h) fun v96 h97 =>
 .nm (T154 x89 x90 x91 x92 x93 x94 v96) h97) (y0 r) (y1 r) (y2 r) (y3 r) (y9 r) (y10 r) (y11 r)
def k212_8 : KF := fun c i x r h => (fun (x64 x65 x66 x67 x68 x69 x70 : AV) =>
 tR (b_ge x70 (pi 1) h) fun v71 h72 =>
 ifR v71 (x (T154 x64 x65 x66 x67 x68 x69 x70) h72) (.ex 4 (T152 x64 x65 x66 x67 x68 x69) h72)) (y0 r) (y1 r) (y2 r) (y3 r) (y9 r) (y10 r) (y11 r)
def k212_7 : KF := fun c i x r h => (fun (x56 x57 x58 x59 x60 x61 : AV) =>
 tR (b_sub x60 (pi 1) h) fun v62 h63 =>
 x (T154 x56 x57 x58 x59 x60 x61 v62) h63) (y0 r) (y1 r) (y2 r) (y3 r) (y9 r) (y10 r)
def k212_6 : KF := fun c i x r h => (fun (x46 x47 x48 x49 x50 x51 : AV) =>
 tR (b_sub x50 x47 h) fun v52 h53 =>
 tR (b_ge v52 (pi 2) h53) fun v54 h55 =>
 x (T153 x46 x47 x48 x49 x50 x51 v54) h55) (y0 r) (y1 r) (y2 r) (y3 r) (y9 r) (y10 r)
def k212_14 : KF := fun c i x r h => (fun (x125 x126 x127 x128 x129 x130 x131 : AV) =>
 tQ (ix 3 x125 x131 h) fun v132 =>
 tQ (o_ldn 3 (.c v132) .nil h) fun v133 =>
 tQ (b_sub x131 (pi 1) h) fun v134 =>
 tQ (ix 3 x125 v134 h) fun v135 =>
 tQ (o_ldn 3 (.c v135) .nil h) fun v136 =>
 tX (AV.onFn x128 (fun f l => c f (List.append [v133,v136] l) h) (.err 202)) fun v137 h138 =>
 tQ (b_lt v137 (pi 0) h138) fun v139 =>
 tQ (u_not v139 h138) fun v140 =>
 ifR v140 (.ex 6 (T152 x125 x126 x127 x128 x129 x130) h138) (x (T156 x125 x126 x127 x128 x129 x130 x131) h138)) (y0 r) (y1 r) (y2 r) (y3 r) (y9 r) (y10 r) (y12 r)
def k212_15 : KF := fun c i x r h => (fun (x141 x142 x143 x144 x145 x146 x147 : AV) =>
 tR (b_add x147 (pi 1) h) fun v148 h149 =>
 .nm (T156 x141 x142 x143 x144 x145 x146 v148) h149) (y0 r) (y1 r) (y2 r) (y3 r) (y9 r) (y10 r) (y12 r)
def k212_13 : KF := fun c i x r h => (fun (x116 x117 x118 x119 x120 x121 x122 : AV) =>
 tR (b_lt x122 x118 h) fun v123 h124 =>
 ifR v123 (x (T156 x116 x117 x118 x119 x120 x121 x122) h124) (.ex 6 (T152 x116 x117 x118 x119 x120 x121) h124)) (y0 r) (y1 r) (y2 r) (y3 r) (y9 r) (y10 r) (y12 r)
def k212_12 : KF := fun c i x r h => (fun (x108 x109 x110 x111 x112 x113 : AV) =>
 tR (b_add x112 (pi 1) h) fun v114 h115 =>
 x (T156 x108 x109 x110 x111 x112 x113 v114) h115) (y0 r) (y1 r) (y2 r) (y3 r) (y9 r) (y10 r)
def k212_11 : KF := fun c i x r h => (fun (x98 x99 x100 x101 x102 x103 : AV) =>
 tR (b_sub x100 x102 h) fun v104 h105 =>
 tR (b_ge v104 (pi 2) h105) fun v106 h107 =>
 x (T155 x98 x99 x100 x101 x102 x103 v106) h107) (y0 r) (y1 r) (y2 r) (y3 r) (y9 r) (y10 r)
def k212_5 : KF := fun c i x r h => (fun (x34 x35 x36 x37 x38 x39 : AV) =>
 tR (b_eq x38 x36 h) fun v40 h41 =>
 ifR v40 (.ret (T107 (.bool true)) h41) (tR (b_sub x36 x35 h41) fun v42 h43 =>
 tR (b_lt v42 (pi 50) h43) fun v44 h45 =>
 ifR v44 (.ret (T107 (.bool false)) h45) (x (T152 x34 x35 x36 x37 x38 x39) h45))) (y0 r) (y1 r) (y2 r) (y3 r) (y9 r) (y10 r)
def k212_16 : KF := fun c i x r h => (fun (x150 x151 x152 x153 x154 x155 : AV) =>
 tR (b_add x155 (pi 1) h) fun v156 h157 =>
 .nm (T152 x150 x151 x152 x153 x154 v156) h157) (y0 r) (y1 r) (y2 r) (y3 r) (y9 r) (y10 r)
def k212_2 : KF := fun c i x r h => (fun (x11 x12 x13 x14 x15 x16 : AV) =>
 tR (b_lt x16 (pi 5) h) fun v17 h18 =>
 ifR v17 (x (T152 x11 x12 x13 x14 x15 x16) h18) (.ex 0 T26 h18)) (y0 r) (y1 r) (y2 r) (y3 r) (y9 r) (y10 r)
def k212_1 : KF := fun c i x r h => (fun (x6 x7 x8 x9 x10 : AV) =>
 x (T152 x6 x7 x8 x9 x10 (pi 0)) h) (y0 r) (y1 r) (y2 r) (y3 r) (y9 r)
def k212_17 : KF := fun c i x r h => .ret (T107 (.bool false)) h
def k212_0 : KF := fun c i x r h => (fun (x0 x1 x2 x3 : AV) =>
 tR (b_add x1 (pi 1) h) fun v4 h5 =>
 x (T151 x0 x1 x2 x3 v4) h5) (y0 r) (y1 r) (y2 r) (y3 r)
def x212 : AC := (.shal k212_0 (.seq (.shal k212_1 (.block 0 (.loop (.shal k212_2 (.seq (.block 1 (.seq (.block 2 (.loop (.seq (.seq (.drw [q 0 (m d19 r9),
 q 0 (m d20 r2),
 q 0 (o d21 (.bin .lt r19 r20)),
 q 0 (m d22 r21),
 q 0 (.g .h1 .h6 true d23 (.op (.mv r3))),
 q 0 (.g .h1 .h6 true d24 (.op (.mv r0))),
 q 0 (.g .h1 .h6 true d25 (.op (.mv r9))),
 q 0 (.g .h1 .h6 true d26 (.op (.ixs 3 r24 r25))),
 q 0 (.g .h1 .h6 true d27 (.op (.ldn 3 r26))),
 q 0 (.g .h1 .h6 true d28 (.op (.mv r0))),
 q 0 (.g .h1 .h6 true d29 (.op (.mv r9))),
 q 0 (.g .h1 .h6 true d30 (.op (.bin .sub r29 (.c (pi 1))))),
 q 0 (.g .h1 .h6 true d31 (.op (.ixs 3 r28 r30))),
 q 0 (.g .h1 .h6 true d32 (.op (.ldn 3 r31))),
 w (.g .h1 .h6 true d33 (.calld r23 [r27,r32])),
 q 0 (.g .h1 .h6 true d34 (.op (.bin .lt r33 (.c (pi 0))))),
 q 0 (.g .h1 .h6 true d35 (.op (.un .not r34))),
 q 0 (o d36 (.pick r22 r35 (.c (.bool false))))]) (.shal k212_3 .skip)) (.shal k212_4 .skip)))) (.shal k212_5 (.seq (.drw [q 0 (m d46 r0),
 q 0 (m d47 r9),
 q 0 (m d51 r0),
 q 0 (m d52 r9),
 q 0 (o d53 (.bin .sub r52 (.c (pi 1)))),
 q 0 (o d54 (.ixs 3 r51 r53)),
 q 0 (o d55 (.ldn 3 r54)),
 q 0 (m d56 r0),
 q 0 (m d57 r9),
 q 0 (o d58 (.ixs 3 r56 r57)),
 q 0 (o d59 (.ldn 3 r58)),
 q 0 (o d60 (.ixs 3 r46 r47)),
 w (o .no (.stn 3 r60 r55)),
 q 1 (m d48 r0),
 q 1 (m d49 r9),
 q 1 (o d50 (.bin .sub r49 (.c (pi 1)))),
 q 0 (o d61 (.ixs 3 r48 r50)),
 w (o .no (.stn 3 r61 r59))]) (.seq (.shal k212_6 (.cond r65 (.shal k212_7 (.block 4 (.loop (.shal k212_8 (.seq (.block 5 (.shal k212_9 (.drw [q 0 (m d85 r0),
 q 0 (m d86 r11),
 q 0 (m d90 r0),
 q 0 (m d91 r11),
 q 0 (o d92 (.bin .sub r91 (.c (pi 1)))),
 q 0 (o d93 (.ixs 3 r90 r92)),
 q 0 (o d94 (.ldn 3 r93)),
 q 0 (m d95 r0),
 q 0 (m d96 r11),
 q 0 (o d97 (.ixs 3 r95 r96)),
 q 0 (o d98 (.ldn 3 r97)),
 q 0 (o d99 (.ixs 3 r85 r86)),
 w (o .no (.stn 3 r99 r94)),
 q 1 (m d87 r0),
 q 1 (m d88 r11),
 q 1 (o d89 (.bin .sub r88 (.c (pi 1)))),
 q 0 (o d100 (.ixs 3 r87 r89)),
 w (o .no (.stn 3 r100 r98))]))) (.shal k212_10 .skip)))))) .skip)) (.shal k212_11 (.cond r104 (.shal k212_12 (.block 6 (.loop (.shal k212_13 (.seq (.block 7 (.shal k212_14 (.drw [q 0 (m d125 r0),
 q 0 (m d126 r12),
 q 0 (m d130 r0),
 q 0 (m d131 r12),
 q 0 (o d132 (.bin .sub r131 (.c (pi 1)))),
 q 0 (o d133 (.ixs 3 r130 r132)),
 q 0 (o d134 (.ldn 3 r133)),
 q 0 (m d135 r0),
 q 0 (m d136 r12),
 q 0 (o d137 (.ixs 3 r135 r136)),
 q 0 (o d138 (.ldn 3 r137)),
 q 0 (o d139 (.ixs 3 r125 r126)),
 w (o .no (.stn 3 r139 r134)),
 q 1 (m d127 r0),
 q 1 (m d128 r12),
 q 1 (o d129 (.bin .sub r128 (.c (pi 1)))),
 q 0 (o d140 (.ixs 3 r127 r129)),
 w (o .no (.stn 3 r140 r138))]))) (.shal k212_15 .skip)))))) .skip))))))) (.shal k212_16 .skip)))))) (.shal k212_17 .skip)))
def z212 : List Rs := [.t .h0 .h8]
def f212 : AF := .mk x212 z212
def k213_2 : KF := fun c i x r h => (fun (x13 x14 x15 x16 x17 x18 : AV) =>
 ifR x18 (.nm (T158 x13 x14 x15 x16 x17) h) (.ex 2 (T158 x13 x14 x15 x16 x17) h)) (y0 r) (y1 r) (y4 r) (y11 r) (y12 r) (y47 r)
def k213_3 : KF := fun c i x r h => (fun (x19 x20 x21 x22 x23 : AV) =>
 tR (b_add x22 (pi 1) h) fun v24 h25 =>
 .nm (T158 x19 x20 x21 v24 x23) h25) (y0 r) (y1 r) (y4 r) (y11 r) (y12 r)
def k213_4 : KF := fun c i x r h => (fun (x26 x27 x28 x29 x30 x31 : AV) =>
 ifR x31 (.nm (T158 x26 x27 x28 x29 x30) h) (.ex 4 (T158 x26 x27 x28 x29 x30) h)) (y0 r) (y1 r) (y4 r) (y11 r) (y12 r) (y65 r)
def k213_5 : KF := fun c i x r h => (fun (x32 x33 x34 x35 x36 : AV) =>
 tR (b_sub x36 (pi 1) h) fun v37 h38 =>
 .nm (T158 x32 x33 x34 x35 v37) h38) (y0 r) (y1 r) (y4 r) (y11 r) (y12 r)
def k213_7 : KF := fun c i x r h => (fun (x46 x47 x48 x49 x50 : AV) =>
 tR (b_add x49 (pi 1) h) fun v51 h52 =>
 tR (b_sub x50 (pi 1) h52) fun v53 h54 =>
 .nm (T158 x46 x47 x48 v51 v53) h54) (y0 r) (y1 r) (y4 r) (y11 r) (y12 r)
def k213_6 : KF := fun c i x r h => (fun (x39 x40 x41 x42 x43 : AV) =>
 tR (b_gt x42 x43 h) fun v44 h45 =>
 ifR v44 (.ex 0 (T159 x42) h45) (x (T158 x39 x40 x41 x42 x43) h45)) (y0 r) (y1 r) (y4 r) (y11 r) (y12 r)
def k213_8 : KF := fun c i x r h => (fun (x55 : AV) =>
 .ret (T160 x55) h) (y11 r)
def k213_1 : KF := fun c i x r h => (fun (x5 x6 x7 x8 : AV) =>
 tR (b_add x6 (pi 1) h) fun v9 h10 =>
 tR (b_sub x7 (pi 1) h10) fun v11 h12 =>
 x (T158 x5 x6 x8 v9 v11) h12) (y0 r) (y1 r) (y2 r) (y4 r)
def k213_0 : KF := fun c i x r h => (fun (x0 x1 x2 x3 x4 : AV) =>
 x (T157 x0 x1 x2 x3 x4) h) (y0 r) (y1 r) (y2 r) (y3 r) (y4 r)
def x213 : AC := (.shal k213_0 (.seq (.drw [q 0 (m d13 r0),
 q 0 (m d14 r1),
 q 0 (m d17 r0),
 q 0 (m d18 r3),
 q 0 (o d19 (.ixs 3 r17 r18)),
 q 0 (o d20 (.ldn 3 r19)),
 q 0 (m d21 r0),
 q 0 (m d22 r1),
 q 0 (o d23 (.ixs 3 r21 r22)),
 q 0 (o d24 (.ldn 3 r23)),
 q 0 (o d25 (.ixs 3 r13 r14)),
 w (o .no (.stn 3 r25 r20)),
 q 1 (m d15 r0),
 q 1 (m d16 r3),
 q 0 (o d26 (.ixs 3 r15 r16)),
 w (o .no (.stn 3 r26 r24))]) (.shal k213_1 (.seq (.block 0 (.loop (.block 1 (.seq (.block 2 (.loop (.seq (.seq (.drw [q 0 (m d31 r11),
 q 0 (m d32 r12),
 q 0 (o d33 (.bin .le r31 r32)),
 q 0 (m d34 r33),
 q 0 (.g .h2 .h2 true d35 (.op (.mv r4))),
 q 0 (.g .h2 .h2 true d36 (.op (.mv r0))),
 q 0 (.g .h2 .h2 true d37 (.op (.mv r1))),
 q 0 (.g .h2 .h2 true d38 (.op (.ixs 3 r36 r37))),
 q 0 (.g .h2 .h2 true d39 (.op (.ldn 3 r38))),
 q 0 (.g .h2 .h2 true d40 (.op (.mv r0))),
 q 0 (.g .h2 .h2 true d41 (.op (.mv r11))),
 q 0 (.g .h2 .h2 true d42 (.op (.ixs 3 r40 r41))),
 q 0 (.g .h2 .h2 true d43 (.op (.ldn 3 r42))),
 w (.g .h2 .h2 true d44 (.calld r35 [r39,r43])),
 q 0 (.g .h2 .h2 true d45 (.op (.bin .lt r44 (.c (pi 0))))),
 q 0 (.g .h2 .h2 true d46 (.op (.un .not r45))),
 q 0 (o d47 (.pick r34 r46 (.c (.bool false))))]) (.shal k213_2 .skip)) (.shal k213_3 .skip)))) (.seq (.block 4 (.loop (.seq (.seq (.drw [q 0 (m d50 r11),
 q 0 (m d51 r12),
 q 0 (o d52 (.bin .le r50 r51)),
 q 0 (m d53 r52),
 q 0 (.g .h3 .h5 true d54 (.op (.mv r4))),
 q 0 (.g .h3 .h5 true d55 (.op (.mv r0))),
 q 0 (.g .h3 .h5 true d56 (.op (.mv r1))),
 q 0 (.g .h3 .h5 true d57 (.op (.ixs 3 r55 r56))),
 q 0 (.g .h3 .h5 true d58 (.op (.ldn 3 r57))),
 q 0 (.g .h3 .h5 true d59 (.op (.mv r0))),
 q 0 (.g .h3 .h5 true d60 (.op (.mv r12))),
 q 0 (.g .h3 .h5 true d61 (.op (.ixs 3 r59 r60))),
 q 0 (.g .h3 .h5 true d62 (.op (.ldn 3 r61))),
 w (.g .h3 .h5 true d63 (.calld r54 [r58,r62])),
 q 0 (.g .h3 .h5 true d64 (.op (.bin .lt r63 (.c (pi 0))))),
 q 0 (o d65 (.pick r53 r64 (.c (.bool false))))]) (.shal k213_4 .skip)) (.shal k213_5 .skip)))) (.shal k213_6 (.seq (.drw [q 0 (m d71 r0),
 q 0 (m d72 r11),
 q 0 (m d75 r0),
 q 0 (m d76 r12),
 q 0 (o d77 (.ixs 3 r75 r76)),
 q 0 (o d78 (.ldn 3 r77)),
 q 0 (m d79 r0),
 q 0 (m d80 r11),
 q 0 (o d81 (.ixs 3 r79 r80)),
 q 0 (o d82 (.ldn 3 r81)),
 q 0 (o d83 (.ixs 3 r71 r72)),
 w (o .no (.stn 3 r83 r78)),
 q 1 (m d73 r0),
 q 1 (m d74 r12),
 q 0 (o d84 (.ixs 3 r73 r74)),
 w (o .no (.stn 3 r84 r82))]) (.shal k213_7 .skip)))))))) (.shal k213_8 .skip)))))
def z213 : List Rs := [.t .h0 .ha]
def f213 : AF := .mk x213 z213
def k214_2 : KF := fun c i x r h => (fun (x13 x14 x15 x16 x17 x18 : AV) =>
 ifR x18 (.nm (T59 x13 x14 x15 x16 x17) h) (.ex 0 (T59 x13 x14 x15 x16 x17) h)) (y0 r) (y1 r) (y4 r) (y12 r) (y13 r) (y47 r)
def k214_3 : KF := fun c i x r h => (fun (x19 x20 x21 x22 x23 : AV) =>
 tR (b_add x22 (pi 1) h) fun v24 h25 =>
 .nm (T59 x19 x20 x21 v24 x23) h25) (y0 r) (y1 r) (y4 r) (y12 r) (y13 r)
def k214_4 : KF := fun c i x r h => (fun (x26 x27 x28 x29 x30 x31 : AV) =>
 ifR x31 (.nm (T59 x26 x27 x28 x29 x30) h) (.ex 2 (T59 x26 x27 x28 x29 x30) h)) (y0 r) (y1 r) (y4 r) (y12 r) (y13 r) (y66 r)
def k214_5 : KF := fun c i x r h => (fun (x32 x33 x34 x35 x36 : AV) =>
 tR (b_sub x36 (pi 1) h) fun v37 h38 =>
 .nm (T59 x32 x33 x34 x35 v37) h38) (y0 r) (y1 r) (y4 r) (y12 r) (y13 r)
def k214_7 : KF := fun c i x r h => (fun (x46 : AV) =>
 .ret (T162 x46 (.bool true)) h) (y13 r)
def k214_6 : KF := fun c i x r h => (fun (x39 x40 x41 x42 x43 : AV) =>
 tR (b_gt x42 x43 h) fun v44 h45 =>
 x (T161 x39 x40 x41 x42 x43 v44) h45) (y0 r) (y1 r) (y4 r) (y12 r) (y13 r)
def k214_9 : KF := fun c i x r h => (fun (x56 x57 x58 x59 x60 x61 : AV) =>
 ifR x61 (.nm (T59 x56 x57 x58 x59 x60) h) (.ex 6 (T59 x56 x57 x58 x59 x60) h)) (y0 r) (y1 r) (y4 r) (y12 r) (y13 r) (y120 r)
def k214_10 : KF := fun c i x r h => (fun (x62 x63 x64 x65 x66 : AV) =>
 tR (b_add x65 (pi 1) h) fun v67 h68 =>
 .nm (T59 x62 x63 x64 v67 x66) h68) (y0 r) (y1 r) (y4 r) (y12 r) (y13 r)
def k214_11 : KF := fun c i x r h => (fun (x69 x70 x71 x72 x73 x74 : AV) =>
 ifR x74 (.nm (T59 x69 x70 x71 x72 x73) h) (.ex 8 (T59 x69 x70 x71 x72 x73) h)) (y0 r) (y1 r) (y4 r) (y12 r) (y13 r) (y139 r)
def k214_12 : KF := fun c i x r h => (fun (x75 x76 x77 x78 x79 : AV) =>
 tR (b_sub x79 (pi 1) h) fun v80 h81 =>
 .nm (T59 x75 x76 x77 x78 v80) h81) (y0 r) (y1 r) (y4 r) (y12 r) (y13 r)
def k214_14 : KF := fun c i x r h => (fun (x89 x90 x91 x92 x93 : AV) =>
 tR (b_add x92 (pi 1) h) fun v94 h95 =>
 tR (b_sub x93 (pi 1) h95) fun v96 h97 =>
 .nm (T59 x89 x90 x91 v94 v96) h97) (y0 r) (y1 r) (y4 r) (y12 r) (y13 r)
def k214_13 : KF := fun c i x r h => (fun (x82 x83 x84 x85 x86 : AV) =>
 tR (b_gt x85 x86 h) fun v87 h88 =>
 ifR v87 (.ex 4 (T163 x82 x83 x86) h88) (x (T59 x82 x83 x84 x85 x86) h88)) (y0 r) (y1 r) (y4 r) (y12 r) (y13 r)
def k214_15 : KF := fun c i x r h => (fun (x98 : AV) =>
 .ret (T162 x98 (.bool false)) h) (y13 r)
def k214_8 : KF := fun c i x r h => (fun (x47 x48 x49 x50 x51 : AV) =>
 tR (b_add x50 (pi 1) h) fun v52 h53 =>
 tR (b_sub x51 (pi 1) h53) fun v54 h55 =>
 x (T59 x47 x48 x49 v52 v54) h55) (y0 r) (y1 r) (y4 r) (y12 r) (y13 r)
def k214_1 : KF := fun c i x r h => (fun (x5 x6 x7 x8 : AV) =>
 tR (b_add x6 (pi 1) h) fun v9 h10 =>
 tR (b_sub x7 (pi 1) h10) fun v11 h12 =>
 x (T59 x5 x6 x8 v9 v11) h12) (y0 r) (y1 r) (y2 r) (y4 r)
def k214_0 : KF := fun c i x r h => (fun (x0 x1 x2 x3 x4 : AV) =>
 x (T157 x0 x1 x2 x3 x4) h) (y0 r) (y1 r) (y2 r) (y3 r) (y4 r)
def x214 : AC := (.shal k214_0 (.seq (.drw [q 0 (m d14 r0),
 q 0 (m d15 r1),
 q 0 (m d18 r0),
 q 0 (m d19 r3),
 q 0 (o d20 (.ixs 3 r18 r19)),
 q 0 (o d21 (.ldn 3 r20)),
 q 0 (m d22 r0),
 q 0 (m d23 r1),
 q 0 (o d24 (.ixs 3 r22 r23)),
 q 0 (o d25 (.ldn 3 r24)),
 q 0 (o d26 (.ixs 3 r14 r15)),
 w (o .no (.stn 3 r26 r21)),
 q 1 (m d16 r0),
 q 1 (m d17 r3),
 q 0 (o d27 (.ixs 3 r16 r17)),
 w (o .no (.stn 3 r27 r25))]) (.shal k214_1 (.seq (.block 0 (.loop (.seq (.seq (.drw [q 0 (m d32 r12),
 q 0 (m d33 r13),
 q 0 (o d34 (.bin .le r32 r33)),
 q 0 (m d35 r34),
 q 0 (.g .h2 .h3 true d36 (.op (.mv r4))),
 q 0 (.g .h2 .h3 true d37 (.op (.mv r0))),
 q 0 (.g .h2 .h3 true d38 (.op (.mv r12))),
 q 0 (.g .h2 .h3 true d39 (.op (.ixs 3 r37 r38))),
 q 0 (.g .h2 .h3 true d40 (.op (.ldn 3 r39))),
 q 0 (.g .h2 .h3 true d41 (.op (.mv r0))),
 q 0 (.g .h2 .h3 true d42 (.op (.mv r1))),
 q 0 (.g .h2 .h3 true d43 (.op (.ixs 3 r41 r42))),
 q 0 (.g .h2 .h3 true d44 (.op (.ldn 3 r43))),
 w (.g .h2 .h3 true d45 (.calld r36 [r40,r44])),
 q 0 (.g .h2 .h3 true d46 (.op (.bin .lt r45 (.c (pi 0))))),
 q 0 (o d47 (.pick r35 r46 (.c (.bool false))))]) (.shal k214_2 .skip)) (.shal k214_3 .skip)))) (.seq (.block 2 (.loop (.seq (.seq (.drw [q 0 (m d50 r12),
 q 0 (m d51 r13),
 q 0 (o d52 (.bin .le r50 r51)),
 q 0 (m d53 r52),
 q 0 (.g .h3 .h5 true d54 (.op (.mv r4))),
 q 0 (.g .h3 .h5 true d55 (.op (.mv r0))),
 q 0 (.g .h3 .h5 true d56 (.op (.mv r13))),
 q 0 (.g .h3 .h5 true d57 (.op (.ixs 3 r55 r56))),
 q 0 (.g .h3 .h5 true d58 (.op (.ldn 3 r57))),
 q 0 (.g .h3 .h5 true d59 (.op (.mv r0))),
 q 0 (.g .h3 .h5 true d60 (.op (.mv r1))),
 q 0 (.g .h3 .h5 true d61 (.op (.ixs 3 r59 r60))),
 q 0 (.g .h3 .h5 true d62 (.op (.ldn 3 r61))),
 w (.g .h3 .h5 true d63 (.calld r54 [r58,r62])),
 q 0 (.g .h3 .h5 true d64 (.op (.bin .lt r63 (.c (pi 0))))),
 q 0 (.g .h3 .h5 true d65 (.op (.un .not r64))),
 q 0 (o d66 (.pick r53 r65 (.c (.bool false))))]) (.shal k214_4 .skip)) (.shal k214_5 .skip)))) (.seq (.shal k214_6 (.cond r71 (.seq (.drw [q 0 (m d72 r0),
 q 0 (m d73 r13),
 q 0 (m d76 r0),
 q 0 (m d77 r1),
 q 0 (o d78 (.ixs 3 r76 r77)),
 q 0 (o d79 (.ldn 3 r78)),
 q 0 (m d80 r0),
 q 0 (m d81 r13),
 q 0 (o d82 (.ixs 3 r80 r81)),
 q 0 (o d83 (.ldn 3 r82)),
 q 0 (o d84 (.ixs 3 r72 r73)),
 w (o .no (.stn 3 r84 r79)),
 q 1 (m d74 r0),
 q 1 (m d75 r1),
 q 0 (o d85 (.ixs 3 r74 r75)),
 w (o .no (.stn 3 r85 r83))]) (.shal k214_7 .skip)) .skip)) (.seq (.drw [q 0 (m d87 r0),
 q 0 (m d88 r12),
 q 0 (m d91 r0),
 q 0 (m d92 r13),
 q 0 (o d93 (.ixs 3 r91 r92)),
 q 0 (o d94 (.ldn 3 r93)),
 q 0 (m d95 r0),
 q 0 (m d96 r12),
 q 0 (o d97 (.ixs 3 r95 r96)),
 q 0 (o d98 (.ldn 3 r97)),
 q 0 (o d99 (.ixs 3 r87 r88)),
 w (o .no (.stn 3 r99 r94)),
 q 1 (m d89 r0),
 q 1 (m d90 r13),
 q 0 (o d100 (.ixs 3 r89 r90)),
 w (o .no (.stn 3 r100 r98))]) (.shal k214_8 (.seq (.block 4 (.loop (.block 5 (.seq (.block 6 (.loop (.seq (.seq (.drw [q 0 (m d105 r12),
 q 0 (m d106 r13),
 q 0 (o d107 (.bin .le r105 r106)),
 q 0 (m d108 r107),
 q 0 (.g .h6 .hc true d109 (.op (.mv r4))),
 q 0 (.g .h6 .hc true d110 (.op (.mv r0))),
 q 0 (.g .h6 .hc true d111 (.op (.mv r12))),
 q 0 (.g .h6 .hc true d112 (.op (.ixs 3 r110 r111))),
 q 0 (.g .h6 .hc true d113 (.op (.ldn 3 r112))),
 q 0 (.g .h6 .hc true d114 (.op (.mv r0))),
 q 0 (.g .h6 .hc true d115 (.op (.mv r1))),
 q 0 (.g .h6 .hc true d116 (.op (.ixs 3 r114 r115))),
 q 0 (.g .h6 .hc true d117 (.op (.ldn 3 r116))),
 w (.g .h6 .hc true d118 (.calld r109 [r113,r117])),
 q 0 (.g .h6 .hc true d119 (.op (.bin .lt r118 (.c (pi 0))))),
 q 0 (o d120 (.pick r108 r119 (.c (.bool false))))]) (.shal k214_9 .skip)) (.shal k214_10 .skip)))) (.seq (.block 8 (.loop (.seq (.seq (.drw [q 0 (m d123 r12),
 q 0 (m d124 r13),
 q 0 (o d125 (.bin .le r123 r124)),
 q 0 (m d126 r125),
 q 0 (.g .h7 .he true d127 (.op (.mv r4))),
 q 0 (.g .h7 .he true d128 (.op (.mv r0))),
 q 0 (.g .h7 .he true d129 (.op (.mv r13))),
 q 0 (.g .h7 .he true d130 (.op (.ixs 3 r128 r129))),
 q 0 (.g .h7 .he true d131 (.op (.ldn 3 r130))),
 q 0 (.g .h7 .he true d132 (.op (.mv r0))),
 q 0 (.g .h7 .he true d133 (.op (.mv r1))),
 q 0 (.g .h7 .he true d134 (.op (.ixs 3 r132 r133))),
 q 0 (.g .h7 .he true d135 (.op (.ldn 3 r134))),
 w (.g .h7 .he true d136 (.calld r127 [r131,r135])),
 q 0 (.g .h7 .he true d137 (.op (.bin .lt r136 (.c (pi 0))))),
 q 0 (.g .h7 .he true d138 (.op (.un .not r137))),
 q 0 (o d139 (.pick r126 r138 (.c (.bool false))))]) (.shal k214_11 .skip)) (.shal k214_12 .skip)))) (.shal k214_13 (.seq (.drw [q 0 (m d145 r0),
 q 0 (m d146 r12),
 q 0 (m d149 r0),
 q 0 (m d150 r13),
 q 0 (o d151 (.ixs 3 r149 r150)),
 q 0 (o d152 (.ldn 3 r151)),
 q 0 (m d153 r0),
 q 0 (m d154 r12),
 q 0 (o d155 (.ixs 3 r153 r154)),
 q 0 (o d156 (.ldn 3 r155)),
 q 0 (o d157 (.ixs 3 r145 r146)),
 w (o .no (.stn 3 r157 r152)),
 q 1 (m d147 r0),
 q 1 (m d148 r13),
 q 0 (o d158 (.ixs 3 r147 r148)),
 w (o .no (.stn 3 r158 r156))]) (.shal k214_14 .skip)))))))) (.seq (.drw [q 0 (m d163 r0),
 q 0 (m d164 r13),
 q 0 (m d167 r0),
 q 0 (m d168 r1),
 q 0 (o d169 (.ixs 3 r167 r168)),
 q 0 (o d170 (.ldn 3 r169)),
 q 0 (m d171 r0),
 q 0 (m d172 r13),
 q 0 (o d173 (.ixs 3 r171 r172)),
 q 0 (o d174 (.ldn 3 r173)),
 q 0 (o d175 (.ixs 3 r163 r164)),
 w (o .no (.stn 3 r175 r170)),
 q 1 (m d165 r0),
 q 1 (m d166 r1),
 q 0 (o d176 (.ixs 3 r165 r166)),
 w (o .no (.stn 3 r176 r174))]) (.shal k214_15 .skip)))))))))))
def z214 : List Rs := [.t .h0 .ha,.t .h0 .hb]
def f214 : AF := .mk x214 z214
def k215_1 : KF := fun c i x r h => (fun (x5 x6 : AV) =>
 tR (b_ge x5 (.int .u32 (.ofNat 256)) h) fun v7 h8 =>
 ifR v7 (tR (bK .shr x5 (.int .u64 (.ofNat 8)) h8) fun v9 h10 =>
 tR (b_add x6 (pi 8) h10) fun v11 h12 =>
 tR (cK (.toInt .u8) v9 h12) fun v13 h14 =>
 tR (o_idxs (.c (.str [0,1,2,2,3,3,3,3,4,4,4,4,4,4,4,4,5,5,5,5,5,5,5,5,5,5,5,5,5,5,5,5,6,6,6,6,6,6,6,6,6,6,6,6,6,6,6,6,6,6,6,6,6,6,6,6,6,6,6,6,6,6,6,6,7,7,7,7,7,7,7,7,7,7,7,7,7,7,7,7,7,7,7,7,7,7,7,7,7,7,7,7,7,7,7,7,7,7,7,7,7,7,7,7,7,7,7,7,7,7,7,7,7,7,7,7,7,7,7,7,7,7,7,7,7,7,7,7,8,8,8,8,8,8,8,8,8,8,8,8,8,8,8,8,8,8,8,8,8,8,8,8,8,8,8,8,8,8,8,8,8,8,8,8,8,8,8,8,8,8,8,8,8,8,8,8,8,8,8,8,8,8,8,8,8,8,8,8,8,8,8,8,8,8,8,8,8,8,8,8,8,8,8,8,8,8,8,8,8,8,8,8,8,8,8,8,8,8,8,8,8,8,8,8,8,8,8,8,8,8,8,8,8,8,8,8,8,8,8,8,8,8,8,8,8,8,8,8,8,8,8,8,8,8,8,8])) (.c v13) .nil h14) fun v15 h16 =>
 tR (cK (.toInt .i64) v15 h16) fun v17 h18 =>
 tR (b_add v11 v17 h18) fun v19 h20 =>
 x (T20 v19) h20) (tR (cK (.toInt .u8) x5 h8) fun v21 h22 =>
 tR (o_idxs (.c (.str [0,1,2,2,3,3,3,3,4,4,4,4,4,4,4,4,5,5,5,5,5,5,5,5,5,5,5,5,5,5,5,5,6,6,6,6,6,6,6,6,6,6,6,6,6,6,6,6,6,6,6,6,6,6,6,6,6,6,6,6,6,6,6,6,7,7,7,7,7,7,7,7,7,7,7,7,7,7,7,7,7,7,7,7,7,7,7,7,7,7,7,7,7,7,7,7,7,7,7,7,7,7,7,7,7,7,7,7,7,7,7,7,7,7,7,7,7,7,7,7,7,7,7,7,7,7,7,7,8,8,8,8,8,8,8,8,8,8,8,8,8,8,8,8,8,8,8,8,8,8,8,8,8,8,8,8,8,8,8,8,8,8,8,8,8,8,8,8,8,8,8,8,8,8,8,8,8,8,8,8,8,8,8,8,8,8,8,8,8,8,8,8,8,8,8,8,8,8,8,8,8,8,8,8,8,8,8,8,8,8,8,8,8,8,8,8,8,8,8,8,8,8,8,8,8,8,8,8,8,8,8,8,8,8,8,8,8,8,8,8,8,8,8,8,8,8,8,8,8,8,8,8,8,8,8,8])) (.c v21) .nil h22) fun v23 h24 =>
 tR (cK (.toInt .i64) v23 h24) fun v25 h26 =>
 tR (b_add x6 v25 h26) fun v27 h28 =>
 x (T20 v27) h28)) (y0 r) (y2 r)
def k215_0 : KF := fun c i x r h => (fun (x0 : AV) =>
 tR (b_ge x0 (.int .u32 (.ofNat 65536)) h) fun v1 h2 =>
 ifR v1 (tR (bK .shr x0 (.int .u64 (.ofNat 16)) h2) fun v3 h4 =>
 x (T68 v3 (pi 16)) h4) (x (T68 x0 (pi 0)) h2)) (y0 r)
def x215 : AC := (.shal k215_0 (.shal k215_1 .ret))
def z215 : List Rs := [.t .h0 .h2]
def f215 : AF := .mk x215 z215
def k216_2 : KF := fun c i x r h => (fun (x13 x14 : AV) =>
 tR (b_ge x13 (.int .u64 (.ofNat 256)) h) fun v15 h16 =>
 ifR v15 (tR (bK .shr x13 (.int .u64 (.ofNat 8)) h16) fun v17 h18 =>
 tR (b_add x14 (pi 8) h18) fun v19 h20 =>
 tR (cK (.toInt .u8) v17 h20) fun v21 h22 =>
 tR (o_idxs (.c (.str [0,1,2,2,3,3,3,3,4,4,4,4,4,4,4,4,5,5,5,5,5,5,5,5,5,5,5,5,5,5,5,5,6,6,6,6,6,6,6,6,6,6,6,6,6,6,6,6,6,6,6,6,6,6,6,6,6,6,6,6,6,6,6,6,7,7,7,7,7,7,7,7,7,7,7,7,7,7,7,7,7,7,7,7,7,7,7,7,7,7,7,7,7,7,7,7,7,7,7,7,7,7,7,7,7,7,7,7,7,7,7,7,7,7,7,7,7,7,7,7,7,7,7,7,7,7,7,7,8,8,8,8,8,8,8,8,8,8,8,8,8,8,8,8,8,8,8,8,8,8,8,8,8,8,8,8,8,8,8,8,8,8,8,8,8,8,8,8,8,8,8,8,8,8,8,8,8,8,8,8,8,8,8,8,8,8,8,8,8,8,8,8,8,8,8,8,8,8,8,8,8,8,8,8,8,8,8,8,8,8,8,8,8,8,8,8,8,8,8,8,8,8,8,8,8,8,8,8,8,8,8,8,8,8,8,8,8,8,8,8,8,8,8,8,8,8,8,8,8,8,8,8,8,8,8,8])) (.c v21) .nil h22) fun v23 h24 =>
 tR (cK (.toInt .i64) v23 h24) fun v25 h26 =>
 tR (b_add v19 v25 h26) fun v27 h28 =>
 x (T20 v27) h28) (tR (cK (.toInt .u8) x13 h16) fun v29 h30 =>
 tR (o_idxs (.c (.str [0,1,2,2,3,3,3,3,4,4,4,4,4,4,4,4,5,5,5,5,5,5,5,5,5,5,5,5,5,5,5,5,6,6,6,6,6,6,6,6,6,6,6,6,6,6,6,6,6,6,6,6,6,6,6,6,6,6,6,6,6,6,6,6,7,7,7,7,7,7,7,7,7,7,7,7,7,7,7,7,7,7,7,7,7,7,7,7,7,7,7,7,7,7,7,7,7,7,7,7,7,7,7,7,7,7,7,7,7,7,7,7,7,7,7,7,7,7,7,7,7,7,7,7,7,7,7,7,8,8,8,8,8,8,8,8,8,8,8,8,8,8,8,8,8,8,8,8,8,8,8,8,8,8,8,8,8,8,8,8,8,8,8,8,8,8,8,8,8,8,8,8,8,8,8,8,8,8,8,8,8,8,8,8,8,8,8,8,8,8,8,8,8,8,8,8,8,8,8,8,8,8,8,8,8,8,8,8,8,8,8,8,8,8,8,8,8,8,8,8,8,8,8,8,8,8,8,8,8,8,8,8,8,8,8,8,8,8,8,8,8,8,8,8,8,8,8,8,8,8,8,8,8,8,8,8])) (.c v29) .nil h30) fun v31 h32 =>
 tR (cK (.toInt .i64) v31 h32) fun v33 h34 =>
 tR (b_add x14 v33 h34) fun v35 h36 =>
 x (T20 v35) h36)) (y0 r) (y2 r)
def k216_1 : KF := fun c i x r h => (fun (x5 x6 : AV) =>
 tR (b_ge x5 (.int .u64 (.ofNat 65536)) h) fun v7 h8 =>
 ifR v7 (tR (bK .shr x5 (.int .u64 (.ofNat 16)) h8) fun v9 h10 =>
 tR (b_add x6 (pi 16) h10) fun v11 h12 =>
 x (T68 v9 v11) h12) (x (T68 x5 x6) h8)) (y0 r) (y2 r)
def k216_0 : KF := fun c i x r h => (fun (x0 : AV) =>
 tR (b_ge x0 (.int .u64 (.ofNat 4294967296)) h) fun v1 h2 =>
 ifR v1 (tR (bK .shr x0 (.int .u64 (.ofNat 32)) h2) fun v3 h4 =>
 x (T68 v3 (pi 32)) h4) (x (T68 x0 (pi 0)) h2)) (y0 r)
def x216 : AC := (.shal k216_0 (.shal k216_1 (.shal k216_2 .ret)))
def z216 : List Rs := [.t .h0 .h2]
def f216 : AF := .mk x216 z216
def k217_3 : KF := fun c i x r h => (fun (x15 x16 x17 x18 x19 x20 : AV) =>
 ifR x20 (.nm (T91 x15 x16 x17 x18 x19) h) (.ex 2 (T91 x15 x16 x17 x18 x19) h)) (y0 r) (y1 r) (y2 r) (y6 r) (y7 r) (y30 r)
def k217_4 : KF := fun c i x r h => (fun (x21 x22 x23 x24 x25 : AV) =>
 tR (b_sub x25 (pi 1) h) fun v26 h27 =>
 .nm (T91 x21 x22 x23 x24 v26) h27) (y0 r) (y1 r) (y2 r) (y6 r) (y7 r)
def k217_2 : KF := fun c i x r h => (fun (x11 x12 x13 x14 : AV) =>
 x (T91 x11 x12 x13 x14 x14) h) (y0 r) (y1 r) (y2 r) (y6 r)
def k217_5 : KF := fun c i x r h => (fun (x28 x29 x30 x31 : AV) =>
 tR (b_add x31 (pi 1) h) fun v32 h33 =>
 .nm (T41 x28 x29 x30 v32) h33) (y0 r) (y1 r) (y2 r) (y6 r)
def k217_1 : KF := fun c i x r h => (fun (x5 x6 x7 x8 : AV) =>
 tR (b_lt x8 x7 h) fun v9 h10 =>
 ifR v9 (x (T41 x5 x6 x7 x8) h10) (.ex 0 T26 h10)) (y0 r) (y1 r) (y2 r) (y6 r)
def k217_0 : KF := fun c i x r h => (fun (x0 x1 x2 : AV) =>
 tR (b_add x1 (pi 1) h) fun v3 h4 =>
 x (T41 x0 x1 x2 v3) h4) (y0 r) (y1 r) (y2 r)
def x217 : AC := (.shal k217_0 (.block 0 (.loop (.shal k217_1 (.seq (.block 1 (.shal k217_2 (.block 2 (.loop (.seq (.seq (.drw [q 0 (m d16 r7),
 q 0 (m d17 r1),
 q 0 (o d18 (.bin .gt r16 r17)),
 q 0 (m d19 r18),
 q 0 (.g .h1 .h3 true d20 (.op (.mv r0))),
 q 0 (.g .h1 .h3 true d21 (.op (.mv r7))),
 q 0 (.g .h1 .h3 true d22 (.op (.ixs 1 r20 r21))),
 q 0 (.g .h1 .h3 true d23 (.op (.ld1 r22))),
 q 0 (.g .h1 .h3 true d24 (.op (.mv r0))),
 q 0 (.g .h1 .h3 true d25 (.op (.mv r7))),
 q 0 (.g .h1 .h3 true d26 (.op (.bin .sub r25 (.c (pi 1))))),
 q 0 (.g .h1 .h3 true d27 (.op (.ixs 1 r24 r26))),
 q 0 (.g .h1 .h3 true d28 (.op (.ld1 r27))),
 w (.g .h1 .h3 true d29 (.call 223 [r23,r28])),
 q 0 (o d30 (.pick r19 r29 (.c (.bool false))))]) (.shal k217_3 .skip)) (.seq (.block 3 (.drw [q 0 (m d33 r0),
 q 0 (m d34 r7),
 q 0 (m d38 r0),
 q 0 (m d39 r7),
 q 0 (o d40 (.bin .sub r39 (.c (pi 1)))),
 q 0 (o d41 (.ixs 1 r38 r40)),
 q 0 (o d42 (.ld1 r41)),
 q 0 (m d43 r0),
 q 0 (m d44 r7),
 q 0 (o d45 (.ixs 1 r43 r44)),
 q 0 (o d46 (.ld1 r45)),
 q 0 (o d47 (.ixs 1 r33 r34)),
 w (o .no (.st1 r47 r42)),
 q 1 (m d35 r0),
 q 1 (m d36 r7),
 q 1 (o d37 (.bin .sub r36 (.c (pi 1)))),
 q 0 (o d48 (.ixs 1 r35 r37)),
 w (o .no (.st1 r48 r46))])) (.shal k217_4 .skip))))))) (.shal k217_5 .skip))))))
def z217 : List Rs := []
def f217 : AF := .mk x217 z217
def k218_2 : KF := fun c i x r h => (fun (x13 x14 x15 x16 x17 : AV) =>
 tR (b_ge x17 (pi 0) h) fun v18 h19 =>
 ifR v18 (tT (c 231 [x13,x17,x16,x14] h19) fun v20 h21 =>
 tR (b_sub x17 (pi 1) h21) fun v22 h23 =>
 .nm (T165 x13 x14 x15 x16 v22) h23) (.ex 0 (T165 x13 x14 x15 x16 x17) h19)) (y0 r) (y6 r) (y7 r) (y8 r) (y9 r)
def k218_1 : KF := fun c i x r h => (fun (x5 x6 x7 x8 : AV) =>
 tR (b_sub x8 (pi 1) h) fun v9 h10 =>
 tR (b_quo v9 (pi 2) h10) fun v11 h12 =>
 x (T165 x5 x6 x7 x8 v11) h12) (y0 r) (y6 r) (y7 r) (y8 r)
def k218_5 : KF := fun c i x r h => (fun (x36 x37 x38 x39 : AV) =>
 tT (c 231 [x36,x38,x39,x37] h) fun v40 h41 =>
 .nm (T166 x36 x37 x38 x39) h41) (y0 r) (y6 r) (y7 r) (y10 r)
def k218_6 : KF := fun c i x r h => (fun (x42 x43 x44 x45 : AV) =>
 tR (b_sub x45 (pi 1) h) fun v46 h47 =>
 .nm (T166 x42 x43 x44 v46) h47) (y0 r) (y6 r) (y7 r) (y10 r)
def k218_4 : KF := fun c i x r h => (fun (x30 x31 x32 x33 : AV) =>
 tR (b_ge x33 (pi 0) h) fun v34 h35 =>
 ifR v34 (x (T166 x30 x31 x32 x33) h35) (.ex 2 T26 h35)) (y0 r) (y6 r) (y7 r) (y10 r)
def k218_3 : KF := fun c i x r h => (fun (x24 x25 x26 x27 : AV) =>
 tR (b_sub x27 (pi 1) h) fun v28 h29 =>
 x (T166 x24 x25 x26 v28) h29) (y0 r) (y6 r) (y7 r) (y8 r)
def k218_0 : KF := fun c i x r h => (fun (x0 x1 x2 : AV) =>
 tR (b_sub x2 x1 h) fun v3 h4 =>
 x (T164 x0 x1 (pi 0) v3) h4) (y0 r) (y1 r) (y2 r)
def x218 : AC := (.shal k218_0 (.seq (.shal k218_1 (.block 0 (.loop (.shal k218_2 .skip)))) (.shal k218_3 (.block 2 (.loop (.shal k218_4 (.seq (.block 3 (.seq (.drw [q 0 (m d33 r0),
 q 0 (m d34 r6),
 q 0 (m d39 r0),
 q 0 (m d40 r6),
 q 0 (m d41 r10),
 q 0 (o d42 (.bin .add r40 r41)),
 q 0 (o d43 (.ixs 1 r39 r42)),
 q 0 (o d44 (.ld1 r43)),
 q 0 (m d45 r0),
 q 0 (m d46 r6),
 q 0 (o d47 (.ixs 1 r45 r46)),
 q 0 (o d48 (.ld1 r47)),
 q 0 (o d49 (.ixs 1 r33 r34)),
 w (o .no (.st1 r49 r44)),
 q 1 (m d35 r0),
 q 1 (m d36 r6),
 q 1 (m d37 r10),
 q 1 (o d38 (.bin .add r36 r37)),
 q 0 (o d50 (.ixs 1 r35 r38)),
 w (o .no (.st1 r50 r48))]) (.shal k218_5 .skip))) (.shal k218_6 .skip))))))))
def z218 : List Rs := []
def f218 : AF := .mk x218 z218
def k219_3 : KF := fun c i x r h => (fun (x42 x43 x44 x45 x46 x47 : AV) =>
 tT (c 228 [x45] h) fun v48 h49 =>
 tR (b_sub x46 (.int .u64 (.ofNat 1)) h49) fun v50 h51 =>
 tR (b_and v48 v50 h51) fun v52 h53 =>
 tR (cK (.toInt .i64) v52 h53) fun v54 h55 =>
 tR (b_ge v54 x44 h55) fun v56 h57 =>
 ifR v56 (tR (b_sub v54 x44 h57) fun v58 h59 =>
 x (T169 x42 x43 x44 x45 x46 x47 v58) h59) (x (T169 x42 x43 x44 x45 x46 x47 v54) h57)) (y0 r) (y1 r) (y6 r) (y7 r) (y8 r) (y9 r)
def k219_4 : KF := fun c i x r h => (fun (x60 x61 x62 x63 x64 x65 : AV) =>
 tR (b_add x65 (pi 1) h) fun v66 h67 =>
 .nm (T168 x60 x61 x62 x63 x64 v66) h67) (y0 r) (y1 r) (y6 r) (y7 r) (y8 r) (y9 r)
def k219_2 : KF := fun c i x r h => (fun (x26 x27 x28 x29 x30 x31 : AV) =>
 tR (b_quo x28 (pi 4) h) fun v32 h33 =>
 tR (b_mul v32 (pi 2) h33) fun v34 h35 =>
 tR (b_add x27 v34 h35) fun v36 h37 =>
 tR (b_add v36 (pi 1) h37) fun v38 h39 =>
 tR (b_le x31 v38 h39) fun v40 h41 =>
 ifR v40 (x (T168 x26 x27 x28 x29 x30 x31) h41) (.ex 0 T26 h41)) (y0 r) (y1 r) (y6 r) (y7 r) (y8 r) (y9 r)
def k219_1 : KF := fun c i x r h => (fun (x7 x8 x9 : AV) =>
 tR (cK (.toInt .u64) x9 h) fun v10 h11 =>
 tR (o_alloc 265 1 (.k1 (.mk (.int .u64 (.ofNat 0)) .undef .undef .undef .undef .undef .undef .undef .undef .undef .undef .undef .undef .undef .undef .undef)) .nil h11) fun v12 h13 =>
 tR (sto v12 v10 h13) fun v14 h15 =>
 tT (c 227 [x9] h15) fun v16 h17 =>
 tR (b_quo x9 (pi 4) h17) fun v18 h19 =>
 tR (b_mul v18 (pi 2) h19) fun v20 h21 =>
 tR (b_add x8 v20 h21) fun v22 h23 =>
 tR (b_sub v22 (pi 1) h23) fun v24 h25 =>
 x (T168 x7 x8 x9 v12 v16 v24) h25) (y0 r) (y1 r) (y6 r)
def k219_0 : KF := fun c i x r h => (fun (x0 x1 x2 : AV) =>
 tR (b_sub x2 x1 h) fun v3 h4 =>
 tR (b_ge v3 (pi 8) h4) fun v5 h6 =>
 x (T167 x0 x1 v3 v5) h6) (y0 r) (y1 r) (y2 r)
def x219 : AC := (.shal k219_0 (.cond r15 (.shal k219_1 (.block 0 (.loop (.shal k219_2 (.seq (.block 1 (.shal k219_3 (.drw [q 0 (m d47 r0),
 q 0 (m d48 r9),
 q 0 (m d53 r0),
 q 0 (m d54 r1),
 q 0 (m d55 r10),
 q 0 (o d56 (.bin .add r54 r55)),
 q 0 (o d57 (.ixs 1 r53 r56)),
 q 0 (o d58 (.ld1 r57)),
 q 0 (m d59 r0),
 q 0 (m d60 r9),
 q 0 (o d61 (.ixs 1 r59 r60)),
 q 0 (o d62 (.ld1 r61)),
 q 0 (o d63 (.ixs 1 r47 r48)),
 w (o .no (.st1 r63 r58)),
 q 1 (m d49 r0),
 q 1 (m d50 r1),
 q 1 (m d51 r10),
 q 1 (o d52 (.bin .add r50 r51)),
 q 0 (o d64 (.ixs 1 r49 r52)),
 w (o .no (.st1 r64 r62))]))) (.shal k219_4 .skip)))))) .skip))
def z219 : List Rs := []
def f219 : AF := .mk x219 z219
def k220_3 : KF := fun c i x r h => (fun (x51 x52 : AV) =>
 tR (ld x51 h) fun v53 h54 =>
 tR (b_eq v53 (pi 0) h54) fun v55 h56 =>
 ifR v55 (.ret (T83 x52 (pi 1)) h56) (tR (b_eq v53 (pi 12) h56) fun v57 h58 =>
 ifR v57 (.ret (T83 x52 (pi 2)) h58) (.ret (T83 x52 (pi 0)) h58))) (y9 r) (y11 r)
def k220_2 : KF := fun c i x r h => (fun (x31 x32 x33 x34 x35 x36 : AV) =>
 tR (b_ge x32 (pi 8) h) fun v37 h38 =>
 ifR v37 (tR (b_ge x32 (pi 50) h38) fun v39 h40 =>
 ifR v39 (tT (c 232 [x31,x34,x33] h40) fun v41 h42 =>
 tT (c 232 [x31,x35,x33] h42) fun v43 h44 =>
 tT (c 232 [x31,x36,x33] h44) fun v45 h46 =>
 tT (c 233 [x31,v41,v43,v45,x33] h46) fun v47 h48 =>
 x (T171 x33 v47) h48) (tT (c 233 [x31,x34,x35,x36,x33] h40) fun v49 h50 =>
 x (T171 x33 v49) h50)) (x (T171 x33 x35) h38)) (y0 r) (y8 r) (y9 r) (y10 r) (y11 r) (y12 r)
def k220_1 : KF := fun c i x r h => (fun (x19 x20 x21 x22 x23 x24 : AV) =>
 tR (b_quo x21 (pi 4) h) fun v25 h26 =>
 tR (b_mul v25 (pi 3) h26) fun v27 h28 =>
 tR (b_add x20 v27 h28) fun v29 h30 =>
 x (T170 x19 x21 x22 x23 x24 v29) h30) (y0 r) (y1 r) (y8 r) (y9 r) (y10 r) (y11 r)
def k220_0 : KF := fun c i x r h => (fun (x0 x1 x2 : AV) =>
 tR (b_sub x2 x1 h) fun v3 h4 =>
 tR (o_alloc 3 1 (.k1 (.mk (pi 0) .undef .undef .undef .undef .undef .undef .undef .undef .undef .undef .undef .undef .undef .undef .undef)) .nil h4) fun v5 h6 =>
 tR (b_quo v3 (pi 4) h6) fun v7 h8 =>
 tR (b_mul v7 (pi 1) h8) fun v9 h10 =>
 tR (b_add x1 v9 h10) fun v11 h12 =>
 tR (b_quo v3 (pi 4) h12) fun v13 h14 =>
 tR (b_mul v13 (pi 2) h14) fun v15 h16 =>
 tR (b_add x1 v15 h16) fun v17 h18 =>
 x (T144 x0 x1 v3 v5 v11 v17) h18) (y0 r) (y1 r) (y2 r)
def x220 : AC := (.shal k220_0 (.shal k220_1 (.shal k220_2 (.shal k220_3 .skip))))
def z220 : List Rs := [.t .h0 .h6,.t .h0 .h7]
def f220 : AF := .mk x220 z220
def k221_2 : KF := fun c i x r h => (fun (x10 x11 x12 : AV) =>
 tR (b_add x11 (pi 1) h) fun v13 h14 =>
 tR (b_sub x12 (pi 1) h14) fun v15 h16 =>
 .nm (T172 x10 v13 v15) h16) (y0 r) (y6 r) (y7 r)
def k221_1 : KF := fun c i x r h => (fun (x5 x6 x7 : AV) =>
 tR (b_lt x6 x7 h) fun v8 h9 =>
 ifR v8 (x (T172 x5 x6 x7) h9) (.ex 0 T26 h9)) (y0 r) (y6 r) (y7 r)
def k221_0 : KF := fun c i x r h => (fun (x0 x1 x2 : AV) =>
 tR (b_sub x2 (pi 1) h) fun v3 h4 =>
 x (T172 x0 x1 v3) h4) (y0 r) (y1 r) (y2 r)
def x221 : AC := (.shal k221_0 (.block 0 (.loop (.shal k221_1 (.block 1 (.seq (.drw [q 0 (m d14 r0),
 q 0 (m d15 r6),
 q 0 (m d18 r0),
 q 0 (m d19 r7),
 q 0 (o d20 (.ixs 1 r18 r19)),
 q 0 (o d21 (.ld1 r20)),
 q 0 (m d22 r0),
 q 0 (m d23 r6),
 q 0 (o d24 (.ixs 1 r22 r23)),
 q 0 (o d25 (.ld1 r24)),
 q 0 (o d26 (.ixs 1 r14 r15)),
 w (o .no (.st1 r26 r21)),
 q 1 (m d16 r0),
 q 1 (m d17 r7),
 q 0 (o d27 (.ixs 1 r16 r17)),
 w (o .no (.st1 r27 r25))]) (.shal k221_2 .skip)))))))
def z221 : List Rs := []
def f221 : AF := .mk x221 z221
def k222_3 : KF := fun c i x r h => (fun (x16 x17 x18 x19 x20 x21 : AV) =>
 ifR x21 (.nm (T173 x16 x17 x18 x19 x20) h) (.ex 2 (T173 x16 x17 x18 x19 x20) h)) (y0 r) (y1 r) (y2 r) (y7 r) (y8 r) (y32 r)
def k222_4 : KF := fun c i x r h => (fun (x22 x23 x24 x25 x26 : AV) =>
 tR (b_add x25 (pi 1) h) fun v27 h28 =>
 .nm (T173 x22 x23 x24 v27 x26) h28) (y0 r) (y1 r) (y2 r) (y7 r) (y8 r)
def k222_9 : KF := fun c i x r h => (fun (x64 x65 x66 x67 x68 x69 : AV) =>
 tQ (ix 1 x64 x69 h) fun v70 =>
 tQ (ld v70 h) fun v71 =>
 tQ (b_sub x69 (pi 1) h) fun v72 =>
 tQ (ix 1 x64 v72 h) fun v73 =>
 tQ (ld v73 h) fun v74 =>
 tX (c 223 [v71,v74] h) fun v75 h76 =>
 tQ (u_not v75 h76) fun v77 =>
 ifR v77 (.ex 4 (T173 x64 x65 x66 x67 x68) h76) (x (T175 x64 x65 x66 x67 x68 x69) h76)) (y0 r) (y1 r) (y2 r) (y7 r) (y8 r) (y9 r)
def k222_10 : KF := fun c i x r h => (fun (x78 x79 x80 x81 x82 x83 : AV) =>
 tR (b_sub x83 (pi 1) h) fun v84 h85 =>
 .nm (T175 x78 x79 x80 x81 x82 v84) h85) (y0 r) (y1 r) (y2 r) (y7 r) (y8 r) (y9 r)
def k222_8 : KF := fun c i x r h => (fun (x56 x57 x58 x59 x60 x61 : AV) =>
 tR (b_ge x61 (pi 1) h) fun v62 h63 =>
 ifR v62 (x (T175 x56 x57 x58 x59 x60 x61) h63) (.ex 4 (T173 x56 x57 x58 x59 x60) h63)) (y0 r) (y1 r) (y2 r) (y7 r) (y8 r) (y9 r)
def k222_7 : KF := fun c i x r h => (fun (x49 x50 x51 x52 x53 : AV) =>
 tR (b_sub x52 (pi 1) h) fun v54 h55 =>
 x (T175 x49 x50 x51 x52 x53 v54) h55) (y0 r) (y1 r) (y2 r) (y7 r) (y8 r)
def k222_6 : KF := fun c i x r h => (fun (x40 x41 x42 x43 x44 : AV) =>
 tR (b_sub x43 x41 h) fun v45 h46 =>
 tR (b_ge v45 (pi 2) h46) fun v47 h48 =>
 x (T174 x40 x41 x42 x43 x44 v47) h48) (y0 r) (y1 r) (y2 r) (y7 r) (y8 r)
def k222_14 : KF := fun c i x r h => (fun (x110 x111 x112 x113 x114 x115 : AV) =>
 tQ (ix 1 x110 x115 h) fun v116 =>
 tQ (ld v116 h) fun v117 =>
 tQ (b_sub x115 (pi 1) h) fun v118 =>
 tQ (ix 1 x110 v118 h) fun v119 =>
 tQ (ld v119 h) fun v120 =>
 tX (c 223 [v117,v120] h) fun v121 h122 =>
 tQ (u_not v121 h122) fun v123 =>
 ifR v123 (.ex 6 (T173 x110 x111 x112 x113 x114) h122) (x (T177 x110 x111 x112 x113 x114 x115) h122)) (y0 r) (y1 r) (y2 r) (y7 r) (y8 r) (y10 r)
def k222_15 : KF := fun c i x r h => (fun (x124 x125 x126 x127 x128 x129 : AV) =>
 tR (b_add x129 (pi 1) h) fun v130 h131 =>
 .nm (T177 x124 x125 x126 x127 x128 v130) h131) (y0 r) (y1 r) (y2 r) (y7 r) (y8 r) (y10 r)
def k222_13 : KF := fun c i x r h => (fun (x102 x103 x104 x105 x106 x107 : AV) =>
 tR (b_lt x107 x104 h) fun v108 h109 =>
 ifR v108 (x (T177 x102 x103 x104 x105 x106 x107) h109) (.ex 6 (T173 x102 x103 x104 x105 x106) h109)) (y0 r) (y1 r) (y2 r) (y7 r) (y8 r) (y10 r)
def k222_12 : KF := fun c i x r h => (fun (x95 x96 x97 x98 x99 : AV) =>
 tR (b_add x98 (pi 1) h) fun v100 h101 =>
 x (T177 x95 x96 x97 x98 x99 v100) h101) (y0 r) (y1 r) (y2 r) (y7 r) (y8 r)
def k222_11 : KF := fun c i x r h => (fun (x86 x87 x88 x89 x90 : AV) =>
 tR (b_sub x88 x89 h) fun v91 h92 =>
 tR (b_ge v91 (pi 2) h92) fun v93 h94 =>
 x (T176 x86 x87 x88 x89 x90 v93) h94) (y0 r) (y1 r) (y2 r) (y7 r) (y8 r)
def k222_5 : KF := fun c i x r h => (fun (x29 x30 x31 x32 x33 : AV) =>
 tR (b_eq x32 x31 h) fun v34 h35 =>
 ifR v34 (.ret (T32 (.bool true)) h35) (tR (b_sub x31 x30 h35) fun v36 h37 =>
 tR (b_lt v36 (pi 50) h37) fun v38 h39 =>
 ifR v38 (.ret (T32 (.bool false)) h39) (x (T173 x29 x30 x31 x32 x33) h39))) (y0 r) (y1 r) (y2 r) (y7 r) (y8 r)
def k222_16 : KF := fun c i x r h => (fun (x132 x133 x134 x135 x136 : AV) =>
 tR (b_add x136 (pi 1) h) fun v137 h138 =>
 .nm (T173 x132 x133 x134 x135 v137) h138) (y0 r) (y1 r) (y2 r) (y7 r) (y8 r)
def k222_2 : KF := fun c i x r h => (fun (x9 x10 x11 x12 x13 : AV) =>
 tR (b_lt x13 (pi 5) h) fun v14 h15 =>
 ifR v14 (x (T173 x9 x10 x11 x12 x13) h15) (.ex 0 T26 h15)) (y0 r) (y1 r) (y2 r) (y7 r) (y8 r)
def k222_1 : KF := fun c i x r h => (fun (x5 x6 x7 x8 : AV) =>
 x (T173 x5 x6 x7 x8 (pi 0)) h) (y0 r) (y1 r) (y2 r) (y7 r)
def k222_17 : KF := fun c i x r h => .ret (T32 (.bool false)) h
def k222_0 : KF := fun c i x r h => (fun (x0 x1 x2 : AV) =>
 tR (b_add x1 (pi 1) h) fun v3 h4 =>
 x (T42 x0 x1 x2 v3) h4) (y0 r) (y1 r) (y2 r)
def x222 : AC := (.shal k222_0 (.seq (.shal k222_1 (.block 0 (.loop (.shal k222_2 (.seq (.block 1 (.seq (.block 2 (.loop (.seq (.seq (.drw [q 0 (m d17 r7),
 q 0 (m d18 r2),
 q 0 (o d19 (.bin .lt r17 r18)),
 q 0 (m d20 r19),
 q 0 (.g .h1 .h4 true d21 (.op (.mv r0))),
 q 0 (.g .h1 .h4 true d22 (.op (.mv r7))),
 q 0 (.g .h1 .h4 true d23 (.op (.ixs 1 r21 r22))),
 q 0 (.g .h1 .h4 true d24 (.op (.ld1 r23))),
 q 0 (.g .h1 .h4 true d25 (.op (.mv r0))),
 q 0 (.g .h1 .h4 true d26 (.op (.mv r7))),
 q 0 (.g .h1 .h4 true d27 (.op (.bin .sub r26 (.c (pi 1))))),
 q 0 (.g .h1 .h4 true d28 (.op (.ixs 1 r25 r27))),
 q 0 (.g .h1 .h4 true d29 (.op (.ld1 r28))),
 w (.g .h1 .h4 true d30 (.call 223 [r24,r29])),
 q 0 (.g .h1 .h4 true d31 (.op (.un .not r30))),
 q 0 (o d32 (.pick r20 r31 (.c (.bool false))))]) (.shal k222_3 .skip)) (.shal k222_4 .skip)))) (.shal k222_5 (.seq (.drw [q 0 (m d42 r0),
 q 0 (m d43 r7),
 q 0 (m d47 r0),
 q 0 (m d48 r7),
 q 0 (o d49 (.bin .sub r48 (.c (pi 1)))),
 q 0 (o d50 (.ixs 1 r47 r49)),
 q 0 (o d51 (.ld1 r50)),
 q 0 (m d52 r0),
 q 0 (m d53 r7),
 q 0 (o d54 (.ixs 1 r52 r53)),
 q 0 (o d55 (.ld1 r54)),
 q 0 (o d56 (.ixs 1 r42 r43)),
 w (o .no (.st1 r56 r51)),
 q 1 (m d44 r0),
 q 1 (m d45 r7),
 q 1 (o d46 (.bin .sub r45 (.c (pi 1)))),
 q 0 (o d57 (.ixs 1 r44 r46)),
 w (o .no (.st1 r57 r55))]) (.seq (.shal k222_6 (.cond r61 (.shal k222_7 (.block 4 (.loop (.shal k222_8 (.seq (.block 5 (.shal k222_9 (.drw [q 0 (m d79 r0),
 q 0 (m d80 r9),
 q 0 (m d84 r0),
 q 0 (m d85 r9),
 q 0 (o d86 (.bin .sub r85 (.c (pi 1)))),
 q 0 (o d87 (.ixs 1 r84 r86)),
 q 0 (o d88 (.ld1 r87)),
 q 0 (m d89 r0),
 q 0 (m d90 r9),
 q 0 (o d91 (.ixs 1 r89 r90)),
 q 0 (o d92 (.ld1 r91)),
 q 0 (o d93 (.ixs 1 r79 r80)),
 w (o .no (.st1 r93 r88)),
 q 1 (m d81 r0),
 q 1 (m d82 r9),
 q 1 (o d83 (.bin .sub r82 (.c (pi 1)))),
 q 0 (o d94 (.ixs 1 r81 r83)),
 w (o .no (.st1 r94 r92))]))) (.shal k222_10 .skip)))))) .skip)) (.shal k222_11 (.cond r98 (.shal k222_12 (.block 6 (.loop (.shal k222_13 (.seq (.block 7 (.shal k222_14 (.drw [q 0 (m d117 r0),
 q 0 (m d118 r10),
 q 0 (m d122 r0),
 q 0 (m d123 r10),
 q 0 (o d124 (.bin .sub r123 (.c (pi 1)))),
 q 0 (o d125 (.ixs 1 r122 r124)),
 q 0 (o d126 (.ld1 r125)),
 q 0 (m d127 r0),
 q 0 (m d128 r10),
 q 0 (o d129 (.ixs 1 r127 r128)),
 q 0 (o d130 (.ld1 r129)),
 q 0 (o d131 (.ixs 1 r117 r118)),
 w (o .no (.st1 r131 r126)),
 q 1 (m d119 r0),
 q 1 (m d120 r10),
 q 1 (o d121 (.bin .sub r120 (.c (pi 1)))),
 q 0 (o d132 (.ixs 1 r119 r121)),
 w (o .no (.st1 r132 r130))]))) (.shal k222_15 .skip)))))) .skip))))))) (.shal k222_16 .skip)))))) (.shal k222_17 .skip)))
def z222 : List Rs := [.t .h0 .h6]
def f222 : AF := .mk x222 z222
def k223_0 : KF := fun c i x r h => (fun (x0 x1 : AV) =>
 x (T13 x0 x1) h) (y0 r) (y1 r)
def x223 : AC := (.shal k223_0 (.seq (.ops [m d5 r0,
 .o d6 (.call 204 [r5]),
 m d7 r6,
 .g .h0 .h7 true d8 (.op (.mv r1)),
 .g .h0 .h7 true d9 (.call 204 [r8]),
 .g .h0 .h7 true d10 (.op (.un .not r9)),
 o d11 (.pick r7 r10 (.c (.bool false))),
 m d12 r11,
 .g .h0 .hc false d13 (.op (.mv r0)),
 .g .h0 .hc false d14 (.op (.mv r1)),
 .g .h0 .hc false d15 (.op (.bin .lt r13 r14)),
 o d16 (.pick r12 (.c (.bool true)) r15),
 m d4 r16]) .ret))
def z223 : List Rs := [.t .h0 .h4]
def f223 : AF := .mk x223 z223
def k224_2 : KF := fun c i x r h => (fun (x11 x12 x13 x14 x15 : AV) =>
 ifR x15 (.nm (T179 x11 x12 x13 x14) h) (.ex 2 (T179 x11 x12 x13 x14) h)) (y0 r) (y1 r) (y9 r) (y10 r) (y43 r)
def k224_3 : KF := fun c i x r h => (fun (x16 x17 x18 x19 : AV) =>
 tR (b_add x18 (pi 1) h) fun v20 h21 =>
 .nm (T179 x16 x17 v20 x19) h21) (y0 r) (y1 r) (y9 r) (y10 r)
def k224_4 : KF := fun c i x r h => (fun (x22 x23 x24 x25 x26 : AV) =>
 ifR x26 (.nm (T179 x22 x23 x24 x25) h) (.ex 4 (T179 x22 x23 x24 x25) h)) (y0 r) (y1 r) (y9 r) (y10 r) (y59 r)
def k224_5 : KF := fun c i x r h => (fun (x27 x28 x29 x30 : AV) =>
 tR (b_sub x30 (pi 1) h) fun v31 h32 =>
 .nm (T179 x27 x28 x29 v31) h32) (y0 r) (y1 r) (y9 r) (y10 r)
def k224_7 : KF := fun c i x r h => (fun (x39 x40 x41 x42 : AV) =>
 tR (b_add x41 (pi 1) h) fun v43 h44 =>
 tR (b_sub x42 (pi 1) h44) fun v45 h46 =>
 .nm (T179 x39 x40 v43 v45) h46) (y0 r) (y1 r) (y9 r) (y10 r)
def k224_6 : KF := fun c i x r h => (fun (x33 x34 x35 x36 : AV) =>
 tR (b_gt x35 x36 h) fun v37 h38 =>
 ifR v37 (.ex 0 (T180 x35) h38) (x (T179 x33 x34 x35 x36) h38)) (y0 r) (y1 r) (y9 r) (y10 r)
def k224_8 : KF := fun c i x r h => (fun (x47 : AV) =>
 .ret (T107 x47) h) (y9 r)
def k224_1 : KF := fun c i x r h => (fun (x4 x5 x6 : AV) =>
 tR (b_add x5 (pi 1) h) fun v7 h8 =>
 tR (b_sub x6 (pi 1) h8) fun v9 h10 =>
 x (T179 x4 x5 v7 v9) h10) (y0 r) (y1 r) (y2 r)
def k224_0 : KF := fun c i x r h => (fun (x0 x1 x2 x3 : AV) =>
 x (T178 x0 x1 x2 x3) h) (y0 r) (y1 r) (y2 r) (y3 r)
def x224 : AC := (.shal k224_0 (.seq (.drw [q 0 (m d11 r0),
 q 0 (m d12 r1),
 q 0 (m d15 r0),
 q 0 (m d16 r3),
 q 0 (o d17 (.ixs 1 r15 r16)),
 q 0 (o d18 (.ld1 r17)),
 q 0 (m d19 r0),
 q 0 (m d20 r1),
 q 0 (o d21 (.ixs 1 r19 r20)),
 q 0 (o d22 (.ld1 r21)),
 q 0 (o d23 (.ixs 1 r11 r12)),
 w (o .no (.st1 r23 r18)),
 q 1 (m d13 r0),
 q 1 (m d14 r3),
 q 0 (o d24 (.ixs 1 r13 r14)),
 w (o .no (.st1 r24 r22))]) (.shal k224_1 (.seq (.block 0 (.loop (.block 1 (.seq (.block 2 (.loop (.seq (.seq (.drw [q 0 (m d29 r9),
 q 0 (m d30 r10),
 q 0 (o d31 (.bin .le r29 r30)),
 q 0 (m d32 r31),
 q 0 (.g .h2 .h0 true d33 (.op (.mv r0))),
 q 0 (.g .h2 .h0 true d34 (.op (.mv r1))),
 q 0 (.g .h2 .h0 true d35 (.op (.ixs 1 r33 r34))),
 q 0 (.g .h2 .h0 true d36 (.op (.ld1 r35))),
 q 0 (.g .h2 .h0 true d37 (.op (.mv r0))),
 q 0 (.g .h2 .h0 true d38 (.op (.mv r9))),
 q 0 (.g .h2 .h0 true d39 (.op (.ixs 1 r37 r38))),
 q 0 (.g .h2 .h0 true d40 (.op (.ld1 r39))),
 w (.g .h2 .h0 true d41 (.call 223 [r36,r40])),
 q 0 (.g .h2 .h0 true d42 (.op (.un .not r41))),
 q 0 (o d43 (.pick r32 r42 (.c (.bool false))))]) (.shal k224_2 .skip)) (.shal k224_3 .skip)))) (.seq (.block 4 (.loop (.seq (.seq (.drw [q 0 (m d46 r9),
 q 0 (m d47 r10),
 q 0 (o d48 (.bin .le r46 r47)),
 q 0 (m d49 r48),
 q 0 (.g .h3 .h1 true d50 (.op (.mv r0))),
 q 0 (.g .h3 .h1 true d51 (.op (.mv r1))),
 q 0 (.g .h3 .h1 true d52 (.op (.ixs 1 r50 r51))),
 q 0 (.g .h3 .h1 true d53 (.op (.ld1 r52))),
 q 0 (.g .h3 .h1 true d54 (.op (.mv r0))),
 q 0 (.g .h3 .h1 true d55 (.op (.mv r10))),
 q 0 (.g .h3 .h1 true d56 (.op (.ixs 1 r54 r55))),
 q 0 (.g .h3 .h1 true d57 (.op (.ld1 r56))),
 w (.g .h3 .h1 true d58 (.call 223 [r53,r57])),
 q 0 (o d59 (.pick r49 r58 (.c (.bool false))))]) (.shal k224_4 .skip)) (.shal k224_5 .skip)))) (.shal k224_6 (.seq (.drw [q 0 (m d65 r0),
 q 0 (m d66 r9),
 q 0 (m d69 r0),
 q 0 (m d70 r10),
 q 0 (o d71 (.ixs 1 r69 r70)),
 q 0 (o d72 (.ld1 r71)),
 q 0 (m d73 r0),
 q 0 (m d74 r9),
 q 0 (o d75 (.ixs 1 r73 r74)),
 q 0 (o d76 (.ld1 r75)),
 q 0 (o d77 (.ixs 1 r65 r66)),
 w (o .no (.st1 r77 r72)),
 q 1 (m d67 r0),
 q 1 (m d68 r10),
 q 0 (o d78 (.ixs 1 r67 r68)),
 w (o .no (.st1 r78 r76))]) (.shal k224_7 .skip)))))))) (.shal k224_8 .skip)))))
def z224 : List Rs := [.t .h0 .h8]
def f224 : AF := .mk x224 z224
def k225_2 : KF := fun c i x r h => (fun (x11 x12 x13 x14 x15 : AV) =>
 ifR x15 (.nm (T181 x11 x12 x13 x14) h) (.ex 0 (T181 x11 x12 x13 x14) h)) (y0 r) (y1 r) (y10 r) (y11 r) (y43 r)
def k225_3 : KF := fun c i x r h => (fun (x16 x17 x18 x19 : AV) =>
 tR (b_add x18 (pi 1) h) fun v20 h21 =>
 .nm (T181 x16 x17 v20 x19) h21) (y0 r) (y1 r) (y10 r) (y11 r)
def k225_4 : KF := fun c i x r h => (fun (x22 x23 x24 x25 x26 : AV) =>
 ifR x26 (.nm (T181 x22 x23 x24 x25) h) (.ex 2 (T181 x22 x23 x24 x25) h)) (y0 r) (y1 r) (y10 r) (y11 r) (y60 r)
def k225_5 : KF := fun c i x r h => (fun (x27 x28 x29 x30 : AV) =>
 tR (b_sub x30 (pi 1) h) fun v31 h32 =>
 .nm (T181 x27 x28 x29 v31) h32) (y0 r) (y1 r) (y10 r) (y11 r)
def k225_7 : KF := fun c i x r h => (fun (x39 : AV) =>
 .ret (T149 x39 (.bool true)) h) (y11 r)
def k225_6 : KF := fun c i x r h => (fun (x33 x34 x35 x36 : AV) =>
 tR (b_gt x35 x36 h) fun v37 h38 =>
 x (T182 x33 x34 x35 x36 v37) h38) (y0 r) (y1 r) (y10 r) (y11 r)
def k225_9 : KF := fun c i x r h => (fun (x48 x49 x50 x51 x52 : AV) =>
 ifR x52 (.nm (T181 x48 x49 x50 x51) h) (.ex 6 (T181 x48 x49 x50 x51) h)) (y0 r) (y1 r) (y10 r) (y11 r) (y112 r)
def k225_10 : KF := fun c i x r h => (fun (x53 x54 x55 x56 : AV) =>
 tR (b_add x55 (pi 1) h) fun v57 h58 =>
 .nm (T181 x53 x54 v57 x56) h58) (y0 r) (y1 r) (y10 r) (y11 r)
def k225_11 : KF := fun c i x r h => (fun (x59 x60 x61 x62 x63 : AV) =>
 ifR x63 (.nm (T181 x59 x60 x61 x62) h) (.ex 8 (T181 x59 x60 x61 x62) h)) (y0 r) (y1 r) (y10 r) (y11 r) (y129 r)
def k225_12 : KF := fun c i x r h => (fun (x64 x65 x66 x67 : AV) =>
 tR (b_sub x67 (pi 1) h) fun v68 h69 =>
 .nm (T181 x64 x65 x66 v68) h69) (y0 r) (y1 r) (y10 r) (y11 r)
def k225_14 : KF := fun c i x r h => (fun (x76 x77 x78 x79 : AV) =>
 tR (b_add x78 (pi 1) h) fun v80 h81 =>
 tR (b_sub x79 (pi 1) h81) fun v82 h83 =>
 .nm (T181 x76 x77 v80 v82) h83) (y0 r) (y1 r) (y10 r) (y11 r)
def k225_13 : KF := fun c i x r h => (fun (x70 x71 x72 x73 : AV) =>
 tR (b_gt x72 x73 h) fun v74 h75 =>
 ifR v74 (.ex 4 (T183 x70 x71 x73) h75) (x (T181 x70 x71 x72 x73) h75)) (y0 r) (y1 r) (y10 r) (y11 r)
def k225_15 : KF := fun c i x r h => (fun (x84 : AV) =>
 .ret (T149 x84 (.bool false)) h) (y11 r)
def k225_8 : KF := fun c i x r h => (fun (x40 x41 x42 x43 : AV) =>
 tR (b_add x42 (pi 1) h) fun v44 h45 =>
 tR (b_sub x43 (pi 1) h45) fun v46 h47 =>
 x (T181 x40 x41 v44 v46) h47) (y0 r) (y1 r) (y10 r) (y11 r)
def k225_1 : KF := fun c i x r h => (fun (x4 x5 x6 : AV) =>
 tR (b_add x5 (pi 1) h) fun v7 h8 =>
 tR (b_sub x6 (pi 1) h8) fun v9 h10 =>
 x (T181 x4 x5 v7 v9) h10) (y0 r) (y1 r) (y2 r)
def k225_0 : KF := fun c i x r h => (fun (x0 x1 x2 x3 : AV) =>
 x (T178 x0 x1 x2 x3) h) (y0 r) (y1 r) (y2 r) (y3 r)
def x225 : AC := (.shal k225_0 (.seq (.drw [q 0 (m d12 r0),
 q 0 (m d13 r1),
 q 0 (m d16 r0),
 q 0 (m d17 r3),
 q 0 (o d18 (.ixs 1 r16 r17)),
 q 0 (o d19 (.ld1 r18)),
 q 0 (m d20 r0),
 q 0 (m d21 r1),
 q 0 (o d22 (.ixs 1 r20 r21)),
 q 0 (o d23 (.ld1 r22)),
 q 0 (o d24 (.ixs 1 r12 r13)),
 w (o .no (.st1 r24 r19)),
 q 1 (m d14 r0),
 q 1 (m d15 r3),
 q 0 (o d25 (.ixs 1 r14 r15)),
 w (o .no (.st1 r25 r23))]) (.shal k225_1 (.seq (.block 0 (.loop (.seq (.seq (.drw [q 0 (m d30 r10),
 q 0 (m d31 r11),
 q 0 (o d32 (.bin .le r30 r31)),
 q 0 (m d33 r32),
 q 0 (.g .h2 .h1 true d34 (.op (.mv r0))),
 q 0 (.g .h2 .h1 true d35 (.op (.mv r10))),
 q 0 (.g .h2 .h1 true d36 (.op (.ixs 1 r34 r35))),
 q 0 (.g .h2 .h1 true d37 (.op (.ld1 r36))),
 q 0 (.g .h2 .h1 true d38 (.op (.mv r0))),
 q 0 (.g .h2 .h1 true d39 (.op (.mv r1))),
 q 0 (.g .h2 .h1 true d40 (.op (.ixs 1 r38 r39))),
 q 0 (.g .h2 .h1 true d41 (.op (.ld1 r40))),
 w (.g .h2 .h1 true d42 (.call 223 [r37,r41])),
 q 0 (o d43 (.pick r33 r42 (.c (.bool false))))]) (.shal k225_2 .skip)) (.shal k225_3 .skip)))) (.seq (.block 2 (.loop (.seq (.seq (.drw [q 0 (m d46 r10),
 q 0 (m d47 r11),
 q 0 (o d48 (.bin .le r46 r47)),
 q 0 (m d49 r48),
 q 0 (.g .h3 .h1 true d50 (.op (.mv r0))),
 q 0 (.g .h3 .h1 true d51 (.op (.mv r11))),
 q 0 (.g .h3 .h1 true d52 (.op (.ixs 1 r50 r51))),
 q 0 (.g .h3 .h1 true d53 (.op (.ld1 r52))),
 q 0 (.g .h3 .h1 true d54 (.op (.mv r0))),
 q 0 (.g .h3 .h1 true d55 (.op (.mv r1))),
 q 0 (.g .h3 .h1 true d56 (.op (.ixs 1 r54 r55))),
 q 0 (.g .h3 .h1 true d57 (.op (.ld1 r56))),
 w (.g .h3 .h1 true d58 (.call 223 [r53,r57])),
 q 0 (.g .h3 .h1 true d59 (.op (.un .not r58))),
 q 0 (o d60 (.pick r49 r59 (.c (.bool false))))]) (.shal k225_4 .skip)) (.shal k225_5 .skip)))) (.seq (.shal k225_6 (.cond r65 (.seq (.drw [q 0 (m d66 r0),
 q 0 (m d67 r11),
 q 0 (m d70 r0),
 q 0 (m d71 r1),
 q 0 (o d72 (.ixs 1 r70 r71)),
 q 0 (o d73 (.ld1 r72)),
 q 0 (m d74 r0),
 q 0 (m d75 r11),
 q 0 (o d76 (.ixs 1 r74 r75)),
 q 0 (o d77 (.ld1 r76)),
 q 0 (o d78 (.ixs 1 r66 r67)),
 w (o .no (.st1 r78 r73)),
 q 1 (m d68 r0),
 q 1 (m d69 r1),
 q 0 (o d79 (.ixs 1 r68 r69)),
 w (o .no (.st1 r79 r77))]) (.shal k225_7 .skip)) .skip)) (.seq (.drw [q 0 (m d81 r0),
 q 0 (m d82 r10),
 q 0 (m d85 r0),
 q 0 (m d86 r11),
 q 0 (o d87 (.ixs 1 r85 r86)),
 q 0 (o d88 (.ld1 r87)),
 q 0 (m d89 r0),
 q 0 (m d90 r10),
 q 0 (o d91 (.ixs 1 r89 r90)),
 q 0 (o d92 (.ld1 r91)),
 q 0 (o d93 (.ixs 1 r81 r82)),
 w (o .no (.st1 r93 r88)),
 q 1 (m d83 r0),
 q 1 (m d84 r11),
 q 0 (o d94 (.ixs 1 r83 r84)),
 w (o .no (.st1 r94 r92))]) (.shal k225_8 (.seq (.block 4 (.loop (.block 5 (.seq (.block 6 (.loop (.seq (.seq (.drw [q 0 (m d99 r10),
 q 0 (m d100 r11),
 q 0 (o d101 (.bin .le r99 r100)),
 q 0 (m d102 r101),
 q 0 (.g .h6 .h6 true d103 (.op (.mv r0))),
 q 0 (.g .h6 .h6 true d104 (.op (.mv r10))),
 q 0 (.g .h6 .h6 true d105 (.op (.ixs 1 r103 r104))),
 q 0 (.g .h6 .h6 true d106 (.op (.ld1 r105))),
 q 0 (.g .h6 .h6 true d107 (.op (.mv r0))),
 q 0 (.g .h6 .h6 true d108 (.op (.mv r1))),
 q 0 (.g .h6 .h6 true d109 (.op (.ixs 1 r107 r108))),
 q 0 (.g .h6 .h6 true d110 (.op (.ld1 r109))),
 w (.g .h6 .h6 true d111 (.call 223 [r106,r110])),
 q 0 (o d112 (.pick r102 r111 (.c (.bool false))))]) (.shal k225_9 .skip)) (.shal k225_10 .skip)))) (.seq (.block 8 (.loop (.seq (.seq (.drw [q 0 (m d115 r10),
 q 0 (m d116 r11),
 q 0 (o d117 (.bin .le r115 r116)),
 q 0 (m d118 r117),
 q 0 (.g .h7 .h6 true d119 (.op (.mv r0))),
 q 0 (.g .h7 .h6 true d120 (.op (.mv r11))),
 q 0 (.g .h7 .h6 true d121 (.op (.ixs 1 r119 r120))),
 q 0 (.g .h7 .h6 true d122 (.op (.ld1 r121))),
 q 0 (.g .h7 .h6 true d123 (.op (.mv r0))),
 q 0 (.g .h7 .h6 true d124 (.op (.mv r1))),
 q 0 (.g .h7 .h6 true d125 (.op (.ixs 1 r123 r124))),
 q 0 (.g .h7 .h6 true d126 (.op (.ld1 r125))),
 w (.g .h7 .h6 true d127 (.call 223 [r122,r126])),
 q 0 (.g .h7 .h6 true d128 (.op (.un .not r127))),
 q 0 (o d129 (.pick r118 r128 (.c (.bool false))))]) (.shal k225_11 .skip)) (.shal k225_12 .skip)))) (.shal k225_13 (.seq (.drw [q 0 (m d135 r0),
 q 0 (m d136 r10),
 q 0 (m d139 r0),
 q 0 (m d140 r11),
 q 0 (o d141 (.ixs 1 r139 r140)),
 q 0 (o d142 (.ld1 r141)),
 q 0 (m d143 r0),
 q 0 (m d144 r10),
 q 0 (o d145 (.ixs 1 r143 r144)),
 q 0 (o d146 (.ld1 r145)),
 q 0 (o d147 (.ixs 1 r135 r136)),
 w (o .no (.st1 r147 r142)),
 q 1 (m d137 r0),
 q 1 (m d138 r11),
 q 0 (o d148 (.ixs 1 r137 r138)),
 w (o .no (.st1 r148 r146))]) (.shal k225_14 .skip)))))))) (.seq (.drw [q 0 (m d153 r0),
 q 0 (m d154 r11),
 q 0 (m d157 r0),
 q 0 (m d158 r1),
 q 0 (o d159 (.ixs 1 r157 r158)),
 q 0 (o d160 (.ld1 r159)),
 q 0 (m d161 r0),
 q 0 (m d162 r11),
 q 0 (o d163 (.ixs 1 r161 r162)),
 q 0 (o d164 (.ld1 r163)),
 q 0 (o d165 (.ixs 1 r153 r154)),
 w (o .no (.st1 r165 r160)),
 q 1 (m d155 r0),
 q 1 (m d156 r1),
 q 0 (o d166 (.ixs 1 r155 r156)),
 w (o .no (.st1 r166 r164))]) (.shal k225_15 .skip)))))))))))
def z225 : List Rs := [.t .h0 .h8,.t .h0 .h9]
def f225 : AF := .mk x225 z225
def k226_2 : KF := fun c i x r h => (fun (x16 x17 x18 x19 x20 x21 x22 : AV) =>
 ifR x22 (tR (b_add x21 (pi 1) h) fun v23 h24 =>
 .nm (T185 x16 x17 x18 x19 x20 v23) h24) (.nm (T185 x16 x17 x18 x19 x20 x21) h)) (y0 r) (y2 r) (y3 r) (y4 r) (y10 r) (y11 r) (y40 r)
def k226_4 : KF := fun c i x r h => (fun (x41 x42 x43 x44 x45 : AV) =>
 .nm (T184 x41 x42 x43 x44 x45) h) (y0 r) (y2 r) (y3 r) (y4 r) (y11 r)
def k226_3 : KF := fun c i x r h => (fun (x25 x26 x27 x28 x29 x30 : AV) =>
 tQ (b_add x27 x29 h) fun v31 =>
 tQ (ix 3 x25 v31 h) fun v32 =>
 tQ (o_ldn 3 (.c v32) .nil h) fun v33 =>
 tQ (b_add x27 x30 h) fun v34 =>
 tQ (ix 3 x25 v34 h) fun v35 =>
 tQ (o_ldn 3 (.c v35) .nil h) fun v36 =>
 tX (AV.onFn x28 (fun f l => c f (List.append [v33,v36] l) h) (.err 202)) fun v37 h38 =>
 tQ (b_lt v37 (pi 0) h38) fun v39 =>
 tQ (u_not v39 h38) fun v40 =>
 ifR v40 (.ret T26 h38) (x (T185 x25 x26 x27 x28 x29 x30) h38)) (y0 r) (y2 r) (y3 r) (y4 r) (y10 r) (y11 r)
def k226_1 : KF := fun c i x r h => (fun (x5 x6 x7 x8 x9 : AV) =>
 tR (b_mul (pi 2) x9 h) fun v10 h11 =>
 tR (b_add v10 (pi 1) h11) fun v12 h13 =>
 tR (b_ge v12 x6 h13) fun v14 h15 =>
 ifR v14 (.ex 0 T26 h15) (x (T185 x5 x6 x7 x8 x9 v12) h15)) (y0 r) (y2 r) (y3 r) (y4 r) (y10 r)
def k226_0 : KF := fun c i x r h => (fun (x0 x1 x2 x3 x4 : AV) =>
 x (T184 x0 x2 x3 x4 x1) h) (y0 r) (y1 r) (y2 r) (y3 r) (y4 r)
def x226 : AC := (.shal k226_0 (.block 0 (.loop (.block 1 (.shal k226_1 (.seq (.seq (.drw [q 0 (m d19 r11),
 q 0 (o d20 (.bin .add r19 (.c (pi 1)))),
 q 0 (m d21 r2),
 q 0 (o d22 (.bin .lt r20 r21)),
 q 0 (m d23 r22),
 q 0 (.g .h1 .h7 true d24 (.op (.mv r4))),
 q 0 (.g .h1 .h7 true d25 (.op (.mv r0))),
 q 0 (.g .h1 .h7 true d26 (.op (.mv r3))),
 q 0 (.g .h1 .h7 true d27 (.op (.mv r11))),
 q 0 (.g .h1 .h7 true d28 (.op (.bin .add r26 r27))),
 q 0 (.g .h1 .h7 true d29 (.op (.ixs 3 r25 r28))),
 q 0 (.g .h1 .h7 true d30 (.op (.ldn 3 r29))),
 q 0 (.g .h1 .h7 true d31 (.op (.mv r0))),
 q 0 (.g .h1 .h7 true d32 (.op (.mv r3))),
 q 0 (.g .h1 .h7 true d33 (.op (.mv r11))),
 q 0 (.g .h1 .h7 true d34 (.op (.bin .add r32 r33))),
 q 0 (.g .h1 .h7 true d35 (.op (.bin .add r34 (.c (pi 1))))),
 q 0 (.g .h1 .h7 true d36 (.op (.ixs 3 r31 r35))),
 q 0 (.g .h1 .h7 true d37 (.op (.ldn 3 r36))),
 w (.g .h1 .h7 true d38 (.calld r24 [r30,r37])),
 q 0 (.g .h1 .h7 true d39 (.op (.bin .lt r38 (.c (pi 0))))),
 q 0 (o d40 (.pick r23 r39 (.c (.bool false))))]) (.shal k226_2 .skip)) (.shal k226_3 (.seq (.drw [q 0 (m d59 r0),
 q 0 (m d60 r3),
 q 0 (m d61 r10),
 q 0 (o d62 (.bin .add r60 r61)),
 q 0 (m d67 r0),
 q 0 (m d68 r3),
 q 0 (m d69 r11),
 q 0 (o d70 (.bin .add r68 r69)),
 q 0 (o d71 (.ixs 3 r67 r70)),
 q 0 (o d72 (.ldn 3 r71)),
 q 0 (m d73 r0),
 q 0 (m d74 r3),
 q 0 (m d75 r10),
 q 0 (o d76 (.bin .add r74 r75)),
 q 0 (o d77 (.ixs 3 r73 r76)),
 q 0 (o d78 (.ldn 3 r77)),
 q 0 (o d79 (.ixs 3 r59 r62)),
 w (o .no (.stn 3 r79 r72)),
 q 1 (m d63 r0),
 q 1 (m d64 r3),
 q 1 (m d65 r11),
 q 1 (o d66 (.bin .add r64 r65)),
 q 0 (o d80 (.ixs 3 r63 r66)),
 w (o .no (.stn 3 r80 r78))]) (.shal k226_4 .skip)))))))))
def z226 : List Rs := []
def f226 : AF := .mk x226 z226
def k227_0 : KF := fun c i x r h => (fun (x0 : AV) =>
 tR (cK (.toInt .u64) x0 h) fun v1 h2 =>
 tT (c 203 [v1] h2) fun v3 h4 =>
 tR (bK .shl (.int .u64 (.ofNat 1)) v3 h4) fun v5 h6 =>
 .ret (T20 v5) h6) (y0 r)
def x227 : AC := (.shal k227_0 .skip)
def z227 : List Rs := [.t .h0 .h2]
def f227 : AF := .mk x227 z227
def k228_1 : KF := fun c i x r h => (fun (x19 : AV) =>
 tQ (nic x19 h) fun v20 =>
 tQ (ld v20 h) fun v21 =>
 tQ (nic x19 h) fun v22 =>
 tQ (ld v22 h) fun v23 =>
 tQ (bK .shl v23 (.int .u64 (.ofNat 17)) h) fun v24 =>
 tQ (b_xor v21 v24 h) fun v25 =>
 tQ (nic x19 h) fun v26 =>
 tX (RV.toT (sto v26 v25 h)) fun v27 h28 =>
 tR (nic x19 h28) fun v29 h30 =>
 tR (ld v29 h30) fun v31 h32 =>
 .ret (T20 v31) h32) (y0 r)
def k228_0 : KF := fun c i x r h => (fun (x0 : AV) =>
 tQ (nic x0 h) fun v1 =>
 tQ (ld v1 h) fun v2 =>
 tQ (nic x0 h) fun v3 =>
 tQ (ld v3 h) fun v4 =>
 tQ (bK .shl v4 (.int .u64 (.ofNat 13)) h) fun v5 =>
 tQ (b_xor v2 v5 h) fun v6 =>
 tQ (nic x0 h) fun v7 =>
 tX (RV.toT (sto v7 v6 h)) fun v8 h9 =>
 tQ (nic x0 h9) fun v10 =>
 tQ (ld v10 h9) fun v11 =>
 tQ (nic x0 h9) fun v12 =>
 tQ (ld v12 h9) fun v13 =>
 tQ (bK .shr v13 (.int .u64 (.ofNat 7)) h9) fun v14 =>
 tQ (b_xor v11 v14 h9) fun v15 =>
 tQ (nic x0 h9) fun v16 =>
 tX (RV.toT (sto v16 v15 h9)) fun v17 h18 =>
 x (T1 x0) h18) (y0 r)
def x228 : AC := (.shal k228_0 (.shal k228_1 .skip))
def z228 : List Rs := [.t .h0 .h2]
def f228 : AF := .mk x228 z228
def k229_0 : KF := fun c i x r h => (fun (x0 x1 x2 x3 : AV) =>
 tR (b_sub x1 (pi 1) h) fun v4 h5 =>
 tR (b_add x1 (pi 1) h5) fun v6 h7 =>
 tT (c 230 [x0,v4,x1,v6,x2,x3] h7) fun v8 h9 =>
 .ret (T107 v8) h9) (y0 r) (y1 r) (y2 r) (y3 r)
def x229 : AC := (.shal k229_0 .skip)
def z229 : List Rs := [.t .h0 .h8]
def f229 : AF := .mk x229 z229
def k230_1 : KF := fun c i x r h => (fun (x18 x19 x20 x21 x22 : AV) =>
 tT (c 234 [x18,x19,x20,x21,x22] h) fun v23 h24 =>
 tR (o_ext 0 (.c v23) .nil h24) fun v25 h26 =>
 tR (o_ext 1 (.c v23) .nil h26) fun v27 h28 =>
 .ret (T187 v27) h28) (y0 r) (y1 r) (y2 r) (y4 r) (y5 r)
def k230_0 : KF := fun c i x r h => (fun (x0 x1 x2 x3 x4 x5 : AV) =>
 tT (c 234 [x0,x1,x2,x4,x5] h) fun v6 h7 =>
 tR (o_ext 0 (.c v6) .nil h7) fun v8 h9 =>
 tR (o_ext 1 (.c v6) .nil h9) fun v10 h11 =>
 tT (c 234 [x0,v10,x3,x4,x5] h11) fun v12 h13 =>
 tR (o_ext 0 (.c v12) .nil h13) fun v14 h15 =>
 tR (o_ext 1 (.c v12) .nil h15) fun v16 h17 =>
 x (T186 x0 v8 v14 x4 x5) h17) (y0 r) (y1 r) (y2 r) (y3 r) (y4 r) (y5 r)
def x230 : AC := (.shal k230_0 (.shal k230_1 .skip))
def z230 : List Rs := [.t .h0 .hc]
def f230 : AF := .mk x230 z230
def k231_2 : KF := fun c i x r h => (fun (x14 x15 x16 x17 x18 x19 : AV) =>
 ifR x19 (tR (b_add x18 (pi 1) h) fun v20 h21 =>
 .nm (T189 x14 x15 x16 x17 v20) h21) (.nm (T189 x14 x15 x16 x17 x18) h)) (y0 r) (y2 r) (y3 r) (y8 r) (y9 r) (y36 r)
def k231_4 : KF := fun c i x r h => (fun (x36 x37 x38 x39 : AV) =>
 .nm (T188 x36 x37 x38 x39) h) (y0 r) (y2 r) (y3 r) (y9 r)
def k231_3 : KF := fun c i x r h => (fun (x22 x23 x24 x25 x26 : AV) =>
 tQ (b_add x24 x25 h) fun v27 =>
 tQ (ix 1 x22 v27 h) fun v28 =>
 tQ (ld v28 h) fun v29 =>
 tQ (b_add x24 x26 h) fun v30 =>
 tQ (ix 1 x22 v30 h) fun v31 =>
 tQ (ld v31 h) fun v32 =>
 tX (c 223 [v29,v32] h) fun v33 h34 =>
 tQ (u_not v33 h34) fun v35 =>
 ifR v35 (.ret T26 h34) (x (T189 x22 x23 x24 x25 x26) h34)) (y0 r) (y2 r) (y3 r) (y8 r) (y9 r)
def k231_1 : KF := fun c i x r h => (fun (x4 x5 x6 x7 : AV) =>
 tR (b_mul (pi 2) x7 h) fun v8 h9 =>
 tR (b_add v8 (pi 1) h9) fun v10 h11 =>
 tR (b_ge v10 x5 h11) fun v12 h13 =>
 ifR v12 (.ex 0 T26 h13) (x (T189 x4 x5 x6 x7 v10) h13)) (y0 r) (y2 r) (y3 r) (y8 r)
def k231_0 : KF := fun c i x r h => (fun (x0 x1 x2 x3 : AV) =>
 x (T188 x0 x2 x3 x1) h) (y0 r) (y1 r) (y2 r) (y3 r)
def x231 : AC := (.shal k231_0 (.block 0 (.loop (.block 1 (.shal k231_1 (.seq (.seq (.drw [q 0 (m d17 r9),
 q 0 (o d18 (.bin .add r17 (.c (pi 1)))),
 q 0 (m d19 r2),
 q 0 (o d20 (.bin .lt r18 r19)),
 q 0 (m d21 r20),
 q 0 (.g .h1 .h5 true d22 (.op (.mv r0))),
 q 0 (.g .h1 .h5 true d23 (.op (.mv r3))),
 q 0 (.g .h1 .h5 true d24 (.op (.mv r9))),
 q 0 (.g .h1 .h5 true d25 (.op (.bin .add r23 r24))),
 q 0 (.g .h1 .h5 true d26 (.op (.ixs 1 r22 r25))),
 q 0 (.g .h1 .h5 true d27 (.op (.ld1 r26))),
 q 0 (.g .h1 .h5 true d28 (.op (.mv r0))),
 q 0 (.g .h1 .h5 true d29 (.op (.mv r3))),
 q 0 (.g .h1 .h5 true d30 (.op (.mv r9))),
 q 0 (.g .h1 .h5 true d31 (.op (.bin .add r29 r30))),
 q 0 (.g .h1 .h5 true d32 (.op (.bin .add r31 (.c (pi 1))))),
 q 0 (.g .h1 .h5 true d33 (.op (.ixs 1 r28 r32))),
 q 0 (.g .h1 .h5 true d34 (.op (.ld1 r33))),
 w (.g .h1 .h5 true d35 (.call 223 [r27,r34])),
 q 0 (o d36 (.pick r21 r35 (.c (.bool false))))]) (.shal k231_2 .skip)) (.shal k231_3 (.seq (.drw [q 0 (m d53 r0),
 q 0 (m d54 r3),
 q 0 (m d55 r8),
 q 0 (o d56 (.bin .add r54 r55)),
 q 0 (m d61 r0),
 q 0 (m d62 r3),
 q 0 (m d63 r9),
 q 0 (o d64 (.bin .add r62 r63)),
 q 0 (o d65 (.ixs 1 r61 r64)),
 q 0 (o d66 (.ld1 r65)),
 q 0 (m d67 r0),
 q 0 (m d68 r3),
 q 0 (m d69 r8),
 q 0 (o d70 (.bin .add r68 r69)),
 q 0 (o d71 (.ixs 1 r67 r70)),
 q 0 (o d72 (.ld1 r71)),
 q 0 (o d73 (.ixs 1 r53 r56)),
 w (o .no (.st1 r73 r66)),
 q 1 (m d57 r0),
 q 1 (m d58 r3),
 q 1 (m d59 r9),
 q 1 (o d60 (.bin .add r58 r59)),
 q 0 (o d74 (.ixs 1 r57 r60)),
 w (o .no (.st1 r74 r72))]) (.shal k231_4 .skip)))))))))
def z231 : List Rs := []
def f231 : AF := .mk x231 z231
def k232_0 : KF := fun c i x r h => (fun (x0 x1 x2 : AV) =>
 tR (b_sub x1 (pi 1) h) fun v3 h4 =>
 tR (b_add x1 (pi 1) h4) fun v5 h6 =>
 tT (c 233 [x0,v3,x1,v5,x2] h6) fun v7 h8 =>
 .ret (T32 v7) h8) (y0 r) (y1 r) (y2 r)
def x232 : AC := (.shal k232_0 .skip)
def z232 : List Rs := [.t .h0 .h6]
def f232 : AF := .mk x232 z232
def k233_1 : KF := fun c i x r h => (fun (x17 x18 x19 x20 : AV) =>
 tT (c 235 [x17,x18,x19,x20] h) fun v21 h22 =>
 tR (o_ext 0 (.c v21) .nil h22) fun v23 h24 =>
 tR (o_ext 1 (.c v21) .nil h24) fun v25 h26 =>
 .ret (T160 v25) h26) (y0 r) (y1 r) (y2 r) (y4 r)
def k233_0 : KF := fun c i x r h => (fun (x0 x1 x2 x3 x4 : AV) =>
 tT (c 235 [x0,x1,x2,x4] h) fun v5 h6 =>
 tR (o_ext 0 (.c v5) .nil h6) fun v7 h8 =>
 tR (o_ext 1 (.c v5) .nil h8) fun v9 h10 =>
 tT (c 235 [x0,v9,x3,x4] h10) fun v11 h12 =>
 tR (o_ext 0 (.c v11) .nil h12) fun v13 h14 =>
 tR (o_ext 1 (.c v11) .nil h14) fun v15 h16 =>
 x (T190 x0 v7 v13 x4) h16) (y0 r) (y1 r) (y2 r) (y3 r) (y4 r)
def x233 : AC := (.shal k233_0 (.shal k233_1 .skip))
def z233 : List Rs := [.t .h0 .ha]
def f233 : AF := .mk x233 z233
def k234_2 : KF := fun c i x r h => (fun (x27 x28 : AV) =>
 .ret (T162 x27 x28) h) (y1 r) (y2 r)
def k234_1 : KF := fun c i x r h => (fun (x5 x6 x7 x8 x9 : AV) =>
 tQ (ix 3 x5 x7 h) fun v10 =>
 tQ (o_ldn 3 (.c v10) .nil h) fun v11 =>
 tQ (ix 3 x5 x6 h) fun v12 =>
 tQ (o_ldn 3 (.c v12) .nil h) fun v13 =>
 tX (AV.onFn x9 (fun f l => c f (List.append [v11,v13] l) h) (.err 202)) fun v14 h15 =>
 tQ (b_lt v14 (pi 0) h15) fun v16 =>
 ifR v16 (tR (nic x8 h15) fun v17 h18 =>
 tR (ld v17 h18) fun v19 h20 =>
 tR (b_add v19 (pi 1) h20) fun v21 h22 =>
 tR (nic x8 h22) fun v23 h24 =>
 tR (sto v23 v21 h24) fun v25 h26 =>
 .ret (T162 x7 x6) h26) (x (T16 x6 x7) h15)) (y0 r) (y1 r) (y2 r) (y3 r) (y4 r)
def k234_0 : KF := fun c i x r h => (fun (x0 x1 x2 x3 x4 : AV) =>
 x (T157 x0 x1 x2 x3 x4) h) (y0 r) (y1 r) (y2 r) (y3 r) (y4 r)
def x234 : AC := (.shal k234_0 (.shal k234_1 (.shal k234_2 .skip)))
def z234 : List Rs := [.t .h0 .ha,.t .h0 .hb]
def f234 : AF := .mk x234 z234
def k235_1 : KF := fun c i x r h => (fun (x20 x21 : AV) =>
 .ret (T149 x20 x21) h) (y1 r) (y2 r)
def k235_0 : KF := fun c i x r h => (fun (x0 x1 x2 x3 : AV) =>
 tQ (ix 1 x0 x2 h) fun v4 =>
 tQ (ld v4 h) fun v5 =>
 tQ (ix 1 x0 x1 h) fun v6 =>
 tQ (ld v6 h) fun v7 =>
 tX (c 223 [v5,v7] h) fun v8 h9 =>
 ifR v8 (tR (nic x3 h9) fun v10 h11 =>
 tR (ld v10 h11) fun v12 h13 =>
 tR (b_add v12 (pi 1) h13) fun v14 h15 =>
 tR (nic x3 h15) fun v16 h17 =>
 tR (sto v16 v14 h17) fun v18 h19 =>
 .ret (T149 x2 x1) h19) (x (T16 x1 x2) h9)) (y0 r) (y1 r) (y2 r) (y3 r)
def x235 : AC := (.shal k235_0 (.shal k235_1 .skip))
def z235 : List Rs := [.t .h0 .h8,.t .h0 .h9]
def f235 : AF := .mk x235 z235
def k252_0 : KF := fun c i x r h => (fun (x0 x1 x2 x3 x4 : AV) =>
 ifR x4 (tT (c 253 [x0,x1,x2,x3] h) fun v5 h6 =>
 .nm T26 h6) (.nm T26 h)) (y0 r) (y1 r) (y2 r) (y3 r) (y4 r)
def x252 : AC := (.seq (.drw [q 0 (m d19 r3),
 w (o d20 (.bslice 9 1 1 [(.str [])] [.mk 0 1 r19])),
 q 1 (m d12 r0),
 q 1 (m d13 r1),
 q 1 (o d14 (.nilc r12)),
 q 1 (o d15 (.fad 0 r14)),
 q 1 (o d16 (.ixa 5 3 r15 r13)),
 q 1 (o d17 (.fad 2 r16)),
 q 1 (o d18 (.ld1 r17)),
 w (o d21 (.app 9 1 r18 r20)),
 q 2 (m d10 r0),
 q 2 (m d11 r1),
 q 2 (o d22 (.nilc r10)),
 q 2 (o d23 (.fad 0 r22)),
 q 0 (o d24 (.ixa 5 3 r23 r11)),
 q 0 (o d25 (.fad 2 r24)),
 w (o .no (.st1 r25 r21))]) (.shal k252_0 .skip))
def z252 : List Rs := []
def f252 : AF := .mk x252 z252
def k253_0 : KF := fun c i x r h => (fun (x0 x1 x2 x3 : AV) =>
 tR (nic x0 h) fun v4 h5 =>
 tR (fa 15 v4 h5) fun v6 h7 =>
 tR (ld v6 h7) fun v8 h9 =>
 tR (o_build [(pi 0),(pi 0),(.str []),(pi 0)] [.mk 0 1 (.c (pi 1)),.mk 1 1 (.c x1),.mk 2 1 (.c x3),.mk 3 1 (.c x2)] .nil h9) fun v10 h11 =>
 tR (o_bslice 36 4 1 [(pi 0),(pi 0),(.str []),(pi 0)] [.mk 0 4 (.c v10)] .nil h11) fun v12 h13 =>
 tR (appV 36 4 v8 v12 h13) fun v14 h15 =>
 tR (nic x0 h15) fun v16 h17 =>
 tR (fa 15 v16 h17) fun v18 h19 =>
 tR (sto v18 v14 h19) fun v20 h21 =>
 .nm T26 h21) (y0 r) (y1 r) (y2 r) (y3 r)
def x253 : AC := (.shal k253_0 .skip)
def z253 : List Rs := []
def f253 : AF := .mk x253 z253
def k254_1 : KF := fun c i x r h => (fun (x10 x11 x12 : AV) =>
 tR (nic x12 h) fun v13 h14 =>
 tR (fa 0 v13 h14) fun v15 h16 =>
 tR (sto v15 x10 h16) fun v17 h18 =>
 tR (nic x12 h18) fun v19 h20 =>
 tR (fa 1 v19 h20) fun v21 h22 =>
 tR (sto v21 x11 h22) fun v23 h24 =>
 .nm T26 h24) (y2 r) (y3 r) (y8 r)
def k254_0 : KF := fun c i x r h => (fun (x0 x1 x2 x3 : AV) =>
 tR (nic x0 h) fun v4 h5 =>
 tR (fa 0 v4 h5) fun v6 h7 =>
 tR (o_ixa 5 3 (.c v6) (.c x1) .nil h7) fun v8 h9 =>
 x (T191 x2 x3 v8) h9) (y0 r) (y1 r) (y2 r) (y3 r)
def x254 : AC := (.shal k254_0 (.seq (.drw [q 0 (m d15 r8),
 q 0 (o d16 (.nilc r15)),
 q 0 (o d17 (.fad 2 r16)),
 q 0 (o d18 (.ld1 r17)),
 q 0 (m d19 r2),
 q 0 (m d20 r8),
 q 0 (o d21 (.nilc r20)),
 q 0 (o d22 (.fad 0 r21)),
 q 0 (o d23 (.ld1 r22)),
 q 0 (o d24 (.bin .sub r19 r23)),
 q 0 (o d25 (.slc 1 r18 (.some r24) .none .none)),
 w (.o d26 (.call 39 [r25])),
 q 1 (m d14 r8),
 q 0 (o d27 (.nilc r14)),
 q 0 (o d28 (.fad 2 r27)),
 w (o .no (.st1 r28 r26))]) (.shal k254_1 .skip)))
def z254 : List Rs := []
def f254 : AF := .mk x254 z254
def k255_0 : KF := fun c i x r h => (fun (x0 x1 x2 x3 : AV) =>
 tR (o_build [(pi 0),(.str []),.nils] [.mk 0 1 (.c x2),.mk 1 1 (.c x3),.mk 2 1 (.c .nils)] .nil h) fun v4 h5 =>
 tR (nic x0 h5) fun v6 h7 =>
 tR (fa 0 v6 h7) fun v8 h9 =>
 tR (o_ixa 5 3 (.c v8) (.c x1) .nil h9) fun v10 h11 =>
 tR (o_stn 3 (.c v10) (.c v4) .nil h11) fun v12 h13 =>
 .nm T26 h13) (y0 r) (y1 r) (y2 r) (y3 r)
def x255 : AC := (.shal k255_0 .skip)
def z255 : List Rs := []
def f255 : AF := .mk x255 z255
def k256_0 : KF := fun c i x r h => (fun (x0 x1 x2 x3 : AV) =>
 tR (nic x0 h) fun v4 h5 =>
 tR (fa 15 v4 h5) fun v6 h7 =>
 tR (ld v6 h7) fun v8 h9 =>
 tR (o_build [(pi 0),(pi 0),(.str []),(pi 0)] [.mk 0 1 (.c (pi 2)),.mk 1 1 (.c x1),.mk 2 1 (.c x3),.mk 3 1 (.c x2)] .nil h9) fun v10 h11 =>
 tR (o_bslice 36 4 1 [(pi 0),(pi 0),(.str []),(pi 0)] [.mk 0 4 (.c v10)] .nil h11) fun v12 h13 =>
 tR (appV 36 4 v8 v12 h13) fun v14 h15 =>
 tR (nic x0 h15) fun v16 h17 =>
 tR (fa 15 v16 h17) fun v18 h19 =>
 tR (sto v18 v14 h19) fun v20 h21 =>
 .nm T26 h21) (y0 r) (y1 r) (y2 r) (y3 r)
def x256 : AC := (.shal k256_0 .skip)
def z256 : List Rs := []
def f256 : AF := .mk x256 z256
def row0 : F1 := (.mk .none .none .none .none .none .none f6 .none .none .none .none .none .none .none f14 f15)
def row1 : F1 := (.mk f16 f17 f18 f19 f20 f21 .none .none .none f25 f26 f27 f28 f29 f30 f31)
def row2 : F1 := (.mk f32 f33 f34 f35 f36 f37 f38 f39 .none f41 f42 f43 f44 f45 f46 f47)
def row3 : F1 := (.mk f48 f49 f50 f51 f52 f53 f54 .none f56 f57 f58 f59 f60 f61 f62 f63)
def row4 : F1 := (.mk f64 f65 f66 f67 f68 f69 f70 f71 f72 f73 f74 f75 f76 f77 f78 f79)
def row5 : F1 := (.mk f80 f81 f82 f83 f84 f85 f86 f87 f88 f89 f90 f91 f92 f93 f94 f95)
def row6 : F1 := (.mk f96 f97 f98 f99 f100 f101 f102 f103 f104 f105 f106 f107 f108 f109 f110 f111)
def row7 : F1 := (.mk f112 f113 f114 f115 f116 f117 f118 f119 f120 f121 f122 f123 f124 f125 f126 f127)
def row8 : F1 := (.mk f128 f129 f130 f131 f132 f133 f134 f135 f136 f137 f138 f139 f140 f141 f142 f143)
def row9 : F1 := (.mk f144 f145 f146 f147 f148 f149 f150 f151 f152 f153 f154 f155 f156 f157 f158 f159)
def row10 : F1 := (.mk f160 f161 f162 f163 f164 f165 f166 f167 f168 f169 f170 f171 f172 f173 f174 f175)
def row11 : F1 := (.mk f176 f177 f178 f179 f180 f181 f182 f183 f184 f185 f186 f187 f188 f189 f190 f191)
def row12 : F1 := (.mk f192 f193 f194 f195 f196 f197 f198 f199 f200 f201 f202 f203 f204 f205 f206 f207)
def row13 : F1 := (.mk f208 f209 f210 f211 f212 f213 f214 f215 f216 f217 f218 f219 f220 f221 f222 f223)
def row14 : F1 := (.mk f224 f225 f226 f227 f228 f229 f230 f231 f232 f233 f234 f235 .none .none .none .none)
def row15 : F1 := (.mk .none .none .none .none .none .none .none .none .none .none .none .none f252 f253 f254 f255)
def row16 : F1 := (.mk f256 .none .none .none .none .none .none .none .none .none .none .none .none .none .none .none)
def page0 : F2 := .mk row0 row1 row2 row3 row4 row5 row6 row7 row8 row9 row10 row11 row12 row13 row14 row15
def page1 : F2 := .mk row16 .nil .nil .nil .nil .nil .nil .nil .nil .nil .nil .nil .nil .nil .nil .nil
def pg : Pg := .mk (.mk page0 page1 .nil .nil .nil .nil .nil .nil .nil .nil .nil .nil .nil .nil .nil .nil) [.mk 71 2 34, .mk 65 2 254, .mk 65 1 253, .mk 65 4 252, .mk 65 3 256, .mk 65 0 255]
end
end Go.Am.Seat
