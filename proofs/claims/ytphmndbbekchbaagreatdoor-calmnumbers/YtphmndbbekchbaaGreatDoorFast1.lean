/- The same code in a form that runs faster, written by program. Nothing is asked. -/
import Derived.Test.YtphmndbbekchbaaGreatDoorFast0
set_option linter.all false
namespace Go.Am.Seat
set_option linter.unusedVariables false
set_option maxRecDepth 20000
noncomputable section
def k162_0 : KF := fun c i x r h => (fun (x0 : AV) =>
 tR (b_lt x0 (pi 10) h) fun v1 h2 =>
 ifR v1 (tR (b_add x0 (pi 1) h2) fun v3 h4 =>
 tR (o_slcs (.c (.str [48,49,50,51,52,53,54,55,56,57,97,98,99,100,101,102,103,104,105,106,107,108,109,110,111,112,113,114,115,116,117,118,119,120,121,122])) (.some (.c x0)) (.some (.c v3)) .nil h4) fun v5 h6 =>
 .ret (T23 v5) h6) (tR (b_mul x0 (pi 2) h2) fun v7 h8 =>
 tR (b_mul x0 (pi 2) h8) fun v9 h10 =>
 tR (b_add v9 (pi 2) h10) fun v11 h12 =>
 tR (o_slcs (.c (.str [48,48,48,49,48,50,48,51,48,52,48,53,48,54,48,55,48,56,48,57,49,48,49,49,49,50,49,51,49,52,49,53,49,54,49,55,49,56,49,57,50,48,50,49,50,50,50,51,50,52,50,53,50,54,50,55,50,56,50,57,51,48,51,49,51,50,51,51,51,52,51,53,51,54,51,55,51,56,51,57,52,48,52,49,52,50,52,51,52,52,52,53,52,54,52,55,52,56,52,57,53,48,53,49,53,50,53,51,53,52,53,53,53,54,53,55,53,56,53,57,54,48,54,49,54,50,54,51,54,52,54,53,54,54,54,55,54,56,54,57,55,48,55,49,55,50,55,51,55,52,55,53,55,54,55,55,55,56,55,57,56,48,56,49,56,50,56,51,56,52,56,53,56,54,56,55,56,56,56,57,57,48,57,49,57,50,57,51,57,52,57,53,57,54,57,55,57,56,57,57])) (.some (.c v7)) (.some (.c v11)) .nil h12) fun v13 h14 =>
 .ret (T23 v13) h14)) (y0 r)
def x162 : AC := (.shal k162_0 .skip)
def z162 : List Rs := [.t .h0 .h2]
def f162 : AF := .mk x162 z162
def k166_2 : KF := fun c i x r h => (fun (x0 x1 x2 : AV) =>
 tR (b_gt x2 (pi 0) h) fun v3 h4 =>
 ifR v3 (tR (b_sub x2 (pi 1) h4) fun v5 h6 =>
 tR (bK .shl x0 (.int .u64 (.ofNat 8)) h6) fun v7 h8 =>
 tR (ix 1 x1 v5 h8) fun v9 h10 =>
 tR (ld v9 h10) fun v11 h12 =>
 tR (cK (.toInt .u64) v11 h12) fun v13 h14 =>
 tR (b_or v7 v13 h14) fun v15 h16 =>
 .go 0 (T139 u v15 x1 v5) h16) (.ret (T22 x0) h4)) (y5 r) (y6 r) (y7 r)
def k166_1 : KF := fun c i x r h => (fun (x0 x1 : AV) =>
 tT (c 231 [x0,x1] h) fun v2 h3 =>
 tR (len v2 h3) fun v4 h5 =>
 x (T115 (.int .u64 (.ofNat 0)) v2 v4) h5) (y0 r) (y1 r)
def k166_0 : KF := fun c i x r h => (fun (x0 x1 : AV) =>
 x (T50 x0 x1) h) (y0 r) (y1 r)
def x166 : AC := (.shal k166_0 (.scope (.shal k166_1 (.seq (.label 0) (.shal k166_2 .skip)))))
def z166 : List Rs := [.t .h0 .h4]
def f166 : AF := .mk x166 z166
def k171_2 : KF := fun c i x r h => .ret (T7 (pi 0) (pi 0)) h
def k171_1 : KF := fun c i x r h => (fun (x0 : AV) =>
 tR (nic x0 h) fun v1 h2 =>
 tR (fa 2 v1 h2) fun v3 h4 =>
 tR (ld v3 h4) fun v5 h6 =>
 tR (b_ne v5 (pi 0) h6) fun v7 h8 =>
 ifR v7 (tQ (nic x0 h8) fun v9 =>
 tQ (fa 2 v9 h8) fun v10 =>
 tQ (ld v10 h8) fun v11 =>
 tQ (nic x0 h8) fun v12 =>
 tQ (fa 3 v12 h8) fun v13 =>
 tQ (ld v13 h8) fun v14 =>
 .ret (T7 v11 v14) h8) (tQ (nic x0 h8) fun v15 =>
 tQ (fa 1 v15 h8) fun v16 =>
 tQ (ld v16 h8) fun v17 =>
 tQ (nic x0 h8) fun v18 =>
 tQ (fa 0 v18 h8) fun v19 =>
 tQ (ld v19 h8) fun v20 =>
 tQ (len v20 h8) fun v21 =>
 tQ (b_lt v17 v21 h8) fun v22 =>
 ifR v22 (tQ (nic x0 h8) fun v23 =>
 tQ (fa 1 v23 h8) fun v24 =>
 tQ (ld v24 h8) fun v25 =>
 .ret (T7 (pi 11) v25) h8) (x T38 h8))) (y0 r)
def k171_0 : KF := fun c i x r h => (fun (x0 : AV) =>
 x (T1 x0) h) (y0 r)
def x171 : AC := (.shal k171_0 (.shal k171_1 (.shal k171_2 .skip)))
def z171 : List Rs := [.t .h0 .h2,.t .h0 .h3]
def f171 : AF := .mk x171 z171
def k174_0 : KF := fun c i x r h => (fun (x0 x1 : AV) =>
 tR (cK .b2s x0 h) fun v2 h3 =>
 tR (cK .b2s x1 h3) fun v4 h5 =>
 tR (b_seq v2 v4 h5) fun v6 h7 =>
 .ret (T22 v6) h7) (y0 r) (y1 r)
def x174 : AC := (.shal k174_0 .skip)
def z174 : List Rs := [.t .h0 .h4]
def f174 : AF := .mk x174 z174
def k175_1 : KF := fun c i x r h => (fun (x0 x1 x2 x3 : AV) =>
 ifR x3 (tT (c 243 [x0,(pi 3),x1] h) fun v4 h5 =>
 .nm (T8 x0 x2) h5) (.nm (T8 x0 x2) h)) (y0 r) (y5 r) (y6 r) (y23 r)
def k175_2 : KF := fun c i x r h => (fun (x0 x1 : AV) =>
 tT (c 231 [x0,x1] h) fun v2 h3 =>
 tR (cK .b2s v2 h3) fun v4 h5 =>
 .ret (T22 v4) h5) (y0 r) (y6 r)
def k175_0 : KF := fun c i x r h => (fun (x0 x1 : AV) =>
 tR (nic x0 h) fun v2 h3 =>
 tR (fa 1 v2 h3) fun v4 h5 =>
 tR (ld v4 h5) fun v6 h7 =>
 tT (c 242 [x0] h7) fun v8 h9 =>
 x (T140 x0 x1 v6 v8) h9) (y0 r) (y1 r)
def x175 : AC := (.shal k175_0 (.seq (.seq (.ops [m d13 r0,
 o d14 (.nilc r13),
 o d15 (.fad 2 r14),
 o d16 (.ld1 r15),
 o d17 (.bin .eq r16 a0),
 m d18 r17,
 .g .h1 .h2 true d19 (.op (.mv r6)),
 .g .h1 .h2 true d20 (.op (.mv r1)),
 .g .h1 .h2 true d21 (.op (.max false [r20,a0])),
 .g .h1 .h2 true d22 (.op (.bin .gt r19 r21)),
 o d23 (.pick r18 r22 (.c (.bool false)))]) (.shal k175_1 .skip)) (.shal k175_2 .skip)))
def z175 : List Rs := [.t .h0 .h4]
def f175 : AF := .mk x175 z175
def k177_1 : KF := fun c i x r h => (fun (x0 x1 x2 x3 x4 : AV) =>
 ifR x4 (tR (o_build [(pi 0),(pi 0),(.str [])] [] .nil h) fun v5 h6 =>
 tR (o_stn 3 (.c x3) (.c v5) .nil h6) fun v7 h8 =>
 .ret (T5 (pi 0) x3) h8) (tR (nic x0 h) fun v9 h10 =>
 tR (fa 0 v9 h10) fun v11 h12 =>
 tR (o_ixa 16 4 (.c v11) (.c x1) .nil h12) fun v13 h14 =>
 tR (fa 0 v13 h14) fun v15 h16 =>
 tR (ld v15 h16) fun v17 h18 =>
 tR (b_gt x2 v17 h18) fun v19 h20 =>
 ifR v19 (tR (o_build [(pi 0),(pi 0),(.str [])] [] .nil h20) fun v21 h22 =>
 tR (o_stn 3 (.c x3) (.c v21) .nil h22) fun v23 h24 =>
 .ret (T5 (pi 1) x3) h24) (tR (nic x0 h20) fun v25 h26 =>
 tR (fa 0 v25 h26) fun v27 h28 =>
 tR (o_ixa 16 4 (.c v27) (.c x1) .nil h28) fun v29 h30 =>
 tR (fa 0 v29 h30) fun v31 h32 =>
 tR (ld v31 h32) fun v33 h34 =>
 tR (b_eq x2 v33 h34) fun v35 h36 =>
 ifR v35 (tQ (nic x0 h36) fun v37 =>
 tQ (fa 0 v37 h36) fun v38 =>
 tQ (o_ixa 16 4 (.c v38) (.c x1) .nil h36) fun v39 =>
 tQ (fa 1 v39 h36) fun v40 =>
 tQ (o_ldn 3 (.c v40) .nil h36) fun v41 =>
 tX (RV.toT (o_stn 3 (.c x3) (.c v41) .nil h36)) fun v42 h43 =>
 .ret (T5 (pi 2) x3) h43) (.nm (T141 x3) h36)))) (y0 r) (y1 r) (y2 r) (y7 r) (y8 r)
def k177_2 : KF := fun c i x r h => (fun (x0 : AV) =>
 tR (o_build [(pi 0),(pi 0),(.str [])] [] .nil h) fun v1 h2 =>
 tR (o_stn 3 (.c x0) (.c v1) .nil h2) fun v3 h4 =>
 .ret (T5 (pi 3) x0) h4) (y7 r)
def k177_0 : KF := fun c i x r h => (fun (x0 x1 x2 : AV) =>
 tR (o_alloc 24 3 (.k1 (.mk (pi 0) (pi 0) (.str []) .undef .undef .undef .undef .undef .undef .undef .undef .undef .undef .undef .undef .undef)) .nil h) fun v3 h4 =>
 x (T91 x0 x1 x2 v3) h4) (y0 r) (y1 r) (y2 r)
def x177 : AC := (.shal k177_0 (.seq (.block 0 (.seq (.ops [m d9 r1,
 o d10 (.bin .lt r9 a0),
 m d11 r10,
 .g .h0 .hb false d12 (.op (.mv r1)),
 .g .h0 .hb false d13 (.op (.bin .ge r12 (.c (pi 16)))),
 o d14 (.pick r11 (.c (.bool true)) r13),
 m d15 r14,
 .g .h0 .hf false d16 (.op (.mv r2)),
 .g .h0 .hf false d17 (.op (.bin .lt r16 a1)),
 o d18 (.pick r15 (.c (.bool true)) r17),
 m d19 r18,
 .g .h1 .h3 false d20 (.op (.mv r2)),
 .g .h1 .h3 false d21 (.op (.bin .gt r20 (.c (pi 1073741824)))),
 o d22 (.pick r19 (.c (.bool true)) r21),
 m d8 r22]) (.shal k177_1 .skip))) (.shal k177_2 .skip)))
def z177 : List Rs := [.t .h0 .h6,.agg 3 .h0 .h7]
def f177 : AF := .mk x177 z177
def k178_4 : KF := fun c i x r h => (fun (x0 x1 : AV) =>
 tR (o_build [(pi 0),(pi 0),(.str [])] [.mk 0 1 (.c x1)] .nil h) fun v2 h3 =>
 tR (o_stn 3 (.c x0) (.c v2) .nil h3) fun v4 h5 =>
 .ret (T22 x0) h5) (y4 r) (y5 r)
def k178_3 : KF := fun c i x r h => (fun (x0 x1 x2 : AV) =>
 tQ (nic x0 h) fun v3 =>
 tQ (fa 0 v3 h) fun v4 =>
 tQ (ld v4 h) fun v5 =>
 tQ (fa 3 x1 h) fun v6 =>
 tQ (ld v6 h) fun v7 =>
 tQ (fa 5 x1 h) fun v8 =>
 tQ (ld v8 h) fun v9 =>
 tX (c 232 [v5,v7,v9] h) fun v10 h11 =>
 tR (b_eq v10 (pi 0) h11) fun v12 h13 =>
 ifR v12 (tR (fa 3 x1 h13) fun v14 h15 =>
 tR (ld v14 h15) fun v16 h17 =>
 tR (fa 5 x1 h17) fun v18 h19 =>
 tR (ld v18 h19) fun v20 h21 =>
 tT (c 244 [x0,v16,v20] h21) fun v22 h23 =>
 x (T33 x2 v10) h23) (x (T33 x2 v10) h13)) (y0 r) (y3 r) (y4 r)
def k178_7 : KF := fun c i x r h => (fun (x0 x1 x2 : AV) =>
 tR (fa 3 x1 h) fun v3 h4 =>
 tR (ld v3 h4) fun v5 h6 =>
 tR (fa 4 x1 h6) fun v7 h8 =>
 tR (ld v7 h8) fun v9 h10 =>
 tT (c 248 [x0,v5,v9] h10) fun v11 h12 =>
 tR (o_stn 3 (.c x2) (.c v11) .nil h12) fun v13 h14 =>
 .ret (T22 x2) h14) (y0 r) (y3 r) (y4 r)
def k178_6 : KF := fun c i x r h => (fun (x0 x1 x2 x3 : AV) =>
 tR (b_eq x3 (pi 3) h) fun v4 h5 =>
 x (T145 x0 x1 x2 v4) h5) (y0 r) (y3 r) (y4 r) (y10 r)
def k178_5 : KF := fun c i x r h => (fun (x0 x1 x2 x3 : AV) =>
 tR (b_eq x3 (pi 2) h) fun v4 h5 =>
 x (T144 x0 x1 x2 x3 v4) h5) (y0 r) (y3 r) (y4 r) (y10 r)
def k178_2 : KF := fun c i x r h => (fun (x0 x1 x2 x3 : AV) =>
 tR (b_eq x3 (pi 1) h) fun v4 h5 =>
 x (T143 x0 x1 x2 x3 v4) h5) (y0 r) (y3 r) (y4 r) (y10 r)
def k178_1 : KF := fun c i x r h => (fun (x0 x1 x2 : AV) =>
 tR (fa 2 x1 h) fun v3 h4 =>
 tR (ld v3 h4) fun v5 h6 =>
 x (T142 x0 x1 x2 v5) h6) (y0 r) (y3 r) (y4 r)
def k178_8 : KF := fun c i x r h => (fun (x0 : AV) =>
 tR (o_build [(pi 0),(pi 0),(.str [])] [.mk 0 1 (.c (pi 12))] .nil h) fun v1 h2 =>
 tR (o_stn 3 (.c x0) (.c v1) .nil h2) fun v3 h4 =>
 .ret (T22 x0) h4) (y4 r)
def k178_0 : KF := fun c i x r h => (fun (x0 x1 : AV) =>
 tR (o_box 30 (.c x1) .nil h) fun v2 h3 =>
 tR (o_alloc 24 3 (.k1 (.mk (pi 0) (pi 0) (.str []) .undef .undef .undef .undef .undef .undef .undef .undef .undef .undef .undef .undef .undef)) .nil h3) fun v4 h5 =>
 x (T39 x0 v2 v4) h5) (y0 r) (y1 r)
def x178 : AC := (.shal k178_0 (.seq (.shal k178_1 (.block 0 (.shal k178_2 (.cond r11 (.shal k178_3 (.shal k178_4 .skip)) (.shal k178_5 (.cond r32 (.bad 0) (.shal k178_6 (.cond r58 (.shal k178_7 .skip) (.bad 0))))))))) (.shal k178_8 .skip)))
def z178 : List Rs := [.agg 3 .h0 .h4]
def f178 : AF := .mk x178 z178
def k179_1 : KF := fun c i x r h => (fun (x0 x1 x2 x3 : AV) =>
 tQ (o_ldn 3 (.c x3) .nil h) fun v4 =>
 tQ (o_build [(pi 0),(pi 0),(pi 0),(.str [])] [.mk 0 1 (.c x2),.mk 1 3 (.c v4)] .nil h) fun v5 =>
 tQ (nic x0 h) fun v6 =>
 tQ (fa 0 v6 h) fun v7 =>
 tQ (o_ixa 16 4 (.c v7) (.c x1) .nil h) fun v8 =>
 tX (RV.toT (o_stn 4 (.c v8) (.c v5) .nil h)) fun v9 h10 =>
 .ret (T146 (pi 0)) h10) (y0 r) (y1 r) (y2 r) (y7 r)
def k179_0 : KF := fun c i x r h => (fun (x0 x1 x2 x3 : AV) =>
 tR (o_box 24 (.c x3) .nil h) fun v4 h5 =>
 tT (c 177 [x0,x1,x2] h5) fun v6 h7 =>
 tR (o_ext 0 (.c v6) .nil h7) fun v8 h9 =>
 tR (o_ext 1 (.c v6) .nil h9) fun v10 h11 =>
 tR (o_alloc 24 3 (.k1 (.mk (pi 0) (pi 0) (.str []) .undef .undef .undef .undef .undef .undef .undef .undef .undef .undef .undef .undef .undef)) .nil h11) fun v12 h13 =>
 tR (o_stn 3 (.c v12) (.c v10) .nil h13) fun v14 h15 =>
 tR (b_ne v8 (pi 1) h15) fun v16 h17 =>
 ifR v16 (.ret (T146 (pi 1)) h17) (x (T91 x0 x1 x2 v4) h17)) (y0 r) (y1 r) (y2 r) (y3 r)
def x179 : AC := (.shal k179_0 (.shal k179_1 .skip))
def z179 : List Rs := [.t .h0 .h8]
def f179 : AF := .mk x179 z179
def k181_1 : KF := fun c i x r h => (fun (x0 x1 x2 x3 x4 : AV) =>
 ifR x4 (.ret T38 h) (.nm (T90 x0 x1 x2 x3) h)) (y0 r) (y1 r) (y2 r) (y6 r) (y31 r)
def k181_4 : KF := fun c i x r h => (fun (x0 x1 x2 x3 : AV) =>
 tR (o_ldn 2 (.c x3) .nil h) fun v4 h5 =>
 tT (c 208 [x0,v4,x1,x2] h5) fun v6 h7 =>
 .nm T38 h7) (y0 r) (y1 r) (y2 r) (y6 r)
def k181_3 : KF := fun c i x r h => (fun (x0 x1 x2 x3 : AV) =>
 tQ (nic x0 h) fun v4 =>
 tQ (fa 8 v4 h) fun v5 =>
 tQ (ld v5 h) fun v6 =>
 tQ (nic x0 h) fun v7 =>
 tQ (fa 1 v7 h) fun v8 =>
 tQ (ld v8 h) fun v9 =>
 tQ (o_ldn 2 (.c x3) .nil h) fun v10 =>
 tX (c 196 [v6,v9,v10,x1] h) fun v11 h12 =>
 ifR v11 (tT (c 198 [x0,x1,x2] h12) fun v13 h14 =>
 x (T90 x0 x1 x2 x3) h14) (x (T90 x0 x1 x2 x3) h12)) (y0 r) (y1 r) (y2 r) (y6 r)
def k181_2 : KF := fun c i x r h => (fun (x0 x1 x2 x3 : AV) =>
 tR (o_ldn 2 (.c x3) .nil h) fun v4 h5 =>
 tT (c 194 [x0,v4,x1,x2] h5) fun v6 h7 =>
 tR (u_not v6 h7) fun v8 h9 =>
 ifR v8 (tR (nic x0 h9) fun v10 h11 =>
 tR (fa 19 v10 h11) fun v12 h13 =>
 tR (sto v12 (pi 0) h13) fun v14 h15 =>
 .ret T38 h15) (x (T90 x0 x1 x2 x3) h9)) (y0 r) (y1 r) (y2 r) (y6 r)
def k181_0 : KF := fun c i x r h => (fun (x0 x1 x2 : AV) =>
 tR (nic x0 h) fun v3 h4 =>
 tR (fa 8 v3 h4) fun v5 h6 =>
 tR (ld v5 h6) fun v7 h8 =>
 tT (c 192 [v7] h8) fun v9 h10 =>
 tR (o_alloc 226 2 (.k1 (.mk (pi 0) (pi 0) .undef .undef .undef .undef .undef .undef .undef .undef .undef .undef .undef .undef .undef .undef)) .nil h10) fun v11 h12 =>
 tR (o_stn 2 (.c v11) (.c v9) .nil h12) fun v13 h14 =>
 tR (nic x0 h14) fun v15 h16 =>
 tR (fa 8 v15 h16) fun v17 h18 =>
 tR (ld v17 h18) fun v19 h20 =>
 tT (c 197 [v19,x1,x2] h20) fun v21 h22 =>
 tR (o_ext 0 (.c v21) .nil h22) fun v23 h24 =>
 tR (o_ext 1 (.c v21) .nil h24) fun v25 h26 =>
 x (T147 x0 x1 v23 v11 v25) h26) (y0 r) (y1 r) (y2 r)
def x181 : AC := (.shal k181_0 (.seq (.seq (.ops [m d23 r7,
 o d24 (.un .not r23),
 m d25 r24,
 .g .h1 .h9 false d26 (.op (.mv r0)),
 .g .h1 .h9 false d27 (.op (.nilc r26)),
 .g .h1 .h9 false d28 (.op (.fad 19 r27)),
 .g .h1 .h9 false d29 (.op (.ld1 r28)),
 .g .h1 .h9 false d30 (.op (.bin .ne r29 a2)),
 o d31 (.pick r25 (.c (.bool true)) r30)]) (.shal k181_1 .skip)) (.shal k181_2 (.shal k181_3 (.shal k181_4 .skip)))))
def z181 : List Rs := []
def f181 : AF := .mk x181 z181
def k182_1 : KF := fun c i x r h => (fun (x0 x1 : AV) =>
 tR (fa 3 x0 h) fun v2 h3 =>
 tR (ld v2 h3) fun v4 h5 =>
 ifR v4 (tT (c 53 [x1] h5) fun v6 h7 =>
 tR (cK .b2s v6 h7) fun v8 h9 =>
 .ret (T23 v8) h9) (x (T59 x0 x1) h5)) (y1 r) (y3 r)
def k182_0 : KF := fun c i x r h => (fun (x0 : AV) =>
 tR (o_box 224 (.c x0) .nil h) fun v1 h2 =>
 tT (c 51 [] h2) fun v3 h4 =>
 tR (fa 0 v1 h4) fun v5 h6 =>
 tR (o_ldn 3 (.c v5) .nil h6) fun v7 h8 =>
 tT (c 223 [v3,v7] h8) fun v9 h10 =>
 tR (fa 3 v1 h10) fun v11 h12 =>
 tR (ld v11 h12) fun v13 h14 =>
 ifR v13 (tT (c 63 [v3,(pi 1)] h14) fun v15 h16 =>
 x (T59 v1 v3) h16) (tT (c 63 [v3,(pi 0)] h14) fun v17 h18 =>
 x (T59 v1 v3) h18)) (y0 r)
def x182 : AC := (.shal k182_0 (.shal k182_1 (.seq (.drw [q 0 (m d20 r3),
 w (.o d21 (.call 53 [r20])),
 q 0 (o d22 (.conv .b2s r21)),
 q 1 (o d23 (.fad 4 r1)),
 q 1 (o d24 (.ld1 r23)),
 q 0 (o d25 (.bin .cat r22 r24)),
 q 0 (m d2 r25)]) .ret)))
def z182 : List Rs := [.t .h0 .h2]
def f182 : AF := .mk x182 z182
def k183_2 : KF := fun c i x r h => (fun (x0 x1 : AV) =>
 tR (nic x0 h) fun v2 h3 =>
 tR (fa 3 v2 h3) fun v4 h5 =>
 tR (o_ldn 2 (.c v4) .nil h5) fun v6 h7 =>
 tR (o_stn 2 (.c x1) (.c v6) .nil h7) fun v8 h9 =>
 .ret (T22 x1) h9) (y0 r) (y4 r)
def k183_1 : KF := fun c i x r h => (fun (x0 x1 x2 : AV) =>
 tR (maxV false [x1,(pi 0)] h) fun v3 h4 =>
 tR (nic x0 h4) fun v5 h6 =>
 tR (fa 5 v5 h6) fun v7 h8 =>
 tR (sto v7 v3 h8) fun v9 h10 =>
 tR (o_mkmap .nil h10) fun v11 h12 =>
 tR (nic x0 h12) fun v13 h14 =>
 tR (fa 6 v13 h14) fun v15 h16 =>
 tR (sto v15 v11 h16) fun v17 h18 =>
 tR (o_mkmap .nil h18) fun v19 h20 =>
 tR (nic x0 h20) fun v21 h22 =>
 tR (fa 7 v21 h22) fun v23 h24 =>
 tR (sto v23 v19 h24) fun v25 h26 =>
 tR (o_mkmap .nil h26) fun v27 h28 =>
 tR (nic x0 h28) fun v29 h30 =>
 tR (fa 8 v29 h30) fun v31 h32 =>
 tR (sto v31 v27 h32) fun v33 h34 =>
 x (T76 x0 x2) h34) (y0 r) (y1 r) (y4 r)
def k183_0 : KF := fun c i x r h => (fun (x0 x1 : AV) =>
 tR (o_alloc 226 2 (.k1 (.mk (pi 0) (pi 0) .undef .undef .undef .undef .undef .undef .undef .undef .undef .undef .undef .undef .undef .undef)) .nil h) fun v2 h3 =>
 tR (nic x0 h3) fun v4 h5 =>
 tR (fa 2 v4 h5) fun v6 h7 =>
 tR (ld v6 h7) fun v8 h9 =>
 tR (maxV true [v8,(pi 1073741823)] h9) fun v10 h11 =>
 tR (b_add v10 (pi 1) h11) fun v12 h13 =>
 tR (nic x0 h13) fun v14 h15 =>
 tR (fa 2 v14 h15) fun v16 h17 =>
 tR (sto v16 v12 h17) fun v18 h19 =>
 tQ (nic x0 h19) fun v20 =>
 tQ (fa 2 v20 h19) fun v21 =>
 tQ (ld v21 h19) fun v22 =>
 tQ (nic x0 h19) fun v23 =>
 tQ (fa 0 v23 h19) fun v24 =>
 tQ (ld v24 h19) fun v25 =>
 tQ (o_build [(pi 0),(pi 0)] [.mk 0 1 (.c v22),.mk 1 1 (.c v25)] .nil h19) fun v26 =>
 tQ (nic x0 h19) fun v27 =>
 tQ (fa 3 v27 h19) fun v28 =>
 tX (RV.toT (o_stn 2 (.c v28) (.c v26) .nil h19)) fun v29 h30 =>
 x (T66 x0 x1 v2) h30) (y0 r) (y1 r)
def x183 : AC := (.shal k183_0 (.shal k183_1 (.shal k183_2 .skip)))
def z183 : List Rs := [.agg 2 .h0 .h4]
def f183 : AF := .mk x183 z183
def k184_0 : KF := fun c i x r h => (fun (x0 x1 x2 x3 : AV) =>
 tR (o_ldn 2 (.c x1) .nil h) fun v4 h5 =>
 tT (c 152 [x0,v4] h5) fun v6 h7 =>
 tR (ld x2 h7) fun v8 h9 =>
 tT (c 52 [x0,v8] h9) fun v10 h11 =>
 tR (ld x3 h11) fun v12 h13 =>
 tR (nic v12 h13) fun v14 h15 =>
 tR (fa 6 v14 h15) fun v16 h17 =>
 tR (ld v16 h17) fun v18 h19 =>
 tT (c 52 [x0,v18] h19) fun v20 h21 =>
 .nm T38 h21) (y0 r) (y1 r) (y2 r) (y3 r)
def x184 : AC := (.shal k184_0 .skip)
def z184 : List Rs := []
def f184 : AF := .mk x184 z184
def k185_0 : KF := fun c i x r h => (fun (x0 x1 : AV) =>
 ifR x1 (.ret T38 h) (.nm (T1 x0) h)) (y0 r) (y31 r)
def k185_4 : KF := fun c i x r h => (fun (x0 x1 x2 x3 : AV) =>
 tR (b_lt x3 x2 h) fun v4 h5 =>
 ifR v4 (tR (ix 1 x1 x3 h5) fun v6 h7 =>
 tR (ld v6 h7) fun v8 h9 =>
 tR (nic x0 h9) fun v10 h11 =>
 tR (fa 21 v10 h11) fun v12 h13 =>
 tR (ld v12 h13) fun v14 h15 =>
 tR (b_add v8 (pi 1) h15) fun v16 h17 =>
 tR (maxV false [v14,v16] h17) fun v18 h19 =>
 tR (nic x0 h19) fun v20 h21 =>
 tR (fa 21 v20 h21) fun v22 h23 =>
 tR (sto v22 v18 h23) fun v24 h25 =>
 tR (b_add x3 (pi 1) h25) fun v26 h27 =>
 .nm (T148 x0 x1 x2 v26) h27) (.ex 0 (T148 x0 x1 x2 x3) h5)) (y0 r) (y84 r) (y85 r) (y86 r)
def k185_3 : KF := fun c i x r h => (fun (x0 : AV) =>
 tR (nic x0 h) fun v1 h2 =>
 tR (fa 8 v1 h2) fun v3 h4 =>
 tR (ld v3 h4) fun v5 h6 =>
 tT (c 207 [v5] h6) fun v7 h8 =>
 tR (len v7 h8) fun v9 h10 =>
 x (T148 x0 v7 v9 (pi 0)) h10) (y0 r)
def k185_6 : KF := fun c i x r h => (fun (x0 x1 x2 : AV) =>
 tR (b_add x1 (pi 1) h) fun v3 h4 =>
 .nm (T149 x0 v3 x2) h4) (y0 r) (y7 r) (y8 r)
def k185_5 : KF := fun c i x r h => (fun (x0 x1 x2 : AV) =>
 tR (b_lt x1 x2 h) fun v3 h4 =>
 ifR v3 (tR (nic x0 h4) fun v5 h6 =>
 tR (fa 9 v5 h6) fun v7 h8 =>
 tR (ld v7 h8) fun v9 h10 =>
 tT (c 206 [v9,x1] h10) fun v11 h12 =>
 tR (o_ext 0 (.c v11) .nil h12) fun v13 h14 =>
 tR (o_ext 1 (.c v11) .nil h14) fun v15 h16 =>
 tR (u_not v15 h16) fun v17 h18 =>
 ifR v17 (tT (c 181 [x0,x1,(.str [])] h18) fun v19 h20 =>
 x (T149 x0 x1 x2) h20) (x (T149 x0 x1 x2) h18)) (.ex 2 (T1 x0) h4)) (y0 r) (y7 r) (y8 r)
def k185_8 : KF := fun c i x r h => (fun (x0 x1 x2 : AV) =>
 tR (b_lt x2 x1 h) fun v3 h4 =>
 ifR v3 (tR (nic x0 h4) fun v5 h6 =>
 tR (fa 17 v5 h6) fun v7 h8 =>
 tR (ld v7 h8) fun v9 h10 =>
 tR (ix 6 v9 x2 h10) fun v11 h12 =>
 tR (fa 5 v11 h12) fun v13 h14 =>
 tR (sto v13 (ni 0) h14) fun v15 h16 =>
 tR (b_add x2 (pi 1) h16) fun v17 h18 =>
 .nm (T150 x0 x1 v17) h18) (.ex 4 (T150 x0 x1 x2) h4)) (y0 r) (y133 r) (y134 r)
def k185_7 : KF := fun c i x r h => (fun (x0 : AV) =>
 tR (nic x0 h) fun v1 h2 =>
 tR (fa 17 v1 h2) fun v3 h4 =>
 tR (ld v3 h4) fun v5 h6 =>
 tR (len v5 h6) fun v7 h8 =>
 x (T150 x0 v7 (pi 0)) h8) (y0 r)
def k185_9 : KF := fun c i x r h => (fun (x0 : AV) =>
 tT (c 114 [x0] h) fun v1 h2 =>
 .nm T38 h2) (y0 r)
def k185_2 : KF := fun c i x r h => (fun (x0 x1 x2 x3 : AV) =>
 tR (u_not x3 h) fun v4 h5 =>
 ifR v4 (tR (nic x0 h5) fun v6 h7 =>
 tR (fa 19 v6 h7) fun v8 h9 =>
 tR (sto v8 (pi 0) h9) fun v10 h11 =>
 .ret T38 h11) (tQ (nic x0 h5) fun v12 =>
 tQ (fa 8 v12 h5) fun v13 =>
 tQ (ld v13 h5) fun v14 =>
 tQ (nic x0 h5) fun v15 =>
 tQ (fa 1 v15 h5) fun v16 =>
 tQ (ld v16 h5) fun v17 =>
 tQ (o_ldn 2 (.c x1) .nil h5) fun v18 =>
 tX (c 193 [v14,v17,v18,x2] h5) fun v19 h20 =>
 tR (nic x0 h20) fun v21 h22 =>
 tR (fa 19 v21 h22) fun v23 h24 =>
 tR (sto v23 (pi 2) h24) fun v25 h26 =>
 x (T1 x0) h26)) (y0 r) (y2 r) (y3 r) (y4 r)
def k185_1 : KF := fun c i x r h => (fun (x0 : AV) =>
 tR (nic x0 h) fun v1 h2 =>
 tR (fa 8 v1 h2) fun v3 h4 =>
 tR (ld v3 h4) fun v5 h6 =>
 tT (c 192 [v5] h6) fun v7 h8 =>
 tR (o_alloc 226 2 (.k1 (.mk (pi 0) (pi 0) .undef .undef .undef .undef .undef .undef .undef .undef .undef .undef .undef .undef .undef .undef)) .nil h8) fun v9 h10 =>
 tR (o_stn 2 (.c v9) (.c v7) .nil h10) fun v11 h12 =>
 x (T123 x0 v9) h12) (y0 r)
def x185 : AC := (.seq (.seq (.drw [q 0 (m d12 r0),
 q 0 (o d13 (.nilc r12)),
 q 0 (o d14 (.fad 19 r13)),
 q 0 (o d15 (.ld1 r14)),
 q 0 (o d16 (.bin .ne r15 a1)),
 q 0 (m d17 r16),
 q 0 (.g .h1 .h1 false d18 (.op (.mv r0))),
 q 0 (.g .h1 .h1 false d19 (.op (.nilc r18))),
 q 0 (.g .h1 .h1 false d20 (.op (.fad 20 r19))),
 q 0 (.g .h1 .h1 false d21 (.op (.ld1 r20))),
 q 0 (.g .h1 .h1 false d22 (.op (.lenm r21))),
 q 0 (.g .h1 .h1 false d25 (.op (.mv r0))),
 q 0 (.g .h1 .h1 false d26 (.op (.nilc r25))),
 q 0 (.g .h1 .h1 false d27 (.op (.fad 0 r26))),
 q 0 (.g .h1 .h1 false d28 (.op (.ld1 r27))),
 w (.g .h1 .h1 false d29 (.call 94 [r28])),
 q 1 (.g .h1 .h1 false d23 (.op (.bin .add r22 a1))),
 q 1 (.g .h1 .h1 false d24 (.op (.bin .mul a2 r23))),
 q 0 (.g .h1 .h1 false d30 (.op (.bin .le r24 r29))),
 q 0 (o d31 (.pick r17 (.c (.bool true)) r30))]) (.shal k185_0 .skip)) (.shal k185_1 (.seq (.drw [q 0 (m d40 r0),
 q 0 (o d41 (.nilc r40)),
 q 0 (o d42 (.fad 9 r41)),
 q 0 (o d43 (.ld1 r42)),
 w (.o d44 (.call 131 [r43])),
 q 1 (m d38 r0),
 q 1 (o d39 (.ldn 2 r2)),
 w (.o d45 (.call 186 [r38,r39,r44])),
 q 0 (m d37 r45),
 q 0 (o d46 (.ext 0 r37)),
 q 0 (o d47 (.ext 1 r37)),
 q 0 (m d3 r46),
 q 0 (m d4 r47)]) (.shal k185_2 (.seq (.drw [q 0 (m d68 r0),
 q 0 (o d69 (.nilc r68)),
 q 0 (o d70 (.fad 9 r69)),
 q 0 (o d71 (.ld1 r70)),
 w (.o d72 (.call 131 [r71])),
 q 1 (m d67 r0),
 q 1 (m d73 r0),
 q 1 (o d74 (.nilc r73)),
 q 1 (o d75 (.fad 10 r74)),
 q 1 (o d76 (.ld1 r75)),
 q 0 (o d77 (.max false [r72,r76])),
 q 0 (o d78 (.nilc r67)),
 q 0 (o d79 (.fad 21 r78)),
 w (o .no (.st1 r79 r77))]) (.seq (.shal k185_3 (.block 0 (.loop (.shal k185_4 .skip)))) (.seq (.seq (.drw [q 0 (m d101 r0),
 q 0 (o d102 (.nilc r101)),
 q 0 (o d103 (.fad 9 r102)),
 q 0 (o d104 (.ld1 r103)),
 w (.o d105 (.call 131 [r104])),
 q 1 (m d106 r0),
 q 1 (o d107 (.nilc r106)),
 q 1 (o d108 (.fad 21 r107)),
 q 1 (o d109 (.ld1 r108)),
 q 0 (m d7 r105),
 q 0 (m d8 r109)]) (.block 2 (.loop (.shal k185_5 (.shal k185_6 .skip))))) (.seq (.shal k185_7 (.block 4 (.loop (.shal k185_8 .skip)))) (.shal k185_9 .skip)))))))))
def z185 : List Rs := []
def f185 : AF := .mk x185 z185
def k186_1 : KF := fun c i x r h => (fun (x0 x1 x2 x3 : AV) =>
 ifR x3 (.ret (T5 .nils (.bool false)) h) (.nm (T151 x0 x1 x2) h)) (y0 r) (y2 r) (y4 r) (y23 r)
def k186_2 : KF := fun c i x r h => (fun (x0 x1 x2 : AV) =>
 tQ (nic x0 h) fun v3 =>
 tQ (fa 7 v3 h) fun v4 =>
 tQ (ld v4 h) fun v5 =>
 tQ (o_ldn 2 (.c x2) .nil h) fun v6 =>
 tX (c 140 [v5,v6,x1] h) fun v7 h8 =>
 tQ (o_ext 0 (.c v7) .nil h8) fun v9 =>
 tQ (o_ext 1 (.c v7) .nil h8) fun v10 =>
 .ret (T5 v10 v9) h8) (y0 r) (y2 r) (y4 r)
def k186_0 : KF := fun c i x r h => (fun (x0 x1 x2 : AV) =>
 tR (o_box 226 (.c x1) .nil h) fun v3 h4 =>
 x (T151 x0 x2 v3) h4) (y0 r) (y1 r) (y2 r)
def x186 : AC := (.shal k186_0 (.seq (.seq (.drw [q 0 (m d10 r0),
 q 0 (o d11 (.nilc r10)),
 q 0 (o d12 (.fad 7 r11)),
 q 0 (o d13 (.ld1 r12)),
 w (.o d14 (.call 155 [r13])),
 q 1 (o d15 (.ldn 2 r4)),
 w (.o d16 (.call 199 [r14,r15])),
 q 0 (o d17 (.un .not r16)),
 q 0 (m d18 r17),
 q 0 (.g .h1 .h2 false d19 (.op (.mv r0))),
 q 0 (.g .h1 .h2 false d20 (.op (.mkf 251 [r4]))),
 w (.g .h1 .h2 false d21 (.call 200 [r19,(.c (.bool true)),a1,r20])),
 q 0 (.g .h1 .h2 false d22 (.op (.un .not r21))),
 q 0 (o d23 (.pick r18 (.c (.bool true)) r22))]) (.shal k186_1 .skip)) (.shal k186_2 .skip)))
def z186 : List Rs := [.t .h0 .h6,.t .h0 .h7]
def f186 : AF := .mk x186 z186
def k188_0 : KF := fun c i x r h => (fun (x0 x1 x2 x3 : AV) =>
 tT (c 51 [] h) fun v4 h5 =>
 tT (c 63 [v4,x2] h5) fun v6 h7 =>
 tT (AV.onFn x3 (fun f l => c f (List.append [v4] l) h7) (.err 202)) fun v8 h9 =>
 x (T152 x0 x1 v4) h9) (y0 r) (y1 r) (y2 r) (y3 r)
def x188 : AC := (.shal k188_0 (.drw [q 0 (m d25 r8),
 w (.o d26 (.call 53 [r25])),
 q 1 (m d16 r0),
 q 1 (o d17 (.nilc r16)),
 q 1 (o d18 (.fad 0 r17)),
 q 1 (o d19 (.ld1 r18)),
 q 1 (m d20 r0),
 q 1 (o d21 (.nilc r20)),
 q 1 (o d22 (.fad 1 r21)),
 q 1 (o d23 (.ld1 r22)),
 q 1 (m d24 r1),
 w (.o d27 (.call 78 [r19,r23,r24,r26]))]))
def z188 : List Rs := []
def f188 : AF := .mk x188 z188
def k189_2 : KF := fun c i x r h => (fun (x0 x1 x2 x3 x4 x5 : AV) =>
 tR (b_lt x5 x4 h) fun v6 h7 =>
 ifR v6 (tR (ix 4 x3 x5 h7) fun v8 h9 =>
 tR (o_ldn 4 (.c v8) .nil h9) fun v10 h11 =>
 tR (o_alloc 234 4 (.k1 (.mk (pi 0) (pi 0) (pi 0) (.str []) .undef .undef .undef .undef .undef .undef .undef .undef .undef .undef .undef .undef)) .nil h11) fun v12 h13 =>
 tR (o_stn 4 (.c v12) (.c v10) .nil h13) fun v14 h15 =>
 tR (fa 1 v12 h15) fun v16 h17 =>
 tR (o_ldn 2 (.c v16) .nil h17) fun v18 h19 =>
 tT (c 152 [x0,v18] h19) fun v20 h21 =>
 tR (fa 0 v12 h21) fun v22 h23 =>
 tR (ld v22 h23) fun v24 h25 =>
 tT (c 52 [x0,v24] h25) fun v26 h27 =>
 tR (fa 3 v12 h27) fun v28 h29 =>
 tR (ld v28 h29) fun v30 h31 =>
 tT (c 153 [x0,v30] h31) fun v32 h33 =>
 tR (b_add x5 (pi 1) h33) fun v34 h35 =>
 .nm (T153 x0 x1 x2 x3 x4 v34) h35) (.ex 0 (T153 x0 x1 x2 x3 x4 x5) h7)) (y0 r) (y4 r) (y5 r) (y19 r) (y20 r) (y21 r)
def k189_1 : KF := fun c i x r h => (fun (x0 x1 x2 x3 : AV) =>
 tR (ld x1 h) fun v4 h5 =>
 tR (len v4 h5) fun v6 h7 =>
 x (T153 x0 x2 x3 v4 v6 (pi 0)) h7) (y0 r) (y3 r) (y4 r) (y5 r)
def k189_3 : KF := fun c i x r h => (fun (x0 x1 x2 : AV) =>
 tR (ld x1 h) fun v3 h4 =>
 tR (ld x2 h4) fun v5 h6 =>
 tT (c 156 [v3,v5] h6) fun v7 h8 =>
 tT (c 190 [x0,v7] h8) fun v9 h10 =>
 .nm T38 h10) (y0 r) (y4 r) (y5 r)
def k189_0 : KF := fun c i x r h => (fun (x0 x1 x2 x3 x4 x5 : AV) =>
 tR (o_ldn 2 (.c x1) .nil h) fun v6 h7 =>
 tT (c 152 [x0,v6] h7) fun v8 h9 =>
 tR (ld x2 h9) fun v10 h11 =>
 tT (c 52 [x0,v10] h11) fun v12 h13 =>
 tR (ld x3 h13) fun v14 h15 =>
 tR (len v14 h15) fun v16 h17 =>
 tT (c 52 [x0,v16] h17) fun v18 h19 =>
 x (T40 x0 x3 x4 x5) h19) (y0 r) (y1 r) (y2 r) (y3 r) (y4 r) (y5 r)
def x189 : AC := (.shal k189_0 (.seq (.shal k189_1 (.block 0 (.loop (.shal k189_2 .skip)))) (.shal k189_3 .skip)))
def z189 : List Rs := []
def f189 : AF := .mk x189 z189
def k190_1 : KF := fun c i x r h => (fun (x0 x1 x2 x3 : AV) =>
 tR (b_lt x3 x2 h) fun v4 h5 =>
 ifR v4 (tR (ix 4 x1 x3 h5) fun v6 h7 =>
 tR (o_ldn 4 (.c v6) .nil h7) fun v8 h9 =>
 tR (o_alloc 234 4 (.k1 (.mk (pi 0) (pi 0) (pi 0) (.str []) .undef .undef .undef .undef .undef .undef .undef .undef .undef .undef .undef .undef)) .nil h9) fun v10 h11 =>
 tR (o_stn 4 (.c v10) (.c v8) .nil h11) fun v12 h13 =>
 tR (fa 0 v10 h13) fun v14 h15 =>
 tR (ld v14 h15) fun v16 h17 =>
 tT (c 52 [x0,v16] h17) fun v18 h19 =>
 tR (fa 3 v10 h19) fun v20 h21 =>
 tR (ld v20 h21) fun v22 h23 =>
 tT (c 153 [x0,v22] h23) fun v24 h25 =>
 tR (b_add x3 (pi 1) h25) fun v26 h27 =>
 .nm (T154 x0 x1 x2 v26) h27) (.ex 0 (T154 x0 x1 x2 x3) h5)) (y0 r) (y10 r) (y11 r) (y12 r)
def k190_0 : KF := fun c i x r h => (fun (x0 x1 : AV) =>
 tR (len x1 h) fun v2 h3 =>
 tT (c 52 [x0,v2] h3) fun v4 h5 =>
 tR (len x1 h5) fun v6 h7 =>
 x (T154 x0 x1 v6 (pi 0)) h7) (y0 r) (y1 r)
def x190 : AC := (.shal k190_0 (.block 0 (.loop (.shal k190_1 .skip))))
def z190 : List Rs := []
def f190 : AF := .mk x190 z190
def k191_0 : KF := fun c i x r h => (fun (x0 : AV) =>
 tR (nic x0 h) fun v1 h2 =>
 tR (fa 2 v1 h2) fun v3 h4 =>
 tR (ld v3 h4) fun v5 h6 =>
 tR (b_ne v5 (pi 0) h6) fun v7 h8 =>
 .ret (T23 v7) h8) (y0 r)
def x191 : AC := (.shal k191_0 .skip)
def z191 : List Rs := [.t .h0 .h2]
def f191 : AF := .mk x191 z191
def k192_0 : KF := fun c i x r h => (fun (x0 : AV) =>
 tR (o_alloc 226 2 (.k1 (.mk (pi 0) (pi 0) .undef .undef .undef .undef .undef .undef .undef .undef .undef .undef .undef .undef .undef .undef)) .nil h) fun v1 h2 =>
 tR (nic x0 h2) fun v3 h4 =>
 tR (fa 3 v3 h4) fun v5 h6 =>
 tR (o_ldn 2 (.c v5) .nil h6) fun v7 h8 =>
 tR (o_stn 2 (.c v1) (.c v7) .nil h8) fun v9 h10 =>
 .ret (T23 v1) h10) (y0 r)
def x192 : AC := (.shal k192_0 .skip)
def z192 : List Rs := [.agg 2 .h0 .h2]
def f192 : AF := .mk x192 z192
def k193_2 : KF := fun c i x r h => (fun (x0 x1 x2 x3 x4 : AV) =>
 ifR x4 (.go 0 (T156 x0 x1 x2 x3) h) (.nm (T156 x0 x1 x2 x3) h)) (y0 r) (y1 r) (y3 r) (y8 r) (y40 r)
def k193_6 : KF := fun c i x r h => (fun (x0 x1 x2 x3 x4 : AV) =>
 ifR x4 (.go 1 (T159 x0 x1 x2 x3) h) (.nm (T159 x0 x1 x2 x3) h)) (y0 r) (y3 r) (y8 r) (y9 r) (y67 r)
def k193_7 : KF := fun c i x r h => (fun (x0 x1 x2 x3 x4 : AV) =>
 ifR x4 (tQ (nic x0 h) fun v5 =>
 tQ (fa 7 v5 h) fun v6 =>
 tQ (ld v6 h) fun v7 =>
 tQ (fa 0 x3 h) fun v8 =>
 tQ (ld v8 h) fun v9 =>
 tQ (o_ldn 4 (.c x3) .nil h) fun v10 =>
 tX (RV.toT (mup (.one .i) v7 v9 v10 h)) fun v11 h12 =>
 .nm (T157 x0 x1 x2) h12) (.nm (T157 x0 x1 x2) h)) (y0 r) (y3 r) (y8 r) (y9 r) (y86 r)
def k193_5 : KF := fun c i x r h => (fun (x0 x1 x2 : AV) =>
 tR (ix 4 x1 x2 h) fun v3 h4 =>
 tR (o_ldn 4 (.c v3) .nil h4) fun v5 h6 =>
 tR (o_alloc 234 4 (.k1 (.mk (pi 0) (pi 0) (pi 0) (.str []) .undef .undef .undef .undef .undef .undef .undef .undef .undef .undef .undef .undef)) .nil h6) fun v7 h8 =>
 tR (o_stn 4 (.c v7) (.c v5) .nil h8) fun v9 h10 =>
 tR (b_add x2 (pi 1) h10) fun v11 h12 =>
 x (T159 x0 x1 v11 v7) h12) (y0 r) (y3 r) (y8 r)
def k193_4 : KF := fun c i x r h => (fun (x0 x1 x2 : AV) =>
 tR (len x1 h) fun v3 h4 =>
 tR (b_lt x2 v3 h4) fun v5 h6 =>
 x (T158 x0 x1 x2 v5) h6) (y0 r) (y3 r) (y8 r)
def k193_3 : KF := fun c i x r h => (fun (x0 x1 x2 x3 : AV) =>
 tR (nic x0 h) fun v4 h5 =>
 tR (fa 6 v4 h5) fun v6 h7 =>
 tR (ld v6 h7) fun v8 h9 =>
 tR (mup (.one .i) v8 x1 (pi 1) h9) fun v10 h11 =>
 x (T157 x0 x2 x3) h11) (y0 r) (y1 r) (y3 r) (y8 r)
def k193_1 : KF := fun c i x r h => (fun (x0 x1 x2 x3 : AV) =>
 tR (o_ldn 2 (.c x3) .nil h) fun v4 h5 =>
 tT (c 118 [x0,v4] h5) fun v6 h7 =>
 x (T155 x0 x1 x2 x3 (pi 0)) h7) (y0 r) (y1 r) (y3 r) (y6 r)
def k193_0 : KF := fun c i x r h => (fun (x0 x1 x2 x3 : AV) =>
 tR (o_box 226 (.c x2) .nil h) fun v4 h5 =>
 x (T131 x0 x1 x3 v4) h5) (y0 r) (y1 r) (y2 r) (y3 r)
def x193 : AC := (.shal k193_0 (.scope (.shal k193_1 (.seq (.seq (.drw [q 0 (o d15 (.ldn 2 r6)),
 q 0 (m d16 r0),
 q 0 (o d17 (.nilc r16)),
 q 0 (o d18 (.fad 3 r17)),
 q 0 (o d19 (.ldn 2 r18)),
 q 0 (o d20 (.bin (.ane [.i,.i]) r15 r19)),
 q 0 (m d21 r20),
 q 0 (.g .h1 .h5 false d22 (.op (.ldn 2 r6))),
 q 0 (.g .h1 .h5 false d23 (.op (.build [(pi 0),(pi 0)] []))),
 q 0 (.g .h1 .h5 false d24 (.op (.bin (.aeq [.i,.i]) r22 r23))),
 q 0 (o d25 (.pick r21 (.c (.bool true)) r24)),
 q 0 (m d26 r25),
 q 0 (.g .h1 .ha false d27 (.op (.mv r0))),
 q 0 (.g .h1 .ha false d28 (.op (.mv r1))),
 w (.g .h1 .ha false d29 (.call 253 [r27,r28])),
 q 0 (.g .h1 .ha false d30 (.op (.un .not r29))),
 q 0 (o d31 (.pick r26 (.c (.bool true)) r30)),
 q 0 (m d32 r31),
 q 0 (.g .h2 .h0 false d33 (.op (.mv r0))),
 q 0 (.g .h2 .h0 false d34 (.op (.nilc r33))),
 q 0 (.g .h2 .h0 false d35 (.op (.fad 6 r34))),
 q 0 (.g .h2 .h0 false d36 (.op (.ld1 r35))),
 q 0 (.g .h2 .h0 false d37 (.op (.mv r1))),
 q 0 (.g .h2 .h0 false d38 (.op (.lkp (.one .i) (pi 0) false r36 r37))),
 q 0 (.g .h2 .h0 false d39 (.op (.bin .gt r38 a0))),
 q 0 (o d40 (.pick r32 (.c (.bool true)) r39))]) (.shal k193_2 .skip)) (.shal k193_3 (.seq (.label 1) (.seq (.shal k193_4 (.cond r49 (.shal k193_5 (.seq (.seq (.drw [q 0 (o d56 (.fad 0 r9)),
 q 0 (o d57 (.ld1 r56)),
 q 0 (m d58 r0),
 q 0 (o d59 (.nilc r58)),
 q 0 (o d60 (.fad 5 r59)),
 q 0 (o d61 (.ld1 r60)),
 q 0 (o d62 (.bin .lt r57 r61)),
 q 0 (m d63 r62),
 q 0 (.g .h3 .hf false d64 (.op (.fad 0 r9))),
 q 0 (.g .h3 .hf false d65 (.op (.ld1 r64))),
 q 0 (.g .h3 .hf false d66 (.op (.bin .ge r65 (.c (pi 1048576))))),
 q 0 (o d67 (.pick r63 (.c (.bool true)) r66))]) (.shal k193_6 .skip)) (.seq (.seq (.drw [w (o d10 (.alloc 234 4 (.k1 (.mk (pi 0) (pi 0) (pi 0) (.str []) .undef .undef .undef .undef .undef .undef .undef .undef .undef .undef .undef .undef)))),
 q 1 (m d69 r0),
 q 1 (o d70 (.nilc r69)),
 q 1 (o d71 (.fad 7 r70)),
 q 1 (o d72 (.ld1 r71)),
 q 1 (o d73 (.fad 0 r9)),
 q 1 (o d74 (.ld1 r73)),
 q 1 (o d75 (.lkp (.one .i) (.agg [(pi 0),(pi 0),(pi 0),(.str [])]) true r72 r74)),
 q 1 (m d68 r75),
 q 1 (o d76 (.ext 0 r68)),
 w (o .no (.stn 4 r10 r76)),
 q 2 (o d77 (.ext 1 r68)),
 q 0 (m d11 r77)]) (.seq (.ops [m d78 r11,
 o d79 (.un .not r78),
 m d80 r79,
 .g .h5 .h0 false d81 (.op (.fad 1 r10)),
 .g .h5 .h0 false d82 (.op (.ldn 2 r81)),
 .g .h5 .h0 false d83 (.op (.fad 1 r9)),
 .g .h5 .h0 false d84 (.op (.ldn 2 r83)),
 .g .h5 .h0 false d85 (.call 199 [r82,r84]),
 o d86 (.pick r80 (.c (.bool true)) r85)]) (.shal k193_7 .skip))) (.goto 1)))) .skip)) (.label 0))))))))
def z193 : List Rs := []
def f193 : AF := .mk x193 z193
def k194_1 : KF := fun c i x r h => (fun (x0 x1 x2 x3 x4 : AV) =>
 ifR x4 (.ret (T146 (.bool false)) h) (.nm (T110 x0 x1 x2 x3) h)) (y0 r) (y5 r) (y6 r) (y7 r) (y35 r)
def k194_3 : KF := fun c i x r h => (fun (x0 x1 x2 x3 x4 x5 : AV) =>
 ifR x5 (tR (sto x4 (pi 3) h) fun v6 h7 =>
 .nm (T160 x0 x1 x2 x3 x4) h7) (.nm (T160 x0 x1 x2 x3 x4) h)) (y0 r) (y5 r) (y6 r) (y7 r) (y9 r) (y45 r)
def k194_4 : KF := fun c i x r h => (fun (x0 x1 x2 x3 x4 : AV) =>
 tR (ld x4 h) fun v5 h6 =>
 tT (c 200 [x0,(.bool true),v5,(.fn 254 [x1,x2,x4,x3])] h6) fun v7 h8 =>
 x (T161 x0 x1 x2 x3 v7) h8) (y0 r) (y5 r) (y6 r) (y7 r) (y9 r)
def k194_2 : KF := fun c i x r h => (fun (x0 x1 x2 x3 : AV) =>
 tR (o_alloc 3 1 (.k1 (.mk (pi 0) .undef .undef .undef .undef .undef .undef .undef .undef .undef .undef .undef .undef .undef .undef .undef)) .nil h) fun v4 h5 =>
 tR (sto v4 (pi 2) h5) fun v6 h7 =>
 x (T160 x0 x1 x2 x3 v4) h7) (y0 r) (y5 r) (y6 r) (y7 r)
def k194_0 : KF := fun c i x r h => (fun (x0 x1 x2 x3 : AV) =>
 tR (o_box 226 (.c x1) .nil h) fun v4 h5 =>
 tR (o_box 3 (.c x2) .nil h5) fun v6 h7 =>
 tR (o_box 9 (.c x3) .nil h7) fun v8 h9 =>
 x (T110 x0 v4 v6 v8) h9) (y0 r) (y1 r) (y2 r) (y3 r)
def x194 : AC := (.shal k194_0 (.seq (.seq (.drw [q 0 (m d12 r0),
 q 0 (o d13 (.nilc r12)),
 q 0 (o d14 (.fad 7 r13)),
 q 0 (o d15 (.ld1 r14)),
 w (.o d16 (.call 155 [r15])),
 q 1 (o d11 (.ldn 2 r5)),
 w (.o d17 (.call 199 [r11,r16])),
 q 0 (m d18 r17),
 q 0 (.g .h1 .h2 false d19 (.op (.ldn 2 r5))),
 q 0 (.g .h1 .h2 false d20 (.op (.build [(pi 0),(pi 0)] []))),
 q 0 (.g .h1 .h2 false d21 (.op (.bin (.aeq [.i,.i]) r19 r20))),
 q 0 (o d22 (.pick r18 (.c (.bool true)) r21)),
 q 0 (m d23 r22),
 q 0 (.g .h1 .h7 false d24 (.op (.ld1 r6))),
 q 0 (.g .h1 .h7 false d25 (.op (.mv r0))),
 q 0 (.g .h1 .h7 false d26 (.op (.nilc r25))),
 q 0 (.g .h1 .h7 false d27 (.op (.fad 13 r26))),
 q 0 (.g .h1 .h7 false d28 (.op (.fad 0 r27))),
 q 0 (.g .h1 .h7 false d29 (.op (.ld1 r28))),
 q 0 (.g .h1 .h7 false d30 (.op (.bin .lt r24 r29))),
 q 0 (o d31 (.pick r23 (.c (.bool true)) r30)),
 q 0 (m d32 r31),
 q 0 (.g .h2 .h0 false d33 (.op (.ld1 r6))),
 q 0 (.g .h2 .h0 false d34 (.op (.bin .ge r33 (.c (pi 1048576))))),
 q 0 (o d35 (.pick r32 (.c (.bool true)) r34))]) (.shal k194_1 .skip)) (.shal k194_2 (.seq (.seq (.drw [q 0 (m d36 r0),
 q 0 (o d37 (.ld1 r6)),
 w (.o d38 (.call 157 [r36,r37])),
 q 0 (m d39 r38),
 q 0 (.g .h2 .h7 true d40 (.op (.mv r0))),
 q 0 (.g .h2 .h7 true d41 (.op (.ld1 r6))),
 w (.g .h2 .h7 true d42 (.call 141 [r40,r41])),
 q 1 (.g .h2 .h7 true d43 (.op (.ld1 r7))),
 q 0 (.g .h2 .h7 true d44 (.op (.bin .seq r42 r43))),
 q 0 (o d45 (.pick r39 r44 (.c (.bool false))))]) (.shal k194_3 .skip)) (.shal k194_4 (.seq (.drw [q 0 (m d50 r10),
 q 0 (m d51 r50),
 q 0 (.g .h3 .h3 true d52 (.op (.mv r0))),
 q 0 (.g .h3 .h3 true d53 (.op (.nilc r52))),
 q 0 (.g .h3 .h3 true d54 (.op (.fad 7 r53))),
 q 0 (.g .h3 .h3 true d55 (.op (.ld1 r54))),
 q 0 (.g .h3 .h3 true d56 (.op (.ldn 2 r5))),
 q 0 (.g .h3 .h3 true d57 (.op (.ld1 r6))),
 q 0 (.g .h3 .h3 true d58 (.op (.ld1 r7))),
 w (.g .h3 .h3 true d59 (.call 255 [r55,r56,r57,r58])),
 q 0 (o d60 (.pick r51 r59 (.c (.bool false)))),
 q 0 (m d8 r60)]) .ret))))))
def z194 : List Rs := [.t .h0 .h8]
def f194 : AF := .mk x194 z194
def k195_0 : KF := fun c i x r h => (fun (x0 x1 x2 : AV) =>
 tR (o_ldn 2 (.c x1) .nil h) fun v3 h4 =>
 tT (c 152 [x0,v3] h4) fun v5 h6 =>
 tR (ld x2 h6) fun v7 h8 =>
 tT (c 52 [x0,v7] h8) fun v9 h10 =>
 .nm T38 h10) (y0 r) (y1 r) (y2 r)
def x195 : AC := (.shal k195_0 .skip)
def z195 : List Rs := []
def f195 : AF := .mk x195 z195
def k196_1 : KF := fun c i x r h => (fun (x0 x1 x2 x3 : AV) =>
 ifR x3 (.ret (T146 (.bool false)) h) (.nm (T162 x0 x1 x2) h)) (y0 r) (y1 r) (y9 r) (y31 r)
def k196_2 : KF := fun c i x r h => (fun (x0 x1 x2 : AV) =>
 tR (nic x2 h) fun v3 h4 =>
 tR (fa 1 v3 h4) fun v5 h6 =>
 tR (ld v5 h6) fun v7 h8 =>
 tR (mup (.one .i) v7 x1 (pi 1) h8) fun v9 h10 =>
 tR (nic x2 h10) fun v11 h12 =>
 tR (fa 1 v11 h12) fun v13 h14 =>
 tR (ld v13 h14) fun v15 h16 =>
 tR (o_lenm (.c v15) .nil h16) fun v17 h18 =>
 tT (c 256 [x0,v17] h18) fun v19 h20 =>
 .ret (T146 v19) h20) (y0 r) (y1 r) (y9 r)
def k196_0 : KF := fun c i x r h => (fun (x0 x1 x2 x3 : AV) =>
 tR (o_box 226 (.c x2) .nil h) fun v4 h5 =>
 tR (nic x0 h5) fun v6 h7 =>
 tR (fa 8 v6 h7) fun v8 h9 =>
 tR (ld v8 h9) fun v10 h11 =>
 tR (lkp (.one .i) .nilp false v10 x3 h11) fun v12 h13 =>
 x (T129 x0 x1 v4 v12) h13) (y0 r) (y1 r) (y2 r) (y3 r)
def x196 : AC := (.shal k196_0 (.seq (.seq (.drw [q 0 (o d16 (.ldn 2 r6)),
 q 0 (m d17 r0),
 q 0 (o d18 (.nilc r17)),
 q 0 (o d19 (.fad 3 r18)),
 q 0 (o d20 (.ldn 2 r19)),
 q 0 (o d21 (.bin (.ane [.i,.i]) r16 r20)),
 q 0 (m d22 r21),
 q 0 (.g .h1 .h6 false d23 (.op (.mv r0))),
 q 0 (.g .h1 .h6 false d24 (.op (.mv r1))),
 w (.g .h1 .h6 false d25 (.call 253 [r23,r24])),
 q 0 (.g .h1 .h6 false d26 (.op (.un .not r25))),
 q 0 (o d27 (.pick r22 (.c (.bool true)) r26)),
 q 0 (m d28 r27),
 q 0 (.g .h1 .hc false d29 (.op (.mv r9))),
 q 0 (.g .h1 .hc false d30 (.op (.bin .peq r29 (.c .nilp)))),
 q 0 (o d31 (.pick r28 (.c (.bool true)) r30))]) (.shal k196_1 .skip)) (.shal k196_2 .skip)))
def z196 : List Rs := [.t .h0 .h8]
def f196 : AF := .mk x196 z196
def k197_1 : KF := fun c i x r h => (fun (x0 x1 x2 x3 : AV) =>
 ifR x3 (.ret (T5 (.str []) (.bool false)) h) (.nm (T87 x0 x1 x2) h)) (y0 r) (y1 r) (y2 r) (y25 r)
def k197_4 : KF := fun c i x r h => (fun (x0 x1 x2 : AV) =>
 tR (nic x0 h) fun v3 h4 =>
 tR (fa 8 v3 h4) fun v5 h6 =>
 tR (ld v5 h6) fun v7 h8 =>
 tR (o_mkmap .nil h8) fun v9 h10 =>
 tR (o_build [(.str []),.nilm] [.mk 0 1 (.c x2),.mk 1 1 (.c v9)] .nil h10) fun v11 h12 =>
 tR (o_box 381 (.c v11) .nil h12) fun v13 h14 =>
 tR (mup (.one .i) v7 x1 v13 h14) fun v15 h16 =>
 .ret (T5 x2 (.bool true)) h16) (y0 r) (y1 r) (y2 r)
def k197_3 : KF := fun c i x r h => (fun (x0 x1 x2 : AV) =>
 tR (nic x0 h) fun v3 h4 =>
 tR (fa 7 v3 h4) fun v5 h6 =>
 tR (ld v5 h6) fun v7 h8 =>
 tR (lkp (.one .i) (.agg [(pi 0),(pi 0),(pi 0),(.str [])]) true v7 x1 h8) fun v9 h10 =>
 tR (o_ext 0 (.c v9) .nil h10) fun v11 h12 =>
 tR (o_ext 1 (.c v9) .nil h12) fun v13 h14 =>
 tR (o_alloc 234 4 (.k1 (.mk (pi 0) (pi 0) (pi 0) (.str []) .undef .undef .undef .undef .undef .undef .undef .undef .undef .undef .undef .undef)) .nil h14) fun v15 h16 =>
 tR (o_stn 4 (.c v15) (.c v11) .nil h16) fun v17 h18 =>
 ifR v13 (tR (fa 3 v15 h18) fun v19 h20 =>
 tR (ld v19 h20) fun v21 h22 =>
 x (T87 x0 x1 v21) h22) (x (T87 x0 x1 x2) h18)) (y0 r) (y1 r) (y2 r)
def k197_2 : KF := fun c i x r h => (fun (x0 x1 x2 : AV) =>
 tR (nic x0 h) fun v3 h4 =>
 tR (fa 8 v3 h4) fun v5 h6 =>
 tR (ld v5 h6) fun v7 h8 =>
 tR (lkp (.one .i) .nilp false v7 x1 h8) fun v9 h10 =>
 tR (bK .pne v9 .nilp h10) fun v11 h12 =>
 ifR v11 (tR (nic v9 h12) fun v13 h14 =>
 tR (fa 0 v13 h14) fun v15 h16 =>
 tR (ld v15 h16) fun v17 h18 =>
 .ret (T5 v17 (.bool true)) h18) (x (T87 x0 x1 x2) h12)) (y0 r) (y1 r) (y2 r)
def k197_0 : KF := fun c i x r h => (fun (x0 x1 x2 : AV) =>
 x (T87 x0 x1 x2) h) (y0 r) (y1 r) (y2 r)
def x197 : AC := (.shal k197_0 (.seq (.seq (.ops [m d11 r0,
 .o d12 (.call 257 [r11]),
 o d13 (.un .not r12),
 m d14 r13,
 .g .h0 .he false d15 (.op (.mv r1)),
 .g .h0 .he false d16 (.op (.mv r0)),
 .g .h0 .he false d17 (.op (.nilc r16)),
 .g .h0 .he false d18 (.op (.fad 5 r17)),
 .g .h0 .he false d19 (.op (.ld1 r18)),
 .g .h0 .he false d20 (.op (.bin .lt r15 r19)),
 o d21 (.pick r14 (.c (.bool true)) r20),
 m d22 r21,
 .g .h1 .h6 false d23 (.op (.mv r1)),
 .g .h1 .h6 false d24 (.op (.bin .ge r23 (.c (pi 1048576)))),
 o d25 (.pick r22 (.c (.bool true)) r24)]) (.shal k197_1 .skip)) (.shal k197_2 (.shal k197_3 (.shal k197_4 .skip)))))
def z197 : List Rs := [.t .h0 .h6,.t .h0 .h7]
def f197 : AF := .mk x197 z197
def k198_2 : KF := fun c i x r h => (fun (x0 x1 x2 x3 : AV) =>
 ifR x3 (.ret T38 h) (.nm (T104 x0 x1 x2) h)) (y0 r) (y4 r) (y5 r) (y26 r)
def k198_1 : KF := fun c i x r h => (fun (x0 x1 x2 : AV) =>
 tQ (nic x0 h) fun v3 =>
 tQ (fa 9 v3 h) fun v4 =>
 tQ (ld v4 h) fun v5 =>
 tQ (ld x1 h) fun v6 =>
 tX (c 206 [v5,v6] h) fun v7 h8 =>
 tQ (o_ext 0 (.c v7) .nil h8) fun v9 =>
 tQ (o_ext 1 (.c v7) .nil h8) fun v10 =>
 x (T163 x0 x1 x2 v10) h8) (y0 r) (y4 r) (y5 r)
def k198_3 : KF := fun c i x r h => (fun (x0 x1 x2 : AV) =>
 tR (ld x1 h) fun v3 h4 =>
 tR (ld x2 h4) fun v5 h6 =>
 tT (c 125 [x0,v3,v5] h6) fun v7 h8 =>
 tT (c 132 [x0,(pi 6),(.fn 258 [x1,x2])] h8) fun v9 h10 =>
 .nm T38 h10) (y0 r) (y4 r) (y5 r)
def k198_0 : KF := fun c i x r h => (fun (x0 x1 x2 : AV) =>
 tR (o_box 3 (.c x1) .nil h) fun v3 h4 =>
 tR (o_box 9 (.c x2) .nil h4) fun v5 h6 =>
 x (T104 x0 v3 v5) h6) (y0 r) (y1 r) (y2 r)
def x198 : AC := (.shal k198_0 (.seq (.shal k198_1 (.seq (.drw [q 0 (m d17 r7),
 q 0 (m d18 r17),
 q 0 (.g .h1 .h2 false d20 (.op (.mv r0))),
 q 0 (.g .h1 .h2 false d21 (.op (.nilc r20))),
 q 0 (.g .h1 .h2 false d22 (.op (.fad 9 r21))),
 q 0 (.g .h1 .h2 false d23 (.op (.ld1 r22))),
 w (.g .h1 .h2 false d24 (.call 135 [r23])),
 q 1 (.g .h1 .h2 false d19 (.op (.ld1 r4))),
 q 0 (.g .h1 .h2 false d25 (.op (.bin .lt r19 r24))),
 q 0 (o d26 (.pick r18 (.c (.bool true)) r25))]) (.shal k198_2 .skip))) (.shal k198_3 .skip)))
def z198 : List Rs := []
def f198 : AF := .mk x198 z198
def k199_0 : KF := fun c i x r h => (fun (x0 x1 : AV) =>
 tR (o_box 226 (.c x0) .nil h) fun v2 h3 =>
 tR (o_box 226 (.c x1) .nil h3) fun v4 h5 =>
 tR (o_ldn 2 (.c v2) .nil h5) fun v6 h7 =>
 tR (o_ldn 2 (.c v4) .nil h7) fun v8 h9 =>
 tT (c 259 [v6,v8] h9) fun v10 h11 =>
 tR (b_lt v10 (pi 0) h11) fun v12 h13 =>
 .ret (T22 v12) h13) (y0 r) (y1 r)
def x199 : AC := (.shal k199_0 .skip)
def z199 : List Rs := [.t .h0 .h4]
def f199 : AF := .mk x199 z199
def k200_2 : KF := fun c i x r h => (fun (x0 x1 : AV) =>
 ifR x1 (tR (nic x0 h) fun v2 h3 =>
 tR (fa 2 v2 h3) fun v4 h5 =>
 tR (ld v4 h5) fun v6 h7 =>
 tT (c 261 [v6] h7) fun v8 h9 =>
 .ret (T146 (.bool true)) h9) (.ret (T146 (.bool true)) h)) (y0 r) (y1 r)
def k200_1 : KF := fun c i x r h => (fun (x0 x1 x2 : AV) =>
 tR (nic x0 h) fun v3 h4 =>
 tR (fa 2 v3 h4) fun v5 h6 =>
 tR (ld v5 h6) fun v7 h8 =>
 tT (c 260 [v7,x2] h8) fun v9 h10 =>
 tR (b_ne v9 (pi 0) h10) fun v11 h12 =>
 ifR v11 (.ret (T146 (.bool false)) h12) (tR (nic x0 h12) fun v13 h14 =>
 tR (fa 5 v13 h14) fun v15 h16 =>
 tR (ld v15 h16) fun v17 h18 =>
 tR (len x2 h18) fun v19 h20 =>
 tR (b_add v17 v19 h20) fun v21 h22 =>
 tR (nic x0 h22) fun v23 h24 =>
 tR (fa 5 v23 h24) fun v25 h26 =>
 tR (sto v25 v21 h26) fun v27 h28 =>
 x (T50 x0 x1) h28)) (y0 r) (y1 r) (y9 r)
def k200_0 : KF := fun c i x r h => (fun (x0 x1 x2 x3 : AV) =>
 tT (c 146 [x2,x3] h) fun v4 h5 =>
 tR (nic x0 h5) fun v6 h7 =>
 tR (fa 5 v6 h7) fun v8 h9 =>
 tR (ld v8 h9) fun v10 h11 =>
 tR (len v4 h11) fun v12 h13 =>
 tR (b_add v10 v12 h13) fun v14 h15 =>
 tR (b_gt v14 (pi 2097152) h15) fun v16 h17 =>
 ifR v16 (tT (c 99 [x0] h17) fun v18 h19 =>
 x (T162 x0 x1 v4) h19) (x (T162 x0 x1 v4) h17)) (y0 r) (y1 r) (y2 r) (y3 r)
def x200 : AC := (.shal k200_0 (.shal k200_1 (.shal k200_2 .skip)))
def z200 : List Rs := [.t .h0 .h8]
def f200 : AF := .mk x200 z200
def k201_0 : KF := fun c i x r h => (fun (x0 x1 x2 x3 : AV) =>
 tR (ld x1 h) fun v4 h5 =>
 tT (c 52 [x0,v4] h5) fun v6 h7 =>
 tR (ld x2 h7) fun v8 h9 =>
 tR (b_eq v8 (pi 4) h9) fun v10 h11 =>
 ifR v10 (tR (ld x3 h11) fun v12 h13 =>
 tT (c 153 [x0,v12] h13) fun v14 h15 =>
 .nm T38 h15) (.nm T38 h11)) (y0 r) (y1 r) (y2 r) (y3 r)
def x201 : AC := (.shal k201_0 .skip)
def z201 : List Rs := []
def f201 : AF := .mk x201 z201
def k203_0 : KF := fun c i x r h => (fun (x0 x1 : AV) =>
 tR (ld x1 h) fun v2 h3 =>
 tT (c 190 [x0,v2] h3) fun v4 h5 =>
 .nm T38 h5) (y0 r) (y1 r)
def x203 : AC := (.shal k203_0 .skip)
def z203 : List Rs := []
def f203 : AF := .mk x203 z203
def k204_2 : KF := fun c i x r h => (fun (x0 x1 : AV) =>
 tR (o_ldn 6 (.c x1) .nil h) fun v2 h3 =>
 tR (o_stn 6 (.c x0) (.c v2) .nil h3) fun v4 h5 =>
 .ret (T33 x0 (.bool true)) h5) (y4 r) (y7 r)
def k204_1 : KF := fun c i x r h => (fun (x0 x1 x2 : AV) =>
 tR (nic x0 h) fun v3 h4 =>
 tR (fa 17 v3 h4) fun v5 h6 =>
 tR (ld v5 h6) fun v7 h8 =>
 tR (ix 6 v7 x2 h8) fun v9 h10 =>
 tR (o_ldn 6 (.c v9) .nil h10) fun v11 h12 =>
 tR (o_alloc 224 6 (.k1 (.mk (pi 0) (pi 0) (pi 0) (.bool false) (.str []) (pi 0) .undef .undef .undef .undef .undef .undef .undef .undef .undef .undef)) .nil h12) fun v13 h14 =>
 tR (o_stn 6 (.c v13) (.c v11) .nil h14) fun v15 h16 =>
 tR (nic x0 h16) fun v17 h18 =>
 tR (fa 17 v17 h18) fun v19 h20 =>
 tR (ld v19 h20) fun v21 h22 =>
 tT (c 265 [v21] h22) fun v23 h24 =>
 tR (b_add x2 (pi 1) h24) fun v25 h26 =>
 tT (c 264 [v23,x2,v25] h26) fun v27 h28 =>
 tR (nic x0 h28) fun v29 h30 =>
 tR (fa 17 v29 h30) fun v31 h32 =>
 tR (sto v31 v27 h32) fun v33 h34 =>
 x (T165 x1 v13) h34) (y0 r) (y4 r) (y6 r)
def k204_0 : KF := fun c i x r h => (fun (x0 x1 : AV) =>
 tR (o_box 222 (.c x1) .nil h) fun v2 h3 =>
 tR (o_alloc 224 6 (.k1 (.mk (pi 0) (pi 0) (pi 0) (.bool false) (.str []) (pi 0) .undef .undef .undef .undef .undef .undef .undef .undef .undef .undef)) .nil h3) fun v4 h5 =>
 tR (nic x0 h5) fun v6 h7 =>
 tR (fa 17 v6 h7) fun v8 h9 =>
 tR (ld v8 h9) fun v10 h11 =>
 tT (c 262 [v10,(.fn 263 [v2])] h11) fun v12 h13 =>
 tR (b_lt v12 (pi 0) h13) fun v14 h15 =>
 ifR v14 (tR (o_build [(pi 0),(pi 0),(pi 0),(.bool false),(.str []),(pi 0)] [] .nil h15) fun v16 h17 =>
 tR (o_stn 6 (.c v4) (.c v16) .nil h17) fun v18 h19 =>
 .ret (T33 v4 (.bool false)) h19) (x (T164 x0 v4 v12) h15)) (y0 r) (y1 r)
def x204 : AC := (.shal k204_0 (.shal k204_1 (.shal k204_2 .skip)))
def z204 : List Rs := [.agg 6 .h0 .h4,.t .h0 .h5]
def f204 : AF := .mk x204 z204
def k205_0 : KF := fun c i x r h => (fun (x0 : AV) =>
 tR (o_alloc 222 3 (.k1 (.mk (pi 0) (pi 0) (pi 0) .undef .undef .undef .undef .undef .undef .undef .undef .undef .undef .undef .undef .undef)) .nil h) fun v1 h2 =>
 tT (c 107 [x0] h2) fun v3 h4 =>
 tR (o_build [(pi 0),(pi 0),(pi 0)] [.mk 0 1 (.c v3)] .nil h4) fun v5 h6 =>
 tR (o_alloc 222 3 (.k1 (.mk (pi 0) (pi 0) (pi 0) .undef .undef .undef .undef .undef .undef .undef .undef .undef .undef .undef .undef .undef)) .nil h6) fun v7 h8 =>
 tR (o_stn 3 (.c v7) (.c v5) .nil h8) fun v9 h10 =>
 tT (c 107 [x0] h10) fun v11 h12 =>
 tR (fa 1 v7 h12) fun v13 h14 =>
 tR (sto v13 v11 h14) fun v15 h16 =>
 tT (c 107 [x0] h16) fun v17 h18 =>
 tR (fa 2 v7 h18) fun v19 h20 =>
 tR (sto v19 v17 h20) fun v21 h22 =>
 tR (o_ldn 3 (.c v7) .nil h22) fun v23 h24 =>
 tR (o_stn 3 (.c v1) (.c v23) .nil h24) fun v25 h26 =>
 .ret (T23 v1) h26) (y0 r)
def x205 : AC := (.shal k205_0 .skip)
def z205 : List Rs := [.agg 3 .h0 .h2]
def f205 : AF := .mk x205 z205
def k206_0 : KF := fun c i x r h => (fun (x0 x1 : AV) =>
 tR (nic x0 h) fun v2 h3 =>
 tR (fa 0 v2 h3) fun v4 h5 =>
 tR (ld v4 h5) fun v6 h7 =>
 tR (lkp (.one .i) (.str []) true v6 x1 h7) fun v8 h9 =>
 tR (o_ext 0 (.c v8) .nil h9) fun v10 h11 =>
 tR (o_ext 1 (.c v8) .nil h11) fun v12 h13 =>
 .ret (T33 v10 v12) h13) (y0 r) (y1 r)
def x206 : AC := (.shal k206_0 .skip)
def z206 : List Rs := [.t .h0 .h4,.t .h0 .h5]
def f206 : AF := .mk x206 z206
def k207_2 : KF := fun c i x r h => (fun (x0 x1 x2 x3 : AV) =>
 ifR x3 (tR (o_ent (.c x2) .nil h) fun v4 h5 =>
 tR (o_ext 0 (.c v4) .nil h5) fun v6 h7 =>
 tR (mup (.one .i) x1 v6 (pi 1) h7) fun v8 h9 =>
 .nm (T166 x0 x1 x2) h9) (.ex 0 (T166 x0 x1 x2) h)) (y1 r) (y3 r) (y11 r) (y13 r)
def k207_1 : KF := fun c i x r h => (fun (x0 x1 : AV) =>
 tR (ld x0 h) fun v2 h3 =>
 tR (nic v2 h3) fun v4 h5 =>
 tR (fa 7 v4 h5) fun v6 h7 =>
 tR (ld v6 h7) fun v8 h9 =>
 tR (o_rngm (.c v8) .nil h9) fun v10 h11 =>
 x (T166 x0 x1 v10) h11) (y1 r) (y3 r)
def k207_4 : KF := fun c i x r h => (fun (x0 x1 x2 x3 : AV) =>
 ifR x3 (tR (o_ent (.c x2) .nil h) fun v4 h5 =>
 tR (o_ext 0 (.c v4) .nil h5) fun v6 h7 =>
 tR (mup (.one .i) x1 v6 (pi 1) h7) fun v8 h9 =>
 .nm (T167 x0 x1 x2) h9) (.ex 2 (T167 x0 x1 x2) h)) (y1 r) (y3 r) (y22 r) (y24 r)
def k207_3 : KF := fun c i x r h => (fun (x0 x1 : AV) =>
 tR (ld x0 h) fun v2 h3 =>
 tR (nic v2 h3) fun v4 h5 =>
 tR (fa 8 v4 h5) fun v6 h7 =>
 tR (ld v6 h7) fun v8 h9 =>
 tR (o_rngm (.c v8) .nil h9) fun v10 h11 =>
 x (T167 x0 x1 v10) h11) (y1 r) (y3 r)
def k207_5 : KF := fun c i x r h => (fun (x0 x1 : AV) =>
 tT (c 268 [x1] h) fun v2 h3 =>
 tT (c 267 [v2] h3) fun v4 h5 =>
 tT (c 266 [v4,(.fn 269 [x0])] h5) fun v6 h7 =>
 .ret (T23 v6) h7) (y1 r) (y3 r)
def k207_0 : KF := fun c i x r h => (fun (x0 : AV) =>
 tR (o_box 128 (.c x0) .nil h) fun v1 h2 =>
 tR (o_mkmap .nil h2) fun v3 h4 =>
 x (T59 v1 v3) h4) (y0 r)
def x207 : AC := (.shal k207_0 (.seq (.shal k207_1 (.block 0 (.loop (.seq (.ops [.o d12 (.nxt false r11),
 o d13 (.ext 0 r12)]) (.shal k207_2 .skip))))) (.seq (.shal k207_3 (.block 2 (.loop (.seq (.ops [.o d23 (.nxt false r22),
 o d24 (.ext 0 r23)]) (.shal k207_4 .skip))))) (.shal k207_5 .skip))))
def z207 : List Rs := [.t .h0 .h2]
def f207 : AF := .mkj x207 z207
def k208_0 : KF := fun c i x r h => (fun (x0 x1 x2 x3 : AV) =>
 tR (o_box 226 (.c x1) .nil h) fun v4 h5 =>
 tR (o_box 3 (.c x2) .nil h5) fun v6 h7 =>
 tR (o_box 9 (.c x3) .nil h7) fun v8 h9 =>
 tT (c 132 [x0,(pi 3),(.fn 270 [v4,v6,v8])] h9) fun v10 h11 =>
 .nm T38 h11) (y0 r) (y1 r) (y2 r) (y3 r)
def x208 : AC := (.shal k208_0 .skip)
def z208 : List Rs := []
def f208 : AF := .mk x208 z208
def k214_2 : KF := fun c i x r h => (fun (x0 x1 x2 x3 : AV) =>
 tR (b_lt x3 x2 h) fun v4 h5 =>
 ifR v4 (tQ (ix 1 x0 x3 h5) fun v6 =>
 tQ (ld v6 h5) fun v7 =>
 tQ (ix 1 x1 x3 h5) fun v8 =>
 tQ (ld v8 h5) fun v9 =>
 tQ (b_ne v7 v9 h5) fun v10 =>
 ifR v10 (.ret (T22 (.bool false)) h5) (tR (b_add x3 (pi 1) h5) fun v11 h12 =>
 .nm (T168 x0 x1 x2 v11) h12)) (.ex 0 (T168 x0 x1 x2 x3) h5)) (y0 r) (y1 r) (y12 r) (y13 r)
def k214_1 : KF := fun c i x r h => (fun (x0 x1 : AV) =>
 tR (len x0 h) fun v2 h3 =>
 x (T168 x0 x1 v2 (pi 0)) h3) (y0 r) (y1 r)
def k214_3 : KF := fun c i x r h => .ret (T22 (.bool true)) h
def k214_0 : KF := fun c i x r h => (fun (x0 x1 : AV) =>
 tR (len x0 h) fun v2 h3 =>
 tR (len x1 h3) fun v4 h5 =>
 tR (b_ne v2 v4 h5) fun v6 h7 =>
 ifR v6 (.ret (T22 (.bool false)) h7) (x (T50 x0 x1) h7)) (y0 r) (y1 r)
def x214 : AC := (.shal k214_0 (.seq (.shal k214_1 (.block 0 (.loop (.shal k214_2 .skip)))) (.shal k214_3 .skip)))
def z214 : List Rs := [.t .h0 .h4]
def f214 : AF := .mk x214 z214
def k215_0 : KF := fun c i x r h => (fun (x0 : AV) =>
 tT (c 281 [x0] h) fun v1 h2 =>
 tR (cK (.toInt .u8) v1 h2) fun v3 h4 =>
 tR (bK .shr v1 (.int .u64 (.ofNat 8)) h4) fun v5 h6 =>
 tR (cK (.toInt .u8) v5 h6) fun v7 h8 =>
 tR (bK .shr v1 (.int .u64 (.ofNat 16)) h8) fun v9 h10 =>
 tR (cK (.toInt .u8) v9 h10) fun v11 h12 =>
 tR (bK .shr v1 (.int .u64 (.ofNat 24)) h12) fun v13 h14 =>
 tR (cK (.toInt .u8) v13 h14) fun v15 h16 =>
 tR (o_bslice 5 1 4 [(.int .u8 (.ofNat 0)),(.int .u8 (.ofNat 0)),(.int .u8 (.ofNat 0)),(.int .u8 (.ofNat 0))] [.mk 0 1 (.c v3),.mk 1 1 (.c v7),.mk 2 1 (.c v11),.mk 3 1 (.c v15)] .nil h16) fun v17 h18 =>
 tR (appV 5 1 v17 x0 h18) fun v19 h20 =>
 .ret (T23 v19) h20) (y0 r)
def x215 : AC := (.shal k215_0 .skip)
def z215 : List Rs := [.t .h0 .h2]
def f215 : AF := .mk x215 z215
def k216_0 : KF := fun c i x r h => (fun (x0 x1 : AV) =>
 tR (o_alloc 234 4 (.k1 (.mk (pi 0) (pi 0) (pi 0) (.str []) .undef .undef .undef .undef .undef .undef .undef .undef .undef .undef .undef .undef)) .nil h) fun v2 h3 =>
 tR (nic x0 h3) fun v4 h5 =>
 tR (fa 2 v4 h5) fun v6 h7 =>
 tR (ld v6 h7) fun v8 h9 =>
 tR (lkp (.one .i) (.agg [(pi 0),(pi 0),(pi 0),(.str [])]) true v8 x1 h9) fun v10 h11 =>
 tR (o_ext 0 (.c v10) .nil h11) fun v12 h13 =>
 tR (o_ext 1 (.c v10) .nil h13) fun v14 h15 =>
 tR (o_alloc 234 4 (.k1 (.mk (pi 0) (pi 0) (pi 0) (.str []) .undef .undef .undef .undef .undef .undef .undef .undef .undef .undef .undef .undef)) .nil h15) fun v16 h17 =>
 tR (o_stn 4 (.c v16) (.c v12) .nil h17) fun v18 h19 =>
 tR (o_ldn 4 (.c v16) .nil h19) fun v20 h21 =>
 tR (o_stn 4 (.c v2) (.c v20) .nil h21) fun v22 h23 =>
 .ret (T33 v2 v14) h23) (y0 r) (y1 r)
def x216 : AC := (.shal k216_0 .skip)
def z216 : List Rs := [.agg 4 .h0 .h4,.t .h0 .h5]
def f216 : AF := .mk x216 z216
def k217_2 : KF := fun c i x r h => (fun (x0 x1 x2 x3 : AV) =>
 ifR x3 (.ret (T10 (.bool false)) h) (.nm (T87 x0 x1 x2) h)) (y0 r) (y1 r) (y2 r) (y30 r)
def k217_1 : KF := fun c i x r h => (fun (x0 x1 x2 : AV) =>
 tR (nic x0 h) fun v3 h4 =>
 tR (fa 0 v3 h4) fun v5 h6 =>
 tR (ld v5 h6) fun v7 h8 =>
 tR (lkp (.one .i) (.str []) true v7 x1 h8) fun v9 h10 =>
 tR (o_ext 0 (.c v9) .nil h10) fun v11 h12 =>
 tR (o_ext 1 (.c v9) .nil h12) fun v13 h14 =>
 x (T169 x0 x1 x2 v13) h14) (y0 r) (y1 r) (y2 r)
def k217_3 : KF := fun c i x r h => (fun (x0 x1 x2 : AV) =>
 tR (nic x0 h) fun v3 h4 =>
 tR (fa 0 v3 h4) fun v5 h6 =>
 tR (ld v5 h6) fun v7 h8 =>
 tR (mup (.one .i) v7 x1 x2 h8) fun v9 h10 =>
 .ret (T10 (.bool true)) h10) (y0 r) (y1 r) (y2 r)
def k217_0 : KF := fun c i x r h => (fun (x0 x1 x2 : AV) =>
 x (T87 x0 x1 x2) h) (y0 r) (y1 r) (y2 r)
def x217 : AC := (.shal k217_0 (.seq (.shal k217_1 (.seq (.ops [m d18 r8,
 m d19 r18,
 .g .h1 .h3 false d20 (.op (.mv r1)),
 .g .h1 .h3 false d21 (.op (.mv r0)),
 .g .h1 .h3 false d22 (.op (.nilc r21)),
 .g .h1 .h3 false d23 (.op (.fad 1 r22)),
 .g .h1 .h3 false d24 (.op (.ld1 r23)),
 .g .h1 .h3 false d25 (.op (.bin .lt r20 r24)),
 o d26 (.pick r19 (.c (.bool true)) r25),
 m d27 r26,
 .g .h1 .hb false d28 (.op (.mv r1)),
 .g .h1 .hb false d29 (.op (.bin .ge r28 (.c (pi 1048576)))),
 o d30 (.pick r27 (.c (.bool true)) r29)]) (.shal k217_2 .skip))) (.shal k217_3 .skip)))
def z217 : List Rs := [.t .h0 .h6]
def f217 : AF := .mk x217 z217
def k219_0 : KF := fun c i x r h => (fun (x0 : AV) =>
 tT (c 51 [] h) fun v1 h2 =>
 tT (c 215 [x0] h2) fun v3 h4 =>
 tR (len v3 h4) fun v5 h6 =>
 tT (c 52 [v1,v5] h6) fun v7 h8 =>
 tT (c 53 [v1] h8) fun v9 h10 =>
 tR (appV 5 1 v9 v3 h10) fun v11 h12 =>
 .ret (T23 v11) h12) (y0 r)
def x219 : AC := (.shal k219_0 .skip)
def z219 : List Rs := [.t .h0 .h2]
def f219 : AF := .mk x219 z219
def k223_0 : KF := fun c i x r h => (fun (x0 x1 : AV) =>
 tR (o_box 222 (.c x1) .nil h) fun v2 h3 =>
 tR (fa 0 v2 h3) fun v4 h5 =>
 tR (ld v4 h5) fun v6 h7 =>
 tT (c 52 [x0,v6] h7) fun v8 h9 =>
 tR (fa 1 v2 h9) fun v10 h11 =>
 tR (ld v10 h11) fun v12 h13 =>
 tT (c 52 [x0,v12] h13) fun v14 h15 =>
 tR (fa 2 v2 h15) fun v16 h17 =>
 tR (ld v16 h17) fun v18 h19 =>
 tT (c 52 [x0,v18] h19) fun v20 h21 =>
 .nm T38 h21) (y0 r) (y1 r)
def x223 : AC := (.shal k223_0 .skip)
def z223 : List Rs := []
def f223 : AF := .mk x223 z223
def k225_0 : KF := fun c i x r h => (fun (x0 : AV) =>
 tR (o_alloc 222 3 (.k1 (.mk (pi 0) (pi 0) (pi 0) .undef .undef .undef .undef .undef .undef .undef .undef .undef .undef .undef .undef .undef)) .nil h) fun v1 h2 =>
 tR (cK (.s2b 5) x0 h2) fun v3 h4 =>
 tT (c 98 [v3] h4) fun v5 h6 =>
 tT (c 205 [v5] h6) fun v7 h8 =>
 tR (o_alloc 222 3 (.k1 (.mk (pi 0) (pi 0) (pi 0) .undef .undef .undef .undef .undef .undef .undef .undef .undef .undef .undef .undef .undef)) .nil h8) fun v9 h10 =>
 tR (o_stn 3 (.c v9) (.c v7) .nil h10) fun v11 h12 =>
 tT (c 116 [v5] h12) fun v13 h14 =>
 tR (b_eq v13 (pi 1) h14) fun v15 h16 =>
 x (T170 x0 v1 v5 v9 v15) h16) (y0 r)
def x225 : AC := (.shal k225_0 (.seq (.drw [q 0 (m d21 r5),
 w (.o d22 (.call 285 [r21])),
 q 1 (o d16 (.ldn 3 r6)),
 w (o .no (.stn 3 r2 r16)),
 q 2 (m d17 r7),
 q 2 (m d18 r0),
 q 2 (m d19 r0),
 q 2 (o d20 (.lent r19)),
 q 1 (o d23 (.bin .sub r20 r22)),
 q 1 (o d24 (.slcs r18 (.some r23) .none)),
 q 0 (m d3 r17),
 q 0 (m d4 r24)]) .ret))
def z225 : List Rs := [.agg 3 .h0 .h2,.t .h0 .h3,.t .h0 .h4]
def f225 : AF := .mk x225 z225
def k227_2 : KF := fun c i x r h => (fun (x0 x1 : AV) =>
 tR (b_ge x0 (.int .u64 (.ofNat 256)) h) fun v2 h3 =>
 ifR v2 (tR (bK .shr x0 (.int .u64 (.ofNat 8)) h3) fun v4 h5 =>
 tR (b_add x1 (pi 8) h5) fun v6 h7 =>
 tR (cK (.toInt .u8) v4 h7) fun v8 h9 =>
 tR (o_idxs (.c (.str [0,1,2,2,3,3,3,3,4,4,4,4,4,4,4,4,5,5,5,5,5,5,5,5,5,5,5,5,5,5,5,5,6,6,6,6,6,6,6,6,6,6,6,6,6,6,6,6,6,6,6,6,6,6,6,6,6,6,6,6,6,6,6,6,7,7,7,7,7,7,7,7,7,7,7,7,7,7,7,7,7,7,7,7,7,7,7,7,7,7,7,7,7,7,7,7,7,7,7,7,7,7,7,7,7,7,7,7,7,7,7,7,7,7,7,7,7,7,7,7,7,7,7,7,7,7,7,7,8,8,8,8,8,8,8,8,8,8,8,8,8,8,8,8,8,8,8,8,8,8,8,8,8,8,8,8,8,8,8,8,8,8,8,8,8,8,8,8,8,8,8,8,8,8,8,8,8,8,8,8,8,8,8,8,8,8,8,8,8,8,8,8,8,8,8,8,8,8,8,8,8,8,8,8,8,8,8,8,8,8,8,8,8,8,8,8,8,8,8,8,8,8,8,8,8,8,8,8,8,8,8,8,8,8,8,8,8,8,8,8,8,8,8,8,8,8,8,8,8,8,8,8,8,8,8,8])) (.c v8) .nil h9) fun v10 h11 =>
 tR (cK (.toInt .i64) v10 h11) fun v12 h13 =>
 tR (b_add v6 v12 h13) fun v14 h15 =>
 x (T23 v14) h15) (tR (cK (.toInt .u8) x0 h3) fun v16 h17 =>
 tR (o_idxs (.c (.str [0,1,2,2,3,3,3,3,4,4,4,4,4,4,4,4,5,5,5,5,5,5,5,5,5,5,5,5,5,5,5,5,6,6,6,6,6,6,6,6,6,6,6,6,6,6,6,6,6,6,6,6,6,6,6,6,6,6,6,6,6,6,6,6,7,7,7,7,7,7,7,7,7,7,7,7,7,7,7,7,7,7,7,7,7,7,7,7,7,7,7,7,7,7,7,7,7,7,7,7,7,7,7,7,7,7,7,7,7,7,7,7,7,7,7,7,7,7,7,7,7,7,7,7,7,7,7,7,8,8,8,8,8,8,8,8,8,8,8,8,8,8,8,8,8,8,8,8,8,8,8,8,8,8,8,8,8,8,8,8,8,8,8,8,8,8,8,8,8,8,8,8,8,8,8,8,8,8,8,8,8,8,8,8,8,8,8,8,8,8,8,8,8,8,8,8,8,8,8,8,8,8,8,8,8,8,8,8,8,8,8,8,8,8,8,8,8,8,8,8,8,8,8,8,8,8,8,8,8,8,8,8,8,8,8,8,8,8,8,8,8,8,8,8,8,8,8,8,8,8,8,8,8,8,8,8])) (.c v16) .nil h17) fun v18 h19 =>
 tR (cK (.toInt .i64) v18 h19) fun v20 h21 =>
 tR (b_add x1 v20 h21) fun v22 h23 =>
 x (T23 v22) h23)) (y0 r) (y2 r)
def k227_1 : KF := fun c i x r h => (fun (x0 x1 : AV) =>
 tR (b_ge x0 (.int .u64 (.ofNat 65536)) h) fun v2 h3 =>
 ifR v2 (tR (bK .shr x0 (.int .u64 (.ofNat 16)) h3) fun v4 h5 =>
 tR (b_add x1 (pi 16) h5) fun v6 h7 =>
 x (T123 v4 v6) h7) (x (T123 x0 x1) h3)) (y0 r) (y2 r)
def k227_0 : KF := fun c i x r h => (fun (x0 : AV) =>
 tR (b_ge x0 (.int .u64 (.ofNat 4294967296)) h) fun v1 h2 =>
 ifR v1 (tR (bK .shr x0 (.int .u64 (.ofNat 32)) h2) fun v3 h4 =>
 x (T123 v3 (pi 32)) h4) (x (T123 x0 (pi 0)) h2)) (y0 r)
def x227 : AC := (.shal k227_0 (.shal k227_1 (.shal k227_2 .ret)))
def z227 : List Rs := [.t .h0 .h2]
def f227 : AF := .mk x227 z227
def k231_3 : KF := fun c i x r h => (fun (x0 x1 : AV) =>
 tQ (nic x0 h) fun v2 =>
 tQ (fa 0 v2 h) fun v3 =>
 tQ (ld v3 h) fun v4 =>
 tQ (nic x0 h) fun v5 =>
 tQ (fa 1 v5 h) fun v6 =>
 tQ (ld v6 h) fun v7 =>
 tQ (b_sub v7 x1 h) fun v8 =>
 tQ (nic x0 h) fun v9 =>
 tQ (fa 1 v9 h) fun v10 =>
 tQ (ld v10 h) fun v11 =>
 tQ (o_slc 1 (.c v4) (.some (.c v8)) (.some (.c v11)) .none .nil h) fun v12 =>
 .ret (T22 v12) h) (y0 r) (y1 r)
def k231_2 : KF := fun c i x r h => (fun (x0 x1 : AV) =>
 tR (nic x0 h) fun v2 h3 =>
 tR (fa 1 v2 h3) fun v4 h5 =>
 tR (ld v4 h5) fun v6 h7 =>
 tR (b_add v6 x1 h7) fun v8 h9 =>
 tR (nic x0 h9) fun v10 h11 =>
 tR (fa 1 v10 h11) fun v12 h13 =>
 tR (sto v12 v8 h13) fun v14 h15 =>
 x (T50 x0 x1) h15) (y0 r) (y1 r)
def k231_1 : KF := fun c i x r h => (fun (x0 x1 : AV) =>
 tQ (nic x0 h) fun v2 =>
 tQ (fa 0 v2 h) fun v3 =>
 tQ (ld v3 h) fun v4 =>
 tQ (len v4 h) fun v5 =>
 tQ (nic x0 h) fun v6 =>
 tQ (fa 1 v6 h) fun v7 =>
 tQ (ld v7 h) fun v8 =>
 tQ (b_sub v5 v8 h) fun v9 =>
 tQ (b_gt x1 v9 h) fun v10 =>
 ifR v10 (tR (nic x0 h) fun v11 h12 =>
 tR (fa 0 v11 h12) fun v13 h14 =>
 tR (ld v13 h14) fun v15 h16 =>
 tR (len v15 h16) fun v17 h18 =>
 tT (c 243 [x0,(pi 10),v17] h18) fun v19 h20 =>
 .ret (T22 .nils) h20) (x (T50 x0 x1) h)) (y0 r) (y1 r)
def k231_0 : KF := fun c i x r h => (fun (x0 x1 : AV) =>
 tR (nic x0 h) fun v2 h3 =>
 tR (fa 2 v2 h3) fun v4 h5 =>
 tR (ld v4 h5) fun v6 h7 =>
 tR (b_ne v6 (pi 0) h7) fun v8 h9 =>
 ifR v8 (.ret (T22 .nils) h9) (x (T50 x0 x1) h9)) (y0 r) (y1 r)
def x231 : AC := (.shal k231_0 (.shal k231_1 (.shal k231_2 (.shal k231_3 .skip))))
def z231 : List Rs := [.t .h0 .h4]
def f231 : AF := .mk x231 z231
def k232_1 : KF := fun c i x r h => (fun (x0 x1 x2 x3 x4 : AV) =>
 ifR x4 (.nm (T91 x0 x1 x2 (pi 13)) h) (.nm (T91 x0 x1 x2 x3) h)) (y0 r) (y1 r) (y2 r) (y7 r) (y24 r)
def k232_3 : KF := fun c i x r h => (fun (x0 : AV) =>
 tR (nic x0 h) fun v1 h2 =>
 tR (fa 0 v1 h2) fun v3 h4 =>
 tR (ld v3 h4) fun v5 h6 =>
 tT (c 290 [v5,(.fn 291 [])] h6) fun v7 h8 =>
 .ret (T10 (pi 0)) h8) (y0 r)
def k232_2 : KF := fun c i x r h => (fun (x0 x1 x2 x3 : AV) =>
 tR (b_ne x3 (pi 0) h) fun v4 h5 =>
 ifR v4 (.ret (T10 x3) h5) (x (T87 x0 x1 x2) h5)) (y0 r) (y1 r) (y2 r) (y7 r)
def k232_0 : KF := fun c i x r h => (fun (x0 x1 x2 : AV) =>
 tT (c 288 [x0,x1] h) fun v3 h4 =>
 tR (b_eq v3 (pi 0) h4) fun v5 h6 =>
 ifR v5 (tT (c 289 [x2] h6) fun v7 h8 =>
 x (T91 x0 x1 x2 v7) h8) (x (T91 x0 x1 x2 v3) h6)) (y0 r) (y1 r) (y2 r)
def x232 : AC := (.shal k232_0 (.seq (.seq (.ops [m d15 r7,
 o d16 (.bin .eq r15 a0),
 m d17 r16,
 .g .h1 .h1 true d18 (.op (.mv r0)),
 .g .h1 .h1 true d19 (.op (.nilc r18)),
 .g .h1 .h1 true d20 (.op (.fad 0 r19)),
 .g .h1 .h1 true d21 (.op (.ld1 r20)),
 .g .h1 .h1 true d22 (.op (.len r21)),
 .g .h1 .h1 true d23 (.op (.bin .ge r22 (.c (pi 6)))),
 o d24 (.pick r17 r23 (.c (.bool false)))]) (.shal k232_1 .skip)) (.shal k232_2 (.seq (.drw [q 0 (m d34 r2),
 w (.o d35 (.call 64 [r34])),
 q 1 (m d33 r1),
 q 0 (o d36 (.build [(.str []),.nils] [.mk 0 1 r33,.mk 1 1 r35])),
 w (o d37 (.bslice 243 2 1 [(.str []),.nils] [.mk 0 2 r36])),
 q 2 (m d29 r0),
 q 2 (o d30 (.nilc r29)),
 q 2 (o d31 (.fad 0 r30)),
 q 2 (o d32 (.ld1 r31)),
 w (o d38 (.app 243 2 r32 r37)),
 q 3 (m d28 r0),
 q 0 (o d39 (.nilc r28)),
 q 0 (o d40 (.fad 0 r39)),
 w (o .no (.st1 r40 r38))]) (.shal k232_3 .skip)))))
def z232 : List Rs := [.t .h0 .h6]
def f232 : AF := .mk x232 z232
def k242_0 : KF := fun c i x r h => (fun (x0 : AV) =>
 tT (c 166 [x0,(pi 2)] h) fun v1 h2 =>
 tR (cK (.toInt .i64) v1 h2) fun v3 h4 =>
 .ret (T23 v3) h4) (y0 r)
def x242 : AC := (.shal k242_0 .skip)
def z242 : List Rs := [.t .h0 .h2]
def f242 : AF := .mk x242 z242
def k244_0 : KF := fun c i x r h => (fun (x0 x1 x2 : AV) =>
 tR (o_box 9 (.c x1) .nil h) fun v3 h4 =>
 tR (nic x0 h4) fun v5 h6 =>
 tR (fa 1 v5 h6) fun v7 h8 =>
 tR (ld v7 h8) fun v9 h10 =>
 tT (c 316 [v9,(.fn 317 [v3])] h10) fun v11 h12 =>
 tR (b_lt v11 (pi 0) h12) fun v13 h14 =>
 ifR v13 (tR (nic x0 h14) fun v15 h16 =>
 tR (fa 1 v15 h16) fun v17 h18 =>
 tR (ld v17 h18) fun v19 h20 =>
 tR (len v19 h20) fun v21 h22 =>
 x (T171 x0 x2 v3 v21) h22) (x (T171 x0 x2 v3 v11) h14)) (y0 r) (y1 r) (y2 r)
def x244 : AC := (.shal k244_0 (.drw [q 0 (m d27 r2),
 w (.o d28 (.call 64 [r27])),
 q 1 (o d26 (.ld1 r4)),
 q 0 (o d29 (.build [(.str []),.nils,.nils] [.mk 0 1 r26,.mk 1 1 r28])),
 w (o d30 (.bslice 184 3 1 [(.str []),.nils,.nils] [.mk 0 3 r29])),
 q 2 (m d21 r0),
 q 2 (o d22 (.nilc r21)),
 q 2 (o d23 (.fad 1 r22)),
 q 2 (o d24 (.ld1 r23)),
 q 2 (m d25 r6),
 w (.o d31 (.call 318 [r24,r25,r30])),
 q 3 (m d20 r0),
 q 0 (o d32 (.nilc r20)),
 q 0 (o d33 (.fad 1 r32)),
 w (o .no (.st1 r33 r31))]))
def z244 : List Rs := []
def f244 : AF := .mk x244 z244
def k251_0 : KF := fun c i x r h => (fun (x0 x1 : AV) =>
 tR (o_ldn 2 (.c x1) .nil h) fun v2 h3 =>
 tT (c 152 [x0,v2] h3) fun v4 h5 =>
 .nm T38 h5) (y0 r) (y1 r)
def x251 : AC := (.shal k251_0 .skip)
def z251 : List Rs := []
def f251 : AF := .mk x251 z251
def k253_0 : KF := fun c i x r h => (fun (x0 x1 : AV) =>
 x (T50 x0 x1) h) (y0 r) (y1 r)
def x253 : AC := (.shal k253_0 (.seq (.ops [m d5 r1,
 o d6 (.bin .ge r5 a0),
 m d7 r6,
 .g .h0 .h7 true d8 (.op (.mv r1)),
 .g .h0 .h7 true d9 (.op (.mv r0)),
 .g .h0 .h7 true d10 (.op (.nilc r9)),
 .g .h0 .h7 true d11 (.op (.fad 1 r10)),
 .g .h0 .h7 true d12 (.op (.ld1 r11)),
 .g .h0 .h7 true d13 (.op (.bin .lt r8 r12)),
 o d14 (.pick r7 r13 (.c (.bool false))),
 m d4 r14]) .ret))
def z253 : List Rs := [.t .h0 .h4]
def f253 : AF := .mk x253 z253
def k254_0 : KF := fun c i x r h => (fun (x0 x1 x2 x3 x4 : AV) =>
 tR (o_ldn 2 (.c x1) .nil h) fun v5 h6 =>
 tT (c 152 [x0,v5] h6) fun v7 h8 =>
 tR (ld x2 h8) fun v9 h10 =>
 tT (c 52 [x0,v9] h10) fun v11 h12 =>
 tR (ld x3 h12) fun v13 h14 =>
 tR (b_eq v13 (pi 2) h14) fun v15 h16 =>
 ifR v15 (tR (ld x4 h16) fun v17 h18 =>
 tT (c 153 [x0,v17] h18) fun v19 h20 =>
 .nm T38 h20) (.nm T38 h16)) (y0 r) (y1 r) (y2 r) (y3 r) (y4 r)
def x254 : AC := (.shal k254_0 .skip)
def z254 : List Rs := []
def f254 : AF := .mk x254 z254
def k255_1 : KF := fun c i x r h => (fun (x0 x1 x2 x3 x4 : AV) =>
 ifR x4 (.ret (T146 (.bool false)) h) (.nm (T172 x0 x1 x2 x3) h)) (y0 r) (y2 r) (y3 r) (y5 r) (y27 r)
def k255_3 : KF := fun c i x r h => (fun (x0 x1 : AV) =>
 tR (nic x0 h) fun v2 h3 =>
 tR (fa 3 v2 h3) fun v4 h5 =>
 tR (ld v4 h5) fun v6 h7 =>
 tR (b_add x1 (pi 1) h7) fun v8 h9 =>
 tR (maxV false [v6,v8] h9) fun v10 h11 =>
 tR (nic x0 h11) fun v12 h13 =>
 tR (fa 3 v12 h13) fun v14 h15 =>
 tR (sto v14 v10 h15) fun v16 h17 =>
 .ret (T146 (.bool true)) h17) (y0 r) (y2 r)
def k255_2 : KF := fun c i x r h => (fun (x0 x1 x2 x3 : AV) =>
 tR (o_ldn 2 (.c x3) .nil h) fun v4 h5 =>
 tR (nic x0 h5) fun v6 h7 =>
 tR (fa 0 v6 h7) fun v8 h9 =>
 tR (o_stn 2 (.c v8) (.c v4) .nil h9) fun v10 h11 =>
 tQ (nic x0 h11) fun v12 =>
 tQ (fa 2 v12 h11) fun v13 =>
 tQ (ld v13 h11) fun v14 =>
 tQ (o_ldn 2 (.c x3) .nil h11) fun v15 =>
 tQ (o_build [(pi 0),(pi 0),(pi 0),(.str [])] [.mk 0 1 (.c x1),.mk 1 2 (.c v15),.mk 3 1 (.c x2)] .nil h11) fun v16 =>
 tX (RV.toT (mup (.one .i) v14 x1 v16 h11)) fun v17 h18 =>
 x (T123 x0 x1) h18) (y0 r) (y2 r) (y3 r) (y5 r)
def k255_0 : KF := fun c i x r h => (fun (x0 x1 x2 x3 : AV) =>
 tR (o_box 226 (.c x1) .nil h) fun v4 h5 =>
 x (T172 x0 x2 x3 v4) h5) (y0 r) (y1 r) (y2 r) (y3 r)
def x255 : AC := (.shal k255_0 (.seq (.seq (.drw [q 0 (o d9 (.ldn 2 r5)),
 q 0 (m d10 r0),
 q 0 (o d11 (.nilc r10)),
 q 0 (o d12 (.fad 0 r11)),
 q 0 (o d13 (.ldn 2 r12)),
 w (.o d14 (.call 199 [r9,r13])),
 q 0 (m d15 r14),
 q 0 (.g .h0 .hf false d16 (.op (.ldn 2 r5))),
 q 0 (.g .h0 .hf false d17 (.op (.build [(pi 0),(pi 0)] []))),
 q 0 (.g .h0 .hf false d18 (.op (.bin (.aeq [.i,.i]) r16 r17))),
 q 0 (o d19 (.pick r15 (.c (.bool true)) r18)),
 q 0 (m d20 r19),
 q 0 (.g .h1 .h4 false d21 (.op (.mv r2))),
 q 0 (.g .h1 .h4 false d22 (.op (.bin .lt r21 a0))),
 q 0 (o d23 (.pick r20 (.c (.bool true)) r22)),
 q 0 (m d24 r23),
 q 0 (.g .h1 .h8 false d25 (.op (.mv r2))),
 q 0 (.g .h1 .h8 false d26 (.op (.bin .ge r25 (.c (pi 1048576))))),
 q 0 (o d27 (.pick r24 (.c (.bool true)) r26))]) (.shal k255_1 .skip)) (.shal k255_2 (.shal k255_3 .skip))))
def z255 : List Rs := [.t .h0 .h8]
def f255 : AF := .mk x255 z255
def k256_0 : KF := fun c i x r h => (fun (x0 x1 : AV) =>
 tR (b_mul (pi 2) x1 h) fun v2 h3 =>
 tR (nic x0 h3) fun v4 h5 =>
 tR (fa 1 v4 h5) fun v6 h7 =>
 tR (ld v6 h7) fun v8 h9 =>
 tR (b_gt v2 v8 h9) fun v10 h11 =>
 .ret (T22 v10) h11) (y0 r) (y1 r)
def x256 : AC := (.shal k256_0 .skip)
def z256 : List Rs := [.t .h0 .h4]
def f256 : AF := .mk x256 z256
def k257_0 : KF := fun c i x r h => (fun (x0 : AV) =>
 tR (nic x0 h) fun v1 h2 =>
 tR (fa 6 v1 h2) fun v3 h4 =>
 tR (ld v3 h4) fun v5 h6 =>
 tR (o_lenm (.c v5) .nil h6) fun v7 h8 =>
 tT (c 256 [x0,v7] h8) fun v9 h10 =>
 .ret (T23 v9) h10) (y0 r)
def x257 : AC := (.shal k257_0 .skip)
def z257 : List Rs := [.t .h0 .h2]
def f257 : AF := .mk x257 z257
def k258_0 : KF := fun c i x r h => (fun (x0 x1 x2 : AV) =>
 tR (ld x1 h) fun v3 h4 =>
 tR (ld x2 h4) fun v5 h6 =>
 tR (o_build [(pi 0),(pi 0),(pi 0),(.str [])] [.mk 0 1 (.c v3),.mk 3 1 (.c v5)] .nil h6) fun v7 h8 =>
 tR (o_bslice 234 4 1 [(pi 0),(pi 0),(pi 0),(.str [])] [.mk 0 4 (.c v7)] .nil h8) fun v9 h10 =>
 tT (c 190 [x0,v9] h10) fun v11 h12 =>
 .nm T38 h12) (y0 r) (y1 r) (y2 r)
def x258 : AC := (.shal k258_0 .skip)
def z258 : List Rs := []
def f258 : AF := .mk x258 z258
def k259_0 : KF := fun c i x r h => (fun (x0 x1 : AV) =>
 tR (o_box 226 (.c x0) .nil h) fun v2 h3 =>
 tR (o_box 226 (.c x1) .nil h3) fun v4 h5 =>
 x (T7 v2 v4) h5) (y0 r) (y1 r)
def x259 : AC := (.shal k259_0 (.seq (.drw [q 0 (o d5 (.fad 0 r2)),
 q 0 (o d6 (.ld1 r5)),
 q 0 (o d7 (.fad 0 r3)),
 q 0 (o d8 (.ld1 r7)),
 w (.o d9 (.call 330 [r6,r8])),
 q 1 (o d10 (.fad 1 r2)),
 q 1 (o d11 (.ld1 r10)),
 q 1 (o d12 (.fad 1 r3)),
 q 1 (o d13 (.ld1 r12)),
 w (.o d14 (.call 330 [r11,r13])),
 w (o d15 (.bslice 3 1 2 [(pi 0),(pi 0)] [.mk 0 1 r9,.mk 1 1 r14])),
 w (.o d16 (.call 329 [r15])),
 q 0 (m d4 r16)]) .ret))
def z259 : List Rs := [.t .h0 .h4]
def f259 : AF := .mk x259 z259
def k260_0 : KF := fun c i x r h => (fun (x0 x1 : AV) =>
 tR (len x1 h) fun v2 h3 =>
 tR (nic x0 h3) fun v4 h5 =>
 tR (fa 0 v4 h5) fun v6 h7 =>
 tR (ld v6 h7) fun v8 h9 =>
 tR (len v8 h9) fun v10 h11 =>
 tR (b_sub (pi 4194304) v10 h11) fun v12 h13 =>
 tR (b_gt v2 v12 h13) fun v14 h15 =>
 ifR v14 (.ret (T22 (pi 13)) h15) (tR (nic x0 h15) fun v16 h17 =>
 tR (fa 0 v16 h17) fun v18 h19 =>
 tR (ld v18 h19) fun v20 h21 =>
 tR (appV 5 1 v20 x1 h21) fun v22 h23 =>
 tR (nic x0 h23) fun v24 h25 =>
 tR (fa 0 v24 h25) fun v26 h27 =>
 tR (sto v26 v22 h27) fun v28 h29 =>
 x (T22 (pi 0)) h29)) (y0 r) (y1 r)
def x260 : AC := (.shal k260_0 .ret)
def z260 : List Rs := [.t .h0 .h4]
def f260 : AF := .mk x260 z260
def k261_0 : KF := fun c i x r h => (fun (x0 : AV) =>
 tR (nic x0 h) fun v1 h2 =>
 tR (fa 0 v1 h2) fun v3 h4 =>
 tR (ld v3 h4) fun v5 h6 =>
 tR (len v5 h6) fun v7 h8 =>
 tR (nic x0 h8) fun v9 h10 =>
 tR (fa 1 v9 h10) fun v11 h12 =>
 tR (sto v11 v7 h12) fun v13 h14 =>
 .nm T38 h14) (y0 r)
def x261 : AC := (.shal k261_0 .skip)
def z261 : List Rs := []
def f261 : AF := .mk x261 z261
def k262_2 : KF := fun c i x r h => (fun (x0 x1 x2 x3 : AV) =>
 tR (b_lt x3 x2 h) fun v4 h5 =>
 ifR v4 (tR (ix 6 x0 x3 h5) fun v6 h7 =>
 tR (o_ldn 6 (.c v6) .nil h7) fun v8 h9 =>
 tT (AV.onFn x1 (fun f l => c f (List.append [v8] l) h9) (.err 202)) fun v10 h11 =>
 ifR v10 (.ret (T22 x3) h11) (tR (b_add x3 (pi 1) h11) fun v12 h13 =>
 .nm (T173 x0 x1 x2 v12) h13)) (.ex 0 (T173 x0 x1 x2 x3) h5)) (y0 r) (y1 r) (y7 r) (y8 r)
def k262_1 : KF := fun c i x r h => (fun (x0 x1 : AV) =>
 tR (len x0 h) fun v2 h3 =>
 x (T173 x0 x1 v2 (pi 0)) h3) (y0 r) (y1 r)
def k262_3 : KF := fun c i x r h => .ret (T22 (ni 0)) h
def k262_0 : KF := fun c i x r h => (fun (x0 x1 : AV) =>
 x (T50 x0 x1) h) (y0 r) (y1 r)
def x262 : AC := (.shal k262_0 (.seq (.shal k262_1 (.block 0 (.loop (.shal k262_2 .skip)))) (.shal k262_3 .skip)))
def z262 : List Rs := [.t .h0 .h4]
def f262 : AF := .mk x262 z262
def k263_0 : KF := fun c i x r h => (fun (x0 x1 : AV) =>
 tR (o_box 224 (.c x0) .nil h) fun v2 h3 =>
 tR (fa 0 v2 h3) fun v4 h5 =>
 tR (o_ldn 3 (.c v4) .nil h5) fun v6 h7 =>
 tR (o_ldn 3 (.c x1) .nil h7) fun v8 h9 =>
 tR (bK (.aeq [.i,.i,.i]) v6 v8 h9) fun v10 h11 =>
 .ret (T32 v10) h11) (y0 r) (y1 r)
def x263 : AC := (.shal k263_0 .skip)
def z263 : List Rs := [.t .h0 .h3]
def f263 : AF := .mk x263 z263
def k264_1 : KF := fun c i x r h => (fun (x0 x1 x2 x3 : AV) =>
 tQ (o_slc 6 (.c x0) .none (.some (.c x1)) .none .nil h) fun v4 =>
 tQ (o_slc 6 (.c x0) (.some (.c x2)) .none .none .nil h) fun v5 =>
 tX (RV.toT (appV 224 6 v4 v5 h)) fun v6 h7 =>
 tR (len v6 h7) fun v8 h9 =>
 tR (o_slc 6 (.c v6) (.some (.c v8)) (.some (.c x3)) .none .nil h9) fun v10 h11 =>
 tR (o_clr [(pi 0),(pi 0),(pi 0),(.bool false),(.str []),(pi 0)] (.c v10) .nil h11) fun v12 h13 =>
 .ret (T10 v6) h13) (y0 r) (y1 r) (y2 r) (y7 r)
def k264_0 : KF := fun c i x r h => (fun (x0 x1 x2 : AV) =>
 tR (len x0 h) fun v3 h4 =>
 tR (o_slc 6 (.c x0) (.some (.c x1)) (.some (.c x2)) (.some (.c v3)) .nil h4) fun v5 h6 =>
 tR (b_eq x1 x2 h6) fun v7 h8 =>
 ifR v7 (.ret (T10 x0) h8) (tR (len x0 h8) fun v9 h10 =>
 x (T91 x0 x1 x2 v9) h10)) (y0 r) (y1 r) (y2 r)
def x264 : AC := (.shal k264_0 (.shal k264_1 .skip))
def z264 : List Rs := [.t .h0 .h6]
def f264 : AF := .mk x264 z264
def k265_0 : KF := fun c i x r h => (fun (x0 : AV) =>
 tR (bK (.isnil .s) x0 .nils h) fun v1 h2 =>
 ifR v1 (.ret (T23 .nils) h2) (tR (o_bslice 224 6 0 [] [] .nil h2) fun v3 h4 =>
 tR (appV 224 6 v3 x0 h4) fun v5 h6 =>
 .ret (T23 v5) h6)) (y0 r)
def x265 : AC := (.shal k265_0 .skip)
def z265 : List Rs := [.t .h0 .h2]
def f265 : AF := .mk x265 z265
def k266_3 : KF := fun c i x r h => (fun (x0 x1 x2 x3 : AV) =>
 tR (b_add x3 (pi 1) h) fun v4 h5 =>
 .nm (T140 x0 x1 x2 v4) h5) (y0 r) (y1 r) (y5 r) (y6 r)
def k266_2 : KF := fun c i x r h => (fun (x0 x1 x2 x3 : AV) =>
 tR (len x0 h) fun v4 h5 =>
 tR (b_lt x3 v4 h5) fun v6 h7 =>
 ifR v6 (tR (ix 1 x0 x3 h7) fun v8 h9 =>
 tR (ld v8 h9) fun v10 h11 =>
 tT (AV.onFn x1 (fun f l => c f (List.append [v10] l) h11) (.err 202)) fun v12 h13 =>
 tR (u_not v12 h13) fun v14 h15 =>
 ifR v14 (tR (ix 1 x0 x2 h15) fun v16 h17 =>
 tR (sto v16 v10 h17) fun v18 h19 =>
 tR (b_add x2 (pi 1) h19) fun v20 h21 =>
 x (T140 x0 x1 v20 x3) h21) (x (T140 x0 x1 x2 x3) h15)) (.ex 0 (T46 x0 x2) h7)) (y0 r) (y1 r) (y5 r) (y6 r)
def k266_1 : KF := fun c i x r h => (fun (x0 x1 x2 : AV) =>
 tR (b_add x2 (pi 1) h) fun v3 h4 =>
 x (T140 x0 x1 x2 v3) h4) (y0 r) (y1 r) (y5 r)
def k266_4 : KF := fun c i x r h => (fun (x0 x1 : AV) =>
 tR (o_slc 1 (.c x0) (.some (.c x1)) .none .none .nil h) fun v2 h3 =>
 tR (o_clr [(pi 0)] (.c v2) .nil h3) fun v4 h5 =>
 tR (o_slc 1 (.c x0) .none (.some (.c x1)) .none .nil h5) fun v6 h7 =>
 .ret (T22 v6) h7) (y0 r) (y5 r)
def k266_0 : KF := fun c i x r h => (fun (x0 x1 : AV) =>
 tT (c 331 [x0,x1] h) fun v2 h3 =>
 tR (b_eq v2 (ni 0) h3) fun v4 h5 =>
 ifR v4 (.ret (T22 x0) h5) (x (T25 x0 x1 v2) h5)) (y0 r) (y1 r)
def x266 : AC := (.shal k266_0 (.seq (.shal k266_1 (.block 0 (.loop (.shal k266_2 (.shal k266_3 .skip))))) (.shal k266_4 .skip)))
def z266 : List Rs := [.t .h0 .h4]
def f266 : AF := .mk x266 z266
def k267_0 : KF := fun c i x r h => (fun (x0 : AV) =>
 tT (c 332 [x0] h) fun v1 h2 =>
 tT (c 333 [v1] h2) fun v3 h4 =>
 .ret (T23 v1) h4) (y0 r)
def x267 : AC := (.shal k267_0 .skip)
def z267 : List Rs := [.t .h0 .h2]
def f267 : AF := .mk x267 z267
def k268_0 : KF := fun c i x r h => (fun (x0 : AV) =>
 tR (o_box 135 (.c x0) .nil h) fun v1 h2 =>
 .ret (T23 (.fn 334 [v1])) h2) (y0 r)
def x268 : AC := (.shal k268_0 .skip)
def z268 : List Rs := [.t .h0 .h2]
def f268 : AF := .mk x268 z268
def k269_0 : KF := fun c i x r h => (fun (x0 x1 : AV) =>
 tR (ld x1 h) fun v2 h3 =>
 tR (nic v2 h3) fun v4 h5 =>
 tR (fa 8 v4 h5) fun v6 h7 =>
 tR (ld v6 h7) fun v8 h9 =>
 tR (lkp (.one .i) .nilp false v8 x0 h9) fun v10 h11 =>
 x (T174 x1 v10) h11) (y0 r) (y1 r)
def x269 : AC := (.shal k269_0 (.seq (.drw [q 0 (m d11 r4),
 q 0 (o d12 (.bin .pne r11 (.c .nilp))),
 q 0 (m d13 r12),
 q 0 (.g .h0 .hd true d14 (.op (.ld1 r1))),
 q 0 (.g .h0 .hd true d15 (.op (.mv r4))),
 q 0 (.g .h0 .hd true d16 (.op (.nilc r15))),
 q 0 (.g .h0 .hd true d17 (.op (.fad 1 r16))),
 q 0 (.g .h0 .hd true d18 (.op (.ld1 r17))),
 q 0 (.g .h0 .hd true d19 (.op (.lenm r18))),
 w (.g .h0 .hd true d20 (.call 256 [r14,r19])),
 q 0 (o d21 (.pick r13 r20 (.c (.bool false)))),
 q 0 (m d3 r21)]) .ret))
def z269 : List Rs := [.t .h0 .h3]
def f269 : AF := .mkj x269 z269
def k270_0 : KF := fun c i x r h => (fun (x0 x1 x2 x3 : AV) =>
 tR (o_ldn 2 (.c x1) .nil h) fun v4 h5 =>
 tT (c 152 [x0,v4] h5) fun v6 h7 =>
 tR (ld x2 h7) fun v8 h9 =>
 tT (c 52 [x0,v8] h9) fun v10 h11 =>
 tR (ld x3 h11) fun v12 h13 =>
 tT (c 153 [x0,v12] h13) fun v14 h15 =>
 .nm T38 h15) (y0 r) (y1 r) (y2 r) (y3 r)
def x270 : AC := (.shal k270_0 .skip)
def z270 : List Rs := []
def f270 : AF := .mk x270 z270
def k281_4 : KF := fun c i x r h => (fun (x0 x1 x2 x3 x4 : AV) =>
 tR (b_lt x4 (pi 8) h) fun v5 h6 =>
 ifR v5 (tR (b_and x0 (.int .u32 (.ofNat 1)) h6) fun v7 h8 =>
 tR (bK .shr x0 (.int .u64 (.ofNat 1)) h8) fun v9 h10 =>
 tR (b_eq v7 (.int .u32 (.ofNat 1)) h10) fun v11 h12 =>
 ifR v11 (tR (b_xor v9 (.int .u32 (.ofNat 3988292384)) h12) fun v13 h14 =>
 tR (b_add x4 (pi 1) h14) fun v15 h16 =>
 .nm (T176 v13 x1 x2 x3 v15) h16) (tR (b_add x4 (pi 1) h12) fun v17 h18 =>
 .nm (T176 v9 x1 x2 x3 v17) h18)) (.ex 2 (T176 x0 x1 x2 x3 x4) h6)) (y3 r) (y7 r) (y8 r) (y9 r) (y17 r)
def k281_3 : KF := fun c i x r h => (fun (x0 x1 x2 x3 : AV) =>
 tR (ix 1 x1 x3 h) fun v4 h5 =>
 tR (ld v4 h5) fun v6 h7 =>
 tR (cK (.toInt .u32) v6 h7) fun v8 h9 =>
 tR (b_xor x0 v8 h9) fun v10 h11 =>
 x (T176 v10 x1 x2 x3 (pi 0)) h11) (y3 r) (y7 r) (y8 r) (y9 r)
def k281_5 : KF := fun c i x r h => (fun (x0 x1 x2 x3 : AV) =>
 tR (b_add x3 (pi 1) h) fun v4 h5 =>
 .nm (T175 x0 x1 x2 v4) h5) (y3 r) (y7 r) (y8 r) (y9 r)
def k281_2 : KF := fun c i x r h => (fun (x0 x1 x2 x3 : AV) =>
 tR (b_lt x3 x2 h) fun v4 h5 =>
 ifR v4 (x (T175 x0 x1 x2 x3) h5) (.ex 0 (T32 x0) h5)) (y3 r) (y7 r) (y8 r) (y9 r)
def k281_1 : KF := fun c i x r h => (fun (x0 x1 : AV) =>
 tR (len x0 h) fun v2 h3 =>
 x (T175 x1 x0 v2 (pi 0)) h3) (y0 r) (y3 r)
def k281_6 : KF := fun c i x r h => (fun (x0 : AV) =>
 tR (u_com x0 h) fun v1 h2 =>
 .ret (T23 v1) h2) (y3 r)
def k281_0 : KF := fun c i x r h => (fun (x0 : AV) =>
 x (T11 x0 (.int .u32 (.ofNat 4294967295))) h) (y0 r)
def p281 : PK := .crc
def x281 : AC := (.shal k281_0 (.seq (.shal k281_1 (.block 0 (.loop (.shal k281_2 (.seq (.block 1 (.shal k281_3 (.block 2 (.loop (.shal k281_4 .skip))))) (.shal k281_5 .skip)))))) (.shal k281_6 .skip)))
def z281 : List Rs := [.t .h0 .h2]
def f281 : AF := .prim p281 x281 z281
def k285_0 : KF := fun c i x r h => (fun (x0 : AV) =>
 tR (nic x0 h) fun v1 h2 =>
 tR (fa 2 v1 h2) fun v3 h4 =>
 tR (ld v3 h4) fun v5 h6 =>
 tR (b_ne v5 (pi 0) h6) fun v7 h8 =>
 ifR v7 (.ret (T23 (pi 0)) h8) (tQ (nic x0 h8) fun v9 =>
 tQ (fa 0 v9 h8) fun v10 =>
 tQ (ld v10 h8) fun v11 =>
 tQ (len v11 h8) fun v12 =>
 tQ (nic x0 h8) fun v13 =>
 tQ (fa 1 v13 h8) fun v14 =>
 tQ (ld v14 h8) fun v15 =>
 tQ (b_sub v12 v15 h8) fun v16 =>
 .ret (T23 v16) h8)) (y0 r)
def x285 : AC := (.shal k285_0 .skip)
def z285 : List Rs := [.t .h0 .h2]
def f285 : AF := .mk x285 z285
def k288_2 : KF := fun c i x r h => .ret (T22 (pi 20)) h
def k288_3 : KF := fun c i x r h => (fun (x0 : AV) =>
 ifR x0 (.ret (T22 (pi 21)) h) (.nm T38 h)) (y9 r)
def k288_1 : KF := fun c i x r h => (fun (x0 x1 : AV) =>
 tT (c 344 [x1] h) fun v2 h3 =>
 tR (u_not v2 h3) fun v4 h5 =>
 x (T25 x0 x1 v4) h5) (y0 r) (y1 r)
def k288_4 : KF := fun c i x r h => .ret (T22 (pi 0)) h
def k288_0 : KF := fun c i x r h => (fun (x0 x1 : AV) =>
 x (T50 x0 x1) h) (y0 r) (y1 r)
def x288 : AC := (.shal k288_0 (.seq (.block 0 (.shal k288_1 (.cond r5 (.shal k288_2 .skip) (.seq (.ops [m d10 r0,
 m d11 r1,
 .o d12 (.call 319 [r10,r11]),
 o d13 (.bin .ge r12 a0),
 m d14 r13,
 .g .h0 .he false d15 (.op (.mv r0)),
 .g .h0 .he false d16 (.op (.mv r1)),
 .g .h0 .he false d17 (.call 323 [r15,r16]),
 .g .h0 .he false d18 (.op (.bin .ge r17 a0)),
 o d19 (.pick r14 (.c (.bool true)) r18),
 m d9 r19]) (.shal k288_3 .skip))))) (.shal k288_4 .skip)))
def z288 : List Rs := [.t .h0 .h4]
def f288 : AF := .mk x288 z288
def k289_1 : KF := fun c i x r h => (fun (x0 x1 : AV) =>
 ifR x1 (.ret (T23 (pi 23)) h) (.nm (T1 x0) h)) (y0 r) (y14 r)
def k289_5 : KF := fun c i x r h => (fun (x0 x1 x2 x3 x4 x5 x6 : AV) =>
 ifR x6 (.ret (T23 (pi 20)) h) (.nm (T178 x0 x1 x2 x3 x4 x5) h)) (y0 r) (y3 r) (y4 r) (y15 r) (y16 r) (y17 r) (y35 r)
def k289_6 : KF := fun c i x r h => (fun (x0 x1 x2 x3 x4 x5 : AV) =>
 tQ (o_slc 2 (.c x0) .none (.some (.c x1)) .none .nil h) fun v6 =>
 tQ (fa 0 x2 h) fun v7 =>
 tQ (ld v7 h) fun v8 =>
 tX (c 345 [v6,v8] h) fun v9 h10 =>
 tQ (o_ext 0 (.c v9) .nil h10) fun v11 =>
 tQ (o_ext 1 (.c v9) .nil h10) fun v12 =>
 ifR v12 (.ret (T23 (pi 21)) h10) (.nm (T177 x0 x3 x4 x5) h10)) (y0 r) (y3 r) (y4 r) (y15 r) (y16 r) (y17 r)
def k289_4 : KF := fun c i x r h => (fun (x0 x1 x2 x3 : AV) =>
 tR (ix 2 x1 x3 h) fun v4 h5 =>
 tR (o_ldn 2 (.c v4) .nil h5) fun v6 h7 =>
 tR (o_alloc 80 2 (.k1 (.mk (.str []) (pi 0) .undef .undef .undef .undef .undef .undef .undef .undef .undef .undef .undef .undef .undef .undef)) .nil h7) fun v8 h9 =>
 tR (o_stn 2 (.c v8) (.c v6) .nil h9) fun v10 h11 =>
 x (T178 x0 x3 v8 x1 x2 x3) h11) (y0 r) (y15 r) (y16 r) (y17 r)
def k289_7 : KF := fun c i x r h => (fun (x0 x1 x2 x3 : AV) =>
 tR (b_add x3 (pi 1) h) fun v4 h5 =>
 .nm (T177 x0 x1 x2 v4) h5) (y0 r) (y15 r) (y16 r) (y17 r)
def k289_3 : KF := fun c i x r h => (fun (x0 x1 x2 x3 : AV) =>
 tR (b_lt x3 x2 h) fun v4 h5 =>
 ifR v4 (x (T177 x0 x1 x2 x3) h5) (.ex 0 T38 h5)) (y0 r) (y15 r) (y16 r) (y17 r)
def k289_2 : KF := fun c i x r h => (fun (x0 : AV) =>
 tR (len x0 h) fun v1 h2 =>
 x (T177 x0 x0 v1 (pi 0)) h2) (y0 r)
def k289_8 : KF := fun c i x r h => .ret (T23 (pi 0)) h
def k289_0 : KF := fun c i x r h => (fun (x0 : AV) =>
 x (T1 x0) h) (y0 r)
def x289 : AC := (.shal k289_0 (.seq (.seq (.ops [m d7 r0,
 o d8 (.len r7),
 o d9 (.bin .eq r8 a0),
 m d10 r9,
 .g .h0 .ha false d11 (.op (.mv r0)),
 .g .h0 .ha false d12 (.op (.len r11)),
 .g .h0 .ha false d13 (.op (.bin .gt r12 (.c (pi 6)))),
 o d14 (.pick r10 (.c (.bool true)) r13)]) (.shal k289_1 .skip)) (.seq (.shal k289_2 (.block 0 (.loop (.shal k289_3 (.seq (.block 1 (.shal k289_4 (.seq (.seq (.ops [o d22 (.fad 0 r4),
 o d23 (.ld1 r22),
 .o d24 (.call 344 [r23]),
 o d25 (.un .not r24),
 m d26 r25,
 .g .h1 .ha false d27 (.op (.fad 1 r4)),
 .g .h1 .ha false d28 (.op (.ld1 r27)),
 .g .h1 .ha false d29 (.op (.bin .ne r28 a1)),
 .g .h1 .ha false d30 (.op (.mv r29)),
 .g .h1 .he true d31 (.op (.fad 1 r4)),
 .g .h1 .he true d32 (.op (.ld1 r31)),
 .g .h1 .he true d33 (.op (.bin .ne r32 a2)),
 .g .h1 .ha false d34 (.op (.pick r30 r33 (.c (.bool false)))),
 o d35 (.pick r26 (.c (.bool true)) r34)]) (.shal k289_5 .skip)) (.shal k289_6 .skip)))) (.shal k289_7 .skip)))))) (.shal k289_8 .skip))))
def z289 : List Rs := [.t .h0 .h2]
def f289 : AF := .mk x289 z289
def k290_0 : KF := fun c i x r h => (fun (x0 x1 : AV) =>
 tR (len x0 h) fun v2 h3 =>
 tR (cK (.toInt .u64) v2 h3) fun v4 h5 =>
 tT (c 343 [v4] h5) fun v6 h7 =>
 tT (c 346 [x0,(pi 0),v2,v6,x1] h7) fun v8 h9 =>
 .nm T38 h9) (y0 r) (y1 r)
def x290 : AC := (.shal k290_0 .skip)
def z290 : List Rs := []
def f290 : AF := .mk x290 z290
def k316_2 : KF := fun c i x r h => (fun (x0 x1 x2 x3 : AV) =>
 tR (b_lt x3 x2 h) fun v4 h5 =>
 ifR v4 (tR (ix 3 x0 x3 h5) fun v6 h7 =>
 tR (o_ldn 3 (.c v6) .nil h7) fun v8 h9 =>
 tT (AV.onFn x1 (fun f l => c f (List.append [v8] l) h9) (.err 202)) fun v10 h11 =>
 ifR v10 (.ret (T22 x3) h11) (tR (b_add x3 (pi 1) h11) fun v12 h13 =>
 .nm (T173 x0 x1 x2 v12) h13)) (.ex 0 (T173 x0 x1 x2 x3) h5)) (y0 r) (y1 r) (y7 r) (y8 r)
def k316_1 : KF := fun c i x r h => (fun (x0 x1 : AV) =>
 tR (len x0 h) fun v2 h3 =>
 x (T173 x0 x1 v2 (pi 0)) h3) (y0 r) (y1 r)
def k316_3 : KF := fun c i x r h => .ret (T22 (ni 0)) h
def k316_0 : KF := fun c i x r h => (fun (x0 x1 : AV) =>
 x (T50 x0 x1) h) (y0 r) (y1 r)
def x316 : AC := (.shal k316_0 (.seq (.shal k316_1 (.block 0 (.loop (.shal k316_2 .skip)))) (.shal k316_3 .skip)))
def z316 : List Rs := [.t .h0 .h4]
def f316 : AF := .mk x316 z316
def k318_2 : KF := fun c i x r h => (fun (x0 x1 x2 x3 x4 : AV) =>
 tR (b_add x4 x3 h) fun v5 h6 =>
 tR (o_cap (.c x0) .nil h6) fun v7 h8 =>
 tR (b_gt v5 v7 h8) fun v9 h10 =>
 x (T180 x0 x1 x2 x3 x4 v9) h10) (y0 r) (y1 r) (y2 r) (y7 r) (y8 r)
def k318_5 : KF := fun c i x r h => (fun (x0 x1 x2 x3 x4 : AV) =>
 tR (o_slc 3 (.c x0) (.some (.c x4)) .none .none .nil h) fun v5 h6 =>
 tR (cpyV 3 v5 x2 h6) fun v7 h8 =>
 tR (o_slc 3 (.c x0) (.some (.c x1)) .none .none .nil h8) fun v9 h10 =>
 tT (c 397 [v9,x3] h10) fun v11 h12 =>
 .ret (T10 x0) h12) (y0 r) (y1 r) (y2 r) (y7 r) (y8 r)
def k318_4 : KF := fun c i x r h => (fun (x0 x1 x2 x3 x4 : AV) =>
 tR (b_add x1 x3 h) fun v5 h6 =>
 tR (o_slc 3 (.c x0) (.some (.c v5)) .none .none .nil h6) fun v7 h8 =>
 tT (c 396 [x2,v7] h8) fun v9 h10 =>
 tR (u_not v9 h10) fun v11 h12 =>
 ifR v11 (tQ (b_add x1 x3 h12) fun v13 =>
 tQ (o_slc 3 (.c x0) (.some (.c v13)) .none .none .nil h12) fun v14 =>
 tQ (o_slc 3 (.c x0) (.some (.c x1)) .none .none .nil h12) fun v15 =>
 tX (RV.toT (cpyV 3 v14 v15 h12)) fun v16 h17 =>
 tR (o_slc 3 (.c x0) (.some (.c x1)) .none .none .nil h17) fun v18 h19 =>
 tR (cpyV 3 v18 x2 h19) fun v20 h21 =>
 .ret (T10 x0) h21) (x (T179 x0 x1 x2 x3 x4) h12)) (y0 r) (y1 r) (y2 r) (y7 r) (y8 r)
def k318_3 : KF := fun c i x r h => (fun (x0 x1 x2 x3 x4 : AV) =>
 tR (b_add x4 x3 h) fun v5 h6 =>
 tR (o_slc 3 (.c x0) .none (.some (.c v5)) .none .nil h6) fun v7 h8 =>
 x (T179 v7 x1 x2 x3 x4) h8) (y0 r) (y1 r) (y2 r) (y7 r) (y8 r)
def k318_1 : KF := fun c i x r h => (fun (x0 x1 x2 x3 x4 : AV) =>
 tR (b_eq x1 x4 h) fun v5 h6 =>
 ifR v5 (tR (appV 184 3 x0 x2 h6) fun v7 h8 =>
 .ret (T10 v7) h8) (x (T179 x0 x1 x2 x3 x4) h6)) (y0 r) (y1 r) (y2 r) (y7 r) (y8 r)
def k318_0 : KF := fun c i x r h => (fun (x0 x1 x2 : AV) =>
 tR (o_slc 3 (.c x0) (.some (.c x1)) .none .none .nil h) fun v3 h4 =>
 tR (len x2 h4) fun v5 h6 =>
 tR (b_eq v5 (pi 0) h6) fun v7 h8 =>
 ifR v7 (.ret (T10 x0) h8) (tR (len x0 h8) fun v9 h10 =>
 x (T179 x0 x1 x2 v5 v9) h10)) (y0 r) (y1 r) (y2 r)
def x318 : AC := (.shal k318_0 (.shal k318_1 (.seq (.shal k318_2 (.cond r31 (.bad 0) .skip)) (.shal k318_3 (.shal k318_4 (.shal k318_5 .skip))))))
def z318 : List Rs := [.t .h0 .h6]
def f318 : AF := .mk x318 z318
def k319_0 : KF := fun c i x r h => (fun (x0 x1 : AV) =>
 tR (o_box 9 (.c x1) .nil h) fun v2 h3 =>
 tR (nic x0 h3) fun v4 h5 =>
 tR (fa 0 v4 h5) fun v6 h7 =>
 tR (ld v6 h7) fun v8 h9 =>
 tT (c 373 [v8,(.fn 398 [v2])] h9) fun v10 h11 =>
 .ret (T22 v10) h11) (y0 r) (y1 r)
def x319 : AC := (.shal k319_0 .skip)
def z319 : List Rs := [.t .h0 .h4]
def f319 : AF := .mk x319 z319
def k323_0 : KF := fun c i x r h => (fun (x0 x1 : AV) =>
 tR (o_box 9 (.c x1) .nil h) fun v2 h3 =>
 tR (nic x0 h3) fun v4 h5 =>
 tR (fa 1 v4 h5) fun v6 h7 =>
 tR (ld v6 h7) fun v8 h9 =>
 tT (c 401 [v8,(.fn 402 [v2])] h9) fun v10 h11 =>
 .ret (T22 v10) h11) (y0 r) (y1 r)
def x323 : AC := (.shal k323_0 .skip)
def z323 : List Rs := [.t .h0 .h4]
def f323 : AF := .mk x323 z323
def k329_2 : KF := fun c i x r h => (fun (x0 x1 x2 x3 : AV) =>
 tR (b_lt x3 x2 h) fun v4 h5 =>
 ifR v4 (tR (ix 1 x1 x3 h5) fun v6 h7 =>
 tR (ld v6 h7) fun v8 h9 =>
 tR (b_ne v8 x0 h9) fun v10 h11 =>
 ifR v10 (.ret (T23 v8) h11) (tR (b_add x3 (pi 1) h11) fun v12 h13 =>
 .nm (T78 x0 x1 x2 v12) h13)) (.ex 0 (T78 x0 x1 x2 x3) h5)) (y3 r) (y6 r) (y7 r) (y8 r)
def k329_1 : KF := fun c i x r h => (fun (x0 x1 : AV) =>
 tR (len x0 h) fun v2 h3 =>
 x (T78 x1 x0 v2 (pi 0)) h3) (y0 r) (y3 r)
def k329_3 : KF := fun c i x r h => (fun (x0 : AV) =>
 .ret (T23 x0) h) (y3 r)
def k329_0 : KF := fun c i x r h => (fun (x0 : AV) =>
 x (T11 x0 (pi 0)) h) (y0 r)
def x329 : AC := (.shal k329_0 (.seq (.shal k329_1 (.block 0 (.loop (.shal k329_2 .skip)))) (.shal k329_3 .skip)))
def z329 : List Rs := [.t .h0 .h2]
def f329 : AF := .mk x329 z329
def k330_1 : KF := fun c i x r h => (fun (x0 x1 : AV) =>
 tR (b_lt x0 x1 h) fun v2 h3 =>
 ifR v2 (.ret (T22 (ni 0)) h3) (tR (b_gt x0 x1 h3) fun v4 h5 =>
 ifR v4 (.ret (T22 (pi 1)) h5) (.ret (T22 (pi 0)) h5))) (y0 r) (y1 r)
def k330_0 : KF := fun c i x r h => (fun (x0 x1 : AV) =>
 tT (c 407 [x0] h) fun v2 h3 =>
 tT (c 407 [x1] h3) fun v4 h5 =>
 ifR v2 (ifR v4 (.ret (T22 (pi 0)) h5) (.ret (T22 (ni 0)) h5)) (ifR v4 (.ret (T22 (pi 1)) h5) (x (T50 x0 x1) h5))) (y0 r) (y1 r)
def x330 : AC := (.shal k330_0 (.shal k330_1 .skip))
def z330 : List Rs := [.t .h0 .h4]
def f330 : AF := .mk x330 z330
def k331_2 : KF := fun c i x r h => (fun (x0 x1 x2 x3 : AV) =>
 tR (b_lt x3 x2 h) fun v4 h5 =>
 ifR v4 (tR (ix 1 x0 x3 h5) fun v6 h7 =>
 tR (ld v6 h7) fun v8 h9 =>
 tT (AV.onFn x1 (fun f l => c f (List.append [v8] l) h9) (.err 202)) fun v10 h11 =>
 ifR v10 (.ret (T22 x3) h11) (tR (b_add x3 (pi 1) h11) fun v12 h13 =>
 .nm (T173 x0 x1 x2 v12) h13)) (.ex 0 (T173 x0 x1 x2 x3) h5)) (y0 r) (y1 r) (y7 r) (y8 r)
def k331_1 : KF := fun c i x r h => (fun (x0 x1 : AV) =>
 tR (len x0 h) fun v2 h3 =>
 x (T173 x0 x1 v2 (pi 0)) h3) (y0 r) (y1 r)
def k331_3 : KF := fun c i x r h => .ret (T22 (ni 0)) h
def k331_0 : KF := fun c i x r h => (fun (x0 x1 : AV) =>
 x (T50 x0 x1) h) (y0 r) (y1 r)
def x331 : AC := (.shal k331_0 (.seq (.shal k331_1 (.block 0 (.loop (.shal k331_2 .skip)))) (.shal k331_3 .skip)))
def z331 : List Rs := [.t .h0 .h4]
def f331 : AF := .mk x331 z331
def k332_0 : KF := fun c i x r h => (fun (x0 : AV) =>
 tT (c 408 [.nils,x0] h) fun v1 h2 =>
 .ret (T23 v1) h2) (y0 r)
def x332 : AC := (.shal k332_0 .skip)
def z332 : List Rs := [.t .h0 .h2]
def f332 : AF := .mk x332 z332
def k333_0 : KF := fun c i x r h => (fun (x0 : AV) =>
 tR (len x0 h) fun v1 h2 =>
 tR (cK (.toInt .u64) v1 h2) fun v3 h4 =>
 tT (c 343 [v3] h4) fun v5 h6 =>
 tT (c 409 [x0,(pi 0),v1,v5] h6) fun v7 h8 =>
 .nm T38 h8) (y0 r)
def x333 : AC := (.shal k333_0 .skip)
def z333 : List Rs := []
def f333 : AF := .mk x333 z333
def k343_0 : KF := fun c i x r h => (fun (x0 : AV) =>
 ifR (.bool false) (tR (cK (.toInt .u32) x0 h) fun v1 h2 =>
 tT (c 424 [v1] h2) fun v3 h4 =>
 .ret (T23 v3) h4) (tT (c 227 [x0] h) fun v5 h6 =>
 .ret (T23 v5) h6)) (y0 r)
def x343 : AC := (.shal k343_0 .skip)
def z343 : List Rs := [.t .h0 .h2]
def f343 : AF := .mk x343 z343
def k344_1 : KF := fun c i x r h => (fun (x0 x1 : AV) =>
 ifR x1 (.ret (T23 (.bool false)) h) (.nm (T1 x0) h)) (y0 r) (y14 r)
def k344_5 : KF := fun c i x r h => (fun (x0 x1 x2 x3 : AV) =>
 ifR x3 (.ret (T23 (.bool false)) h) (.nm (T181 x0 x1 x2) h)) (y0 r) (y16 r) (y17 r) (y29 r)
def k344_4 : KF := fun c i x r h => (fun (x0 x1 x2 : AV) =>
 x (T182 x0 x2 x1 x2) h) (y0 r) (y16 r) (y17 r)
def k344_6 : KF := fun c i x r h => (fun (x0 x1 x2 : AV) =>
 tR (b_add x2 (pi 1) h) fun v3 h4 =>
 .nm (T181 x0 x1 v3) h4) (y0 r) (y16 r) (y17 r)
def k344_3 : KF := fun c i x r h => (fun (x0 x1 x2 : AV) =>
 tR (b_lt x2 x1 h) fun v3 h4 =>
 ifR v3 (x (T181 x0 x1 x2) h4) (.ex 0 T38 h4)) (y0 r) (y16 r) (y17 r)
def k344_2 : KF := fun c i x r h => (fun (x0 : AV) =>
 tR (lent x0 h) fun v1 h2 =>
 x (T181 x0 v1 (pi 0)) h2) (y0 r)
def k344_7 : KF := fun c i x r h => .ret (T23 (.bool true)) h
def k344_0 : KF := fun c i x r h => (fun (x0 : AV) =>
 x (T1 x0) h) (y0 r)
def x344 : AC := (.shal k344_0 (.seq (.seq (.ops [m d4 r0,
 o d5 (.bin .seq r4 (.c (.str []))),
 m d6 r5,
 .g .h0 .h6 false d7 (.op (.mv r0)),
 .g .h0 .h6 false d8 (.op (.lent r7)),
 .g .h0 .h6 false d9 (.op (.bin .gt r8 (.c (pi 12)))),
 o d10 (.pick r6 (.c (.bool true)) r9),
 m d11 r10,
 .g .h0 .hb false d12 (.op (.mv r0)),
 .g .h0 .hb false d13 (.call 425 [r12]),
 o d14 (.pick r11 (.c (.bool true)) r13)]) (.shal k344_1 .skip)) (.seq (.shal k344_2 (.block 0 (.loop (.shal k344_3 (.seq (.block 1 (.shal k344_4 (.seq (.ops [m d20 r0,
 m d21 r3,
 o d22 (.idxs r20 r21),
 o d23 (.bin .lt r22 (.c (.int .u8 (.ofNat 97)))),
 m d24 r23,
 .g .h1 .h8 false d25 (.op (.mv r0)),
 .g .h1 .h8 false d26 (.op (.mv r3)),
 .g .h1 .h8 false d27 (.op (.idxs r25 r26)),
 .g .h1 .h8 false d28 (.op (.bin .gt r27 (.c (.int .u8 (.ofNat 122))))),
 o d29 (.pick r24 (.c (.bool true)) r28)]) (.shal k344_5 .skip)))) (.shal k344_6 .skip)))))) (.shal k344_7 .skip))))
def z344 : List Rs := [.t .h0 .h2]
def f344 : AF := .mk x344 z344
def k345_0 : KF := fun c i x r h => (fun (x0 x1 : AV) =>
 tR (o_box 9 (.c x1) .nil h) fun v2 h3 =>
 tT (c 426 [x0,(.fn 427 [v2])] h3) fun v4 h5 =>
 tR (maxV false [v4,(pi 0)] h5) fun v6 h7 =>
 tR (b_ge v4 (pi 0) h7) fun v8 h9 =>
 .ret (T33 v6 v8) h9) (y0 r) (y1 r)
def x345 : AC := (.shal k345_0 .skip)
def z345 : List Rs := [.t .h0 .h4,.t .h0 .h5]
def f345 : AF := .mk x345 z345
def k346_5 : KF := fun c i x r h => (fun (x0 x1 x2 x3 x4 x5 x6 x7 x8 x9 : AV) =>
 ifR x9 (tT (c 433 [x0,x1,x2,x4] h) fun v10 h11 =>
 ifR v10 (.ret T38 h11) (.nm (T186 x0 x1 x2 x3 x4 x5 x6 x7 x8) h11)) (.nm (T186 x0 x1 x2 x3 x4 x5 x6 x7 x8) h)) (y0 r) (y1 r) (y2 r) (y3 r) (y4 r) (y10 r) (y11 r) (y12 r) (y13 r) (y75 r)
def k346_6 : KF := fun c i x r h => (fun (x0 x1 x2 x3 x4 x5 x6 x7 x8 x9 : AV) =>
 ifR x9 (tT (c 434 [x0,x1,x2,x8,x4] h) fun v10 h11 =>
 .ex 1 (T186 x0 v10 x2 x3 x4 x5 x6 x7 x8) h11) (.nm (T186 x0 x1 x2 x3 x4 x5 x6 x7 x8) h)) (y0 r) (y1 r) (y2 r) (y3 r) (y4 r) (y10 r) (y11 r) (y12 r) (y13 r) (y97 r)
def k346_9 : KF := fun c i x r h => (fun (x0 x1 x2 x3 x4 x5 x6 x7 x8 x9 x10 : AV) =>
 ifR x10 (tR (b_ge x7 x9 h) fun v11 h12 =>
 tT (c 346 [x0,x1,x6,x3,x4] h12) fun v13 h14 =>
 tR (b_add x6 (pi 1) h14) fun v15 h16 =>
 .nm (T183 x0 v15 x2 x3 x4 v11 x5) h16) (tR (b_ge x8 x9 h) fun v17 h18 =>
 tR (b_add x6 (pi 1) h18) fun v19 h20 =>
 tT (c 346 [x0,v19,x2,x3,x4] h20) fun v21 h22 =>
 .nm (T183 x0 x1 x6 x3 x4 v17 x5) h22)) (y0 r) (y1 r) (y2 r) (y3 r) (y4 r) (y11 r) (y16 r) (y18 r) (y19 r) (y20 r) (y125 r)
def k346_8 : KF := fun c i x r h => (fun (x0 x1 x2 x3 x4 x5 x6 x7 x8 x9 : AV) =>
 tR (b_lt x7 x8 h) fun v10 h11 =>
 x (T188 x0 x1 x2 x3 x4 x5 x6 x7 x8 x9 v10) h11) (y0 r) (y1 r) (y2 r) (y3 r) (y4 r) (y11 r) (y16 r) (y18 r) (y19 r) (y20 r)
def k346_7 : KF := fun c i x r h => (fun (x0 x1 x2 x3 x4 x5 x6 : AV) =>
 tT (c 435 [x0,x1,x2,x6,x4] h) fun v7 h8 =>
 tR (o_ext 0 (.c v7) .nil h8) fun v9 h10 =>
 tR (o_ext 1 (.c v7) .nil h10) fun v11 h12 =>
 tR (b_sub v9 x1 h12) fun v13 h14 =>
 tR (b_sub x2 v9 h14) fun v15 h16 =>
 tR (b_quo x5 (pi 8) h16) fun v17 h18 =>
 x (T187 x0 x1 x2 x3 x4 v11 v9 v13 v15 v17) h18) (y0 r) (y1 r) (y2 r) (y3 r) (y4 r) (y12 r) (y13 r)
def k346_4 : KF := fun c i x r h => (fun (x0 x1 x2 x3 x4 x5 x6 x7 x8 x9 : AV) =>
 tR (b_eq x9 (pi 2) h) fun v10 h11 =>
 ifR v10 (tT (c 432 [x0,x1,x2,x4] h11) fun v12 h13 =>
 tR (b_sub x2 (pi 1) h13) fun v14 h15 =>
 tR (b_sub x8 x1 h15) fun v16 h17 =>
 tR (b_sub v14 v16 h17) fun v18 h19 =>
 x (T185 x0 x1 x2 x3 x4 x5 x6 x7 v18 (pi 1)) h19) (x (T185 x0 x1 x2 x3 x4 x5 x6 x7 x8 x9) h11)) (y0 r) (y1 r) (y2 r) (y3 r) (y4 r) (y10 r) (y11 r) (y12 r) (y13 r) (y14 r)
def k346_3 : KF := fun c i x r h => (fun (x0 x1 x2 x3 x4 x5 x6 x7 : AV) =>
 tT (c 431 [x0,x1,x2,x4] h) fun v8 h9 =>
 tR (o_ext 0 (.c v8) .nil h9) fun v10 h11 =>
 tR (o_ext 1 (.c v8) .nil h11) fun v12 h13 =>
 x (T185 x0 x1 x2 x3 x4 x5 x6 x7 v10 v12) h13) (y0 r) (y1 r) (y2 r) (y3 r) (y4 r) (y10 r) (y11 r) (y12 r)
def k346_2 : KF := fun c i x r h => (fun (x0 x1 x2 x3 x4 x5 x6 x7 : AV) =>
 tR (u_not x5 h) fun v8 h9 =>
 ifR v8 (tT (c 430 [x0,x1,x2,x4] h9) fun v10 h11 =>
 tR (b_sub x3 (pi 1) h11) fun v12 h13 =>
 x (T184 x0 x1 x2 v12 x4 x5 x6 x7) h13) (x (T184 x0 x1 x2 x3 x4 x5 x6 x7) h9)) (y0 r) (y1 r) (y2 r) (y3 r) (y4 r) (y10 r) (y11 r) (y12 r)
def k346_1 : KF := fun c i x r h => (fun (x0 x1 x2 x3 x4 x5 x6 : AV) =>
 tR (b_sub x2 x1 h) fun v7 h8 =>
 tR (b_le v7 (pi 12) h8) fun v9 h10 =>
 ifR v9 (tT (c 428 [x0,x1,x2,x4] h10) fun v11 h12 =>
 .ret T38 h12) (tR (b_eq x3 (pi 0) h10) fun v13 h14 =>
 ifR v13 (tT (c 429 [x0,x1,x2,x4] h14) fun v15 h16 =>
 .ret T38 h16) (x (T184 x0 x1 x2 x3 x4 x5 x6 v7) h14))) (y0 r) (y1 r) (y2 r) (y3 r) (y4 r) (y10 r) (y11 r)
def k346_0 : KF := fun c i x r h => (fun (x0 x1 x2 x3 x4 : AV) =>
 x (T183 x0 x1 x2 x3 x4 (.bool true) (.bool true)) h) (y0 r) (y1 r) (y2 r) (y3 r) (y4 r)
def x346 : AC := (.shal k346_0 (.block 0 (.loop (.block 1 (.shal k346_1 (.shal k346_2 (.shal k346_3 (.shal k346_4 (.seq (.seq (.ops [m d68 r10,
 m d69 r68,
 .g .h4 .h5 true d70 (.op (.mv r11)),
 o d71 (.pick r69 r70 (.c (.bool false))),
 m d72 r71,
 .g .h4 .h8 true d73 (.op (.mv r14)),
 .g .h4 .h8 true d74 (.op (.bin .eq r73 a1)),
 o d75 (.pick r72 r74 (.c (.bool false)))]) (.shal k346_5 .skip)) (.seq (.seq (.drw [q 0 (m d81 r1),
 q 0 (o d82 (.bin .gt r81 a0)),
 q 0 (m d83 r82),
 q 0 (.g .h5 .h3 true d84 (.op (.mv r4))),
 q 0 (.g .h5 .h3 true d85 (.op (.mv r0))),
 q 0 (.g .h5 .h3 true d86 (.op (.mv r1))),
 q 0 (.g .h5 .h3 true d87 (.op (.bin .sub r86 a1))),
 q 0 (.g .h5 .h3 true d88 (.op (.ixs 2 r85 r87))),
 q 0 (.g .h5 .h3 true d89 (.op (.ldn 2 r88))),
 q 0 (.g .h5 .h3 true d90 (.op (.mv r0))),
 q 0 (.g .h5 .h3 true d91 (.op (.mv r13))),
 q 0 (.g .h5 .h3 true d92 (.op (.ixs 2 r90 r91))),
 q 0 (.g .h5 .h3 true d93 (.op (.ldn 2 r92))),
 w (.g .h5 .h3 true d94 (.calld r84 [r89,r93])),
 q 0 (.g .h5 .h3 true d95 (.op (.bin .lt r94 a0))),
 q 0 (.g .h5 .h3 true d96 (.op (.un .not r95))),
 q 0 (o d97 (.pick r83 r96 (.c (.bool false))))]) (.shal k346_6 .skip)) (.shal k346_7 (.shal k346_8 (.shal k346_9 .skip)))))))))))))
def z346 : List Rs := []
def f346 : AF := .mk x346 z346
def k373_2 : KF := fun c i x r h => (fun (x0 x1 x2 x3 : AV) =>
 tR (b_lt x3 x2 h) fun v4 h5 =>
 ifR v4 (tR (ix 2 x0 x3 h5) fun v6 h7 =>
 tR (o_ldn 2 (.c v6) .nil h7) fun v8 h9 =>
 tT (AV.onFn x1 (fun f l => c f (List.append [v8] l) h9) (.err 202)) fun v10 h11 =>
 ifR v10 (.ret (T22 x3) h11) (tR (b_add x3 (pi 1) h11) fun v12 h13 =>
 .nm (T173 x0 x1 x2 v12) h13)) (.ex 0 (T173 x0 x1 x2 x3) h5)) (y0 r) (y1 r) (y7 r) (y8 r)
def k373_1 : KF := fun c i x r h => (fun (x0 x1 : AV) =>
 tR (len x0 h) fun v2 h3 =>
 x (T173 x0 x1 v2 (pi 0)) h3) (y0 r) (y1 r)
def k373_3 : KF := fun c i x r h => .ret (T22 (ni 0)) h
def k373_0 : KF := fun c i x r h => (fun (x0 x1 : AV) =>
 x (T50 x0 x1) h) (y0 r) (y1 r)
def x373 : AC := (.shal k373_0 (.seq (.shal k373_1 (.block 0 (.loop (.shal k373_2 .skip)))) (.shal k373_3 .skip)))
def z373 : List Rs := [.t .h0 .h4]
def f373 : AF := .mk x373 z373
def k398_0 : KF := fun c i x r h => (fun (x0 x1 : AV) =>
 tR (o_box 243 (.c x0) .nil h) fun v2 h3 =>
 tR (fa 0 v2 h3) fun v4 h5 =>
 tR (ld v4 h5) fun v6 h7 =>
 tR (ld x1 h7) fun v8 h9 =>
 tR (b_seq v6 v8 h9) fun v10 h11 =>
 .ret (T32 v10) h11) (y0 r) (y1 r)
def x398 : AC := (.shal k398_0 .skip)
def z398 : List Rs := [.t .h0 .h3]
def f398 : AF := .mk x398 z398
def k401_2 : KF := fun c i x r h => (fun (x0 x1 x2 x3 : AV) =>
 tR (b_lt x3 x2 h) fun v4 h5 =>
 ifR v4 (tR (ix 11 x0 x3 h5) fun v6 h7 =>
 tR (o_ldn 11 (.c v6) .nil h7) fun v8 h9 =>
 tT (AV.onFn x1 (fun f l => c f (List.append [v8] l) h9) (.err 202)) fun v10 h11 =>
 ifR v10 (.ret (T22 x3) h11) (tR (b_add x3 (pi 1) h11) fun v12 h13 =>
 .nm (T173 x0 x1 x2 v12) h13)) (.ex 0 (T173 x0 x1 x2 x3) h5)) (y0 r) (y1 r) (y7 r) (y8 r)
def k401_1 : KF := fun c i x r h => (fun (x0 x1 : AV) =>
 tR (len x0 h) fun v2 h3 =>
 x (T173 x0 x1 v2 (pi 0)) h3) (y0 r) (y1 r)
def k401_3 : KF := fun c i x r h => .ret (T22 (ni 0)) h
def k401_0 : KF := fun c i x r h => (fun (x0 x1 : AV) =>
 x (T50 x0 x1) h) (y0 r) (y1 r)
def x401 : AC := (.shal k401_0 (.seq (.shal k401_1 (.block 0 (.loop (.shal k401_2 .skip)))) (.shal k401_3 .skip)))
def z401 : List Rs := [.t .h0 .h4]
def f401 : AF := .mk x401 z401
def k407_0 : KF := fun c i x r h => (fun (x0 : AV) =>
 tR (b_ne x0 x0 h) fun v1 h2 =>
 .ret (T23 v1) h2) (y0 r)
def x407 : AC := (.shal k407_0 .skip)
def z407 : List Rs := [.t .h0 .h2]
def f407 : AF := .mk x407 z407
def k408_1 : KF := fun c i x r h => (fun (x0 : AV) =>
 x T38 h) (y1 r)
def k408_2 : KF := fun c i x r h => (fun (x0 : AV) =>
 tR (ld x0 h) fun v1 h2 =>
 .ret (T22 v1) h2) (y2 r)
def k408_0 : KF := fun c i x r h => (fun (x0 x1 : AV) =>
 tR (o_box 52 (.c x0) .nil h) fun v2 h3 =>
 x (T31 x1) h3) (y0 r) (y1 r)
def p408_0 : List GI := [o d2 (.box 52 r0),m d4 (.c .nils)]
def p408_1 : List GI := [m d6 r1]
def p408_2 : List GI := [o d4 (.ld1 r1),o d5 (.rngm r4)]
def p408_3 : List GI := [.o d6 (.nxt false r5),o d7 (.ext 0 r6)]
def p408_4 : List GI := [o d8 (.ent r5),o d9 (.ext 0 r8),m d3 r9]
def p408_5 : List GI := [m d11 r3]
def p408_6 : List GI := [m d5 r7]
def p408_7 : List GI := [o d8 (.ld1 r2),m d9 r5,o d10 (.bslice 3 1 1 [(pi 0)] [.mk 0 1 r9]),o d11 (.app 3 1 r8 r10),o .no (.st1 r2 r11)]
def p408_8 : List GI := [o d12 (.ld1 r2),m d4 r12]
def p408 : PK := (.coll 334 p408_0 p408_1 p408_2 p408_3 p408_4 p408_5 p408_6 p408_7 p408_8)
def x408 : AC := (.shal k408_0 (.seq (.shal k408_1 (.block 0 (.bad 402))) (.shal k408_2 .skip)))
def z408 : List Rs := [.t .h0 .h4]
def f408 : AF := .prim p408 x408 z408
def k409_4 : KF := fun c i x r h => (fun (x0 x1 x2 x3 x4 x5 x6 x7 x8 : AV) =>
 ifR x8 (tT (c 500 [x0,x1,x2] h) fun v9 h10 =>
 ifR v9 (.ret T38 h10) (.nm (T192 x0 x1 x2 x3 x4 x5 x6 x7) h10)) (.nm (T192 x0 x1 x2 x3 x4 x5 x6 x7) h)) (y0 r) (y1 r) (y2 r) (y3 r) (y8 r) (y9 r) (y10 r) (y11 r) (y68 r)
def k409_5 : KF := fun c i x r h => (fun (x0 x1 x2 x3 x4 x5 x6 x7 x8 : AV) =>
 ifR x8 (tT (c 502 [x0,x1,x2,x7] h) fun v9 h10 =>
 .ex 1 (T192 x0 v9 x2 x3 x4 x5 x6 x7) h10) (.nm (T192 x0 x1 x2 x3 x4 x5 x6 x7) h)) (y0 r) (y1 r) (y2 r) (y3 r) (y8 r) (y9 r) (y10 r) (y11 r) (y87 r)
def k409_8 : KF := fun c i x r h => (fun (x0 x1 x2 x3 x4 x5 x6 x7 x8 x9 : AV) =>
 ifR x9 (tR (b_ge x6 x8 h) fun v10 h11 =>
 tT (c 409 [x0,x1,x5,x3] h11) fun v12 h13 =>
 tR (b_add x5 (pi 1) h13) fun v14 h15 =>
 .nm (T189 x0 v14 x2 x3 v10 x4) h15) (tR (b_ge x7 x8 h) fun v16 h17 =>
 tR (b_add x5 (pi 1) h17) fun v18 h19 =>
 tT (c 409 [x0,v18,x2,x3] h19) fun v20 h21 =>
 .nm (T189 x0 x1 x5 x3 v16 x4) h21)) (y0 r) (y1 r) (y2 r) (y3 r) (y9 r) (y14 r) (y16 r) (y17 r) (y18 r) (y113 r)
def k409_7 : KF := fun c i x r h => (fun (x0 x1 x2 x3 x4 x5 x6 x7 x8 : AV) =>
 tR (b_lt x6 x7 h) fun v9 h10 =>
 x (T194 x0 x1 x2 x3 x4 x5 x6 x7 x8 v9) h10) (y0 r) (y1 r) (y2 r) (y3 r) (y9 r) (y14 r) (y16 r) (y17 r) (y18 r)
def k409_6 : KF := fun c i x r h => (fun (x0 x1 x2 x3 x4 x5 : AV) =>
 tT (c 503 [x0,x1,x2,x5] h) fun v6 h7 =>
 tR (o_ext 0 (.c v6) .nil h7) fun v8 h9 =>
 tR (o_ext 1 (.c v6) .nil h9) fun v10 h11 =>
 tR (b_sub v8 x1 h11) fun v12 h13 =>
 tR (b_sub x2 v8 h13) fun v14 h15 =>
 tR (b_quo x4 (pi 8) h15) fun v16 h17 =>
 x (T193 x0 x1 x2 x3 v10 v8 v12 v14 v16) h17) (y0 r) (y1 r) (y2 r) (y3 r) (y10 r) (y11 r)
def k409_3 : KF := fun c i x r h => (fun (x0 x1 x2 x3 x4 x5 x6 : AV) =>
 tT (c 498 [x0,x1,x2] h) fun v7 h8 =>
 tR (o_ext 0 (.c v7) .nil h8) fun v9 h10 =>
 tR (o_ext 1 (.c v7) .nil h10) fun v11 h12 =>
 tR (b_eq v11 (pi 2) h12) fun v13 h14 =>
 ifR v13 (tT (c 499 [x0,x1,x2] h14) fun v15 h16 =>
 tR (b_sub x2 (pi 1) h16) fun v17 h18 =>
 tR (b_sub v9 x1 h18) fun v19 h20 =>
 tR (b_sub v17 v19 h20) fun v21 h22 =>
 x (T191 x0 x1 x2 x3 x4 x5 x6 v21 (pi 1)) h22) (x (T191 x0 x1 x2 x3 x4 x5 x6 v9 v11) h14)) (y0 r) (y1 r) (y2 r) (y3 r) (y8 r) (y9 r) (y10 r)
def k409_2 : KF := fun c i x r h => (fun (x0 x1 x2 x3 x4 x5 x6 : AV) =>
 tR (u_not x4 h) fun v7 h8 =>
 ifR v7 (tT (c 497 [x0,x1,x2] h8) fun v9 h10 =>
 tR (b_sub x3 (pi 1) h10) fun v11 h12 =>
 x (T190 x0 x1 x2 v11 x4 x5 x6) h12) (x (T190 x0 x1 x2 x3 x4 x5 x6) h8)) (y0 r) (y1 r) (y2 r) (y3 r) (y8 r) (y9 r) (y10 r)
def k409_1 : KF := fun c i x r h => (fun (x0 x1 x2 x3 x4 x5 : AV) =>
 tR (b_sub x2 x1 h) fun v6 h7 =>
 tR (b_le v6 (pi 12) h7) fun v8 h9 =>
 ifR v8 (tT (c 495 [x0,x1,x2] h9) fun v10 h11 =>
 .ret T38 h11) (tR (b_eq x3 (pi 0) h9) fun v12 h13 =>
 ifR v12 (tT (c 496 [x0,x1,x2] h13) fun v14 h15 =>
 .ret T38 h15) (x (T190 x0 x1 x2 x3 x4 x5 v6) h13))) (y0 r) (y1 r) (y2 r) (y3 r) (y8 r) (y9 r)
def k409_0 : KF := fun c i x r h => (fun (x0 x1 x2 x3 : AV) =>
 x (T189 x0 x1 x2 x3 (.bool true) (.bool true)) h) (y0 r) (y1 r) (y2 r) (y3 r)
def x409 : AC := (.shal k409_0 (.block 0 (.loop (.block 1 (.shal k409_1 (.shal k409_2 (.shal k409_3 (.seq (.seq (.ops [m d61 r8,
 m d62 r61,
 .g .h3 .he true d63 (.op (.mv r9)),
 o d64 (.pick r62 r63 (.c (.bool false))),
 m d65 r64,
 .g .h4 .h1 true d66 (.op (.mv r12)),
 .g .h4 .h1 true d67 (.op (.bin .eq r66 a1)),
 o d68 (.pick r65 r67 (.c (.bool false)))]) (.shal k409_4 .skip)) (.seq (.seq (.drw [q 0 (m d73 r1),
 q 0 (o d74 (.bin .gt r73 a0)),
 q 0 (m d75 r74),
 q 0 (.g .h4 .hb true d76 (.op (.mv r0))),
 q 0 (.g .h4 .hb true d77 (.op (.mv r1))),
 q 0 (.g .h4 .hb true d78 (.op (.bin .sub r77 a1))),
 q 0 (.g .h4 .hb true d79 (.op (.ixs 1 r76 r78))),
 q 0 (.g .h4 .hb true d80 (.op (.ld1 r79))),
 q 0 (.g .h4 .hb true d81 (.op (.mv r0))),
 q 0 (.g .h4 .hb true d82 (.op (.mv r11))),
 q 0 (.g .h4 .hb true d83 (.op (.ixs 1 r81 r82))),
 q 0 (.g .h4 .hb true d84 (.op (.ld1 r83))),
 w (.g .h4 .hb true d85 (.call 501 [r80,r84])),
 q 0 (.g .h4 .hb true d86 (.op (.un .not r85))),
 q 0 (o d87 (.pick r75 r86 (.c (.bool false))))]) (.shal k409_5 .skip)) (.shal k409_6 (.shal k409_7 (.shal k409_8 .skip))))))))))))
def z409 : List Rs := []
def f409 : AF := .mk x409 z409
def k425_3 : KF := fun c i x r h => (fun (x0 : AV) =>
 ifR x0 (.ret (T23 (.bool true)) h) (.nm T38 h)) (y4 r)
def k425_2 : KF := fun c i x r h => (fun (x0 : AV) =>
 tR (b_seq x0 (.str [116,97,98,108,101]) h) fun v1 h2 =>
 ifR v1 (x (T22 v1) h2) (tR (b_seq x0 (.str [102,105,108,116,101,114]) h2) fun v3 h4 =>
 ifR v3 (x (T22 v3) h4) (tR (b_seq x0 (.str [112,114,111,106,101,99,116]) h4) fun v5 h6 =>
 ifR v5 (x (T22 v5) h6) (tR (b_seq x0 (.str [106,111,105,110]) h6) fun v7 h8 =>
 ifR v7 (x (T22 v7) h8) (tR (b_seq x0 (.str [117,110,105,111,110]) h8) fun v9 h10 =>
 ifR v9 (x (T22 v9) h10) (tR (b_seq x0 (.str [100,105,115,116,105,110,99,116]) h10) fun v11 h12 =>
 ifR v11 (x (T22 v11) h12) (tR (b_seq x0 (.str [103,114,111,117,112]) h12) fun v13 h14 =>
 ifR v13 (x (T22 v13) h14) (tR (b_seq x0 (.str [99,111,117,110,116]) h14) fun v15 h16 =>
 ifR v15 (x (T22 v15) h16) (tR (b_seq x0 (.str [115,117,109]) h16) fun v17 h18 =>
 ifR v17 (x (T22 v17) h18) (tR (b_seq x0 (.str [109,105,110]) h18) fun v19 h20 =>
 ifR v19 (x (T22 v19) h20) (tR (b_seq x0 (.str [109,97,120]) h20) fun v21 h22 =>
 ifR v21 (x (T22 v21) h22) (tR (b_seq x0 (.str [97,100,100]) h22) fun v23 h24 =>
 ifR v23 (x (T22 v23) h24) (tR (b_seq x0 (.str [115,117,98]) h24) fun v25 h26 =>
 ifR v25 (x (T22 v25) h26) (tR (b_seq x0 (.str [109,117,108]) h26) fun v27 h28 =>
 ifR v27 (x (T22 v27) h28) (tR (b_seq x0 (.str [110,101,103]) h28) fun v29 h30 =>
 ifR v29 (x (T22 v29) h30) (tR (b_seq x0 (.str [101,113]) h30) fun v31 h32 =>
 ifR v31 (x (T22 v31) h32) (tR (b_seq x0 (.str [108,116]) h32) fun v33 h34 =>
 ifR v33 (x (T22 v33) h34) (tR (b_seq x0 (.str [97,110,100]) h34) fun v35 h36 =>
 ifR v35 (x (T22 v35) h36) (tR (b_seq x0 (.str [111,114]) h36) fun v37 h38 =>
 ifR v37 (x (T22 v37) h38) (tR (b_seq x0 (.str [110,111,116]) h38) fun v39 h40 =>
 ifR v39 (x (T22 v39) h40) (tR (b_seq x0 (.str [99,97,116]) h40) fun v41 h42 =>
 ifR v41 (x (T22 v41) h42) (tR (b_seq x0 (.str [108,101,110]) h42) fun v43 h44 =>
 ifR v43 (x (T22 v43) h44) (tR (b_seq x0 (.str [105,102]) h44) fun v45 h46 =>
 x (T22 v45) h46))))))))))))))))))))))) (y3 r)
def k425_1 : KF := fun c i x r h => (fun (x0 : AV) =>
 x (T32 x0) h) (y0 r)
def k425_4 : KF := fun c i x r h => .ret (T23 (.bool false)) h
def k425_0 : KF := fun c i x r h => (fun (x0 : AV) =>
 x (T1 x0) h) (y0 r)
def x425 : AC := (.shal k425_0 (.seq (.shal k425_1 (.block 0 (.shal k425_2 (.shal k425_3 .skip)))) (.shal k425_4 .skip)))
def z425 : List Rs := [.t .h0 .h2]
def f425 : AF := .mk x425 z425
def k426_2 : KF := fun c i x r h => (fun (x0 x1 x2 x3 : AV) =>
 tR (b_lt x3 x2 h) fun v4 h5 =>
 ifR v4 (tR (ix 2 x0 x3 h5) fun v6 h7 =>
 tR (o_ldn 2 (.c v6) .nil h7) fun v8 h9 =>
 tT (AV.onFn x1 (fun f l => c f (List.append [v8] l) h9) (.err 202)) fun v10 h11 =>
 ifR v10 (.ret (T22 x3) h11) (tR (b_add x3 (pi 1) h11) fun v12 h13 =>
 .nm (T173 x0 x1 x2 v12) h13)) (.ex 0 (T173 x0 x1 x2 x3) h5)) (y0 r) (y1 r) (y7 r) (y8 r)
def k426_1 : KF := fun c i x r h => (fun (x0 x1 : AV) =>
 tR (len x0 h) fun v2 h3 =>
 x (T173 x0 x1 v2 (pi 0)) h3) (y0 r) (y1 r)
def k426_3 : KF := fun c i x r h => .ret (T22 (ni 0)) h
def k426_0 : KF := fun c i x r h => (fun (x0 x1 : AV) =>
 x (T50 x0 x1) h) (y0 r) (y1 r)
def x426 : AC := (.shal k426_0 (.seq (.shal k426_1 (.block 0 (.loop (.shal k426_2 .skip)))) (.shal k426_3 .skip)))
def z426 : List Rs := [.t .h0 .h4]
def f426 : AF := .mk x426 z426
def k427_0 : KF := fun c i x r h => (fun (x0 x1 : AV) =>
 tR (o_box 80 (.c x0) .nil h) fun v2 h3 =>
 tR (fa 0 v2 h3) fun v4 h5 =>
 tR (ld v4 h5) fun v6 h7 =>
 tR (ld x1 h7) fun v8 h9 =>
 tR (b_seq v6 v8 h9) fun v10 h11 =>
 .ret (T32 v10) h11) (y0 r) (y1 r)
def x427 : AC := (.shal k427_0 .skip)
def z427 : List Rs := [.t .h0 .h3]
def f427 : AF := .mk x427 z427
def k428_3 : KF := fun c i x r h => (fun (x0 x1 x2 x3 x4 x5 x6 : AV) =>
 ifR x6 (.nm (T189 x0 x1 x2 x3 x4 x5) h) (.ex 2 (T189 x0 x1 x2 x3 x4 x5) h)) (y0 r) (y1 r) (y2 r) (y3 r) (y8 r) (y9 r) (y34 r)
def k428_4 : KF := fun c i x r h => (fun (x0 x1 x2 x3 x4 x5 : AV) =>
 tR (b_sub x5 (pi 1) h) fun v6 h7 =>
 .nm (T189 x0 x1 x2 x3 x4 v6) h7) (y0 r) (y1 r) (y2 r) (y3 r) (y8 r) (y9 r)
def k428_2 : KF := fun c i x r h => (fun (x0 x1 x2 x3 x4 : AV) =>
 x (T189 x0 x1 x2 x3 x4 x4) h) (y0 r) (y1 r) (y2 r) (y3 r) (y8 r)
def k428_5 : KF := fun c i x r h => (fun (x0 x1 x2 x3 x4 : AV) =>
 tR (b_add x4 (pi 1) h) fun v5 h6 =>
 .nm (T195 x0 x1 x2 x3 v5) h6) (y0 r) (y1 r) (y2 r) (y3 r) (y8 r)
def k428_1 : KF := fun c i x r h => (fun (x0 x1 x2 x3 x4 : AV) =>
 tR (b_lt x4 x2 h) fun v5 h6 =>
 ifR v5 (x (T195 x0 x1 x2 x3 x4) h6) (.ex 0 T38 h6)) (y0 r) (y1 r) (y2 r) (y3 r) (y8 r)
def k428_0 : KF := fun c i x r h => (fun (x0 x1 x2 x3 : AV) =>
 tR (b_add x1 (pi 1) h) fun v4 h5 =>
 x (T195 x0 x1 x2 x3 v4) h5) (y0 r) (y1 r) (y2 r) (y3 r)
def x428 : AC := (.shal k428_0 (.block 0 (.loop (.shal k428_1 (.seq (.block 1 (.shal k428_2 (.block 2 (.loop (.seq (.seq (.drw [q 0 (m d18 r9),
 q 0 (m d19 r1),
 q 0 (o d20 (.bin .gt r18 r19)),
 q 0 (m d21 r20),
 q 0 (.g .h1 .h5 true d22 (.op (.mv r3))),
 q 0 (.g .h1 .h5 true d23 (.op (.mv r0))),
 q 0 (.g .h1 .h5 true d24 (.op (.mv r9))),
 q 0 (.g .h1 .h5 true d25 (.op (.ixs 2 r23 r24))),
 q 0 (.g .h1 .h5 true d26 (.op (.ldn 2 r25))),
 q 0 (.g .h1 .h5 true d27 (.op (.mv r0))),
 q 0 (.g .h1 .h5 true d28 (.op (.mv r9))),
 q 0 (.g .h1 .h5 true d29 (.op (.bin .sub r28 a1))),
 q 0 (.g .h1 .h5 true d30 (.op (.ixs 2 r27 r29))),
 q 0 (.g .h1 .h5 true d31 (.op (.ldn 2 r30))),
 w (.g .h1 .h5 true d32 (.calld r22 [r26,r31])),
 q 0 (.g .h1 .h5 true d33 (.op (.bin .lt r32 a0))),
 q 0 (o d34 (.pick r21 r33 (.c (.bool false))))]) (.shal k428_3 .skip)) (.seq (.block 3 (.drw [q 0 (m d37 r0),
 q 0 (m d38 r9),
 q 0 (m d42 r0),
 q 0 (m d43 r9),
 q 0 (o d44 (.bin .sub r43 a1)),
 q 0 (o d45 (.ixs 2 r42 r44)),
 q 0 (o d46 (.ldn 2 r45)),
 q 0 (m d47 r0),
 q 0 (m d48 r9),
 q 0 (o d49 (.ixs 2 r47 r48)),
 q 0 (o d50 (.ldn 2 r49)),
 q 0 (o d51 (.ixs 2 r37 r38)),
 w (o .no (.stn 2 r51 r46)),
 q 1 (m d39 r0),
 q 1 (m d40 r9),
 q 1 (o d41 (.bin .sub r40 a1)),
 q 0 (o d52 (.ixs 2 r39 r41)),
 w (o .no (.stn 2 r52 r50))])) (.shal k428_4 .skip))))))) (.shal k428_5 .skip))))))
def z428 : List Rs := []
def f428 : AF := .mk x428 z428
def k495_3 : KF := fun c i x r h => (fun (x0 x1 x2 x3 x4 x5 : AV) =>
 ifR x5 (.nm (T147 x0 x1 x2 x3 x4) h) (.ex 2 (T147 x0 x1 x2 x3 x4) h)) (y0 r) (y1 r) (y2 r) (y6 r) (y7 r) (y30 r)
def k495_4 : KF := fun c i x r h => (fun (x0 x1 x2 x3 x4 : AV) =>
 tR (b_sub x4 (pi 1) h) fun v5 h6 =>
 .nm (T147 x0 x1 x2 x3 v5) h6) (y0 r) (y1 r) (y2 r) (y6 r) (y7 r)
def k495_2 : KF := fun c i x r h => (fun (x0 x1 x2 x3 : AV) =>
 x (T147 x0 x1 x2 x3 x3) h) (y0 r) (y1 r) (y2 r) (y6 r)
def k495_5 : KF := fun c i x r h => (fun (x0 x1 x2 x3 : AV) =>
 tR (b_add x3 (pi 1) h) fun v4 h5 =>
 .nm (T90 x0 x1 x2 v4) h5) (y0 r) (y1 r) (y2 r) (y6 r)
def k495_1 : KF := fun c i x r h => (fun (x0 x1 x2 x3 : AV) =>
 tR (b_lt x3 x2 h) fun v4 h5 =>
 ifR v4 (x (T90 x0 x1 x2 x3) h5) (.ex 0 T38 h5)) (y0 r) (y1 r) (y2 r) (y6 r)
def k495_0 : KF := fun c i x r h => (fun (x0 x1 x2 : AV) =>
 tR (b_add x1 (pi 1) h) fun v3 h4 =>
 x (T90 x0 x1 x2 v3) h4) (y0 r) (y1 r) (y2 r)
def x495 : AC := (.shal k495_0 (.block 0 (.loop (.shal k495_1 (.seq (.block 1 (.shal k495_2 (.block 2 (.loop (.seq (.seq (.drw [q 0 (m d16 r7),
 q 0 (m d17 r1),
 q 0 (o d18 (.bin .gt r16 r17)),
 q 0 (m d19 r18),
 q 0 (.g .h1 .h3 true d20 (.op (.mv r0))),
 q 0 (.g .h1 .h3 true d21 (.op (.mv r7))),
 q 0 (.g .h1 .h3 true d22 (.op (.ixs 1 r20 r21))),
 q 0 (.g .h1 .h3 true d23 (.op (.ld1 r22))),
 q 0 (.g .h1 .h3 true d24 (.op (.mv r0))),
 q 0 (.g .h1 .h3 true d25 (.op (.mv r7))),
 q 0 (.g .h1 .h3 true d26 (.op (.bin .sub r25 a1))),
 q 0 (.g .h1 .h3 true d27 (.op (.ixs 1 r24 r26))),
 q 0 (.g .h1 .h3 true d28 (.op (.ld1 r27))),
 w (.g .h1 .h3 true d29 (.call 501 [r23,r28])),
 q 0 (o d30 (.pick r19 r29 (.c (.bool false))))]) (.shal k495_3 .skip)) (.seq (.block 3 (.drw [q 0 (m d33 r0),
 q 0 (m d34 r7),
 q 0 (m d38 r0),
 q 0 (m d39 r7),
 q 0 (o d40 (.bin .sub r39 a1)),
 q 0 (o d41 (.ixs 1 r38 r40)),
 q 0 (o d42 (.ld1 r41)),
 q 0 (m d43 r0),
 q 0 (m d44 r7),
 q 0 (o d45 (.ixs 1 r43 r44)),
 q 0 (o d46 (.ld1 r45)),
 q 0 (o d47 (.ixs 1 r33 r34)),
 w (o .no (.st1 r47 r42)),
 q 1 (m d35 r0),
 q 1 (m d36 r7),
 q 1 (o d37 (.bin .sub r36 a1)),
 q 0 (o d48 (.ixs 1 r35 r37)),
 w (o .no (.st1 r48 r46))])) (.shal k495_4 .skip))))))) (.shal k495_5 .skip))))))
def z495 : List Rs := []
def f495 : AF := .mk x495 z495
def k501_0 : KF := fun c i x r h => (fun (x0 x1 : AV) =>
 x (T50 x0 x1) h) (y0 r) (y1 r)
def x501 : AC := (.shal k501_0 (.seq (.ops [m d5 r0,
 .o d6 (.call 407 [r5]),
 m d7 r6,
 .g .h0 .h7 true d8 (.op (.mv r1)),
 .g .h0 .h7 true d9 (.call 407 [r8]),
 .g .h0 .h7 true d10 (.op (.un .not r9)),
 o d11 (.pick r7 r10 (.c (.bool false))),
 m d12 r11,
 .g .h0 .hc false d13 (.op (.mv r0)),
 .g .h0 .hc false d14 (.op (.mv r1)),
 .g .h0 .hc false d15 (.op (.bin .lt r13 r14)),
 o d16 (.pick r12 (.c (.bool true)) r15),
 m d4 r16]) .ret))
def z501 : List Rs := [.t .h0 .h4]
def f501 : AF := .mk x501 z501
def k638_0 : KF := fun c i x r h => (fun (x0 x1 x2 x3 x4 : AV) =>
 ifR x4 (tT (c 639 [x0,x1,x2,x3] h) fun v5 h6 =>
 .nm T38 h6) (.nm T38 h)) (y0 r) (y1 r) (y2 r) (y3 r) (y4 r)
def x638 : AC := (.seq (.drw [q 0 (m d19 r3),
 w (o d20 (.bslice 9 1 1 [(.str [])] [.mk 0 1 r19])),
 q 1 (m d12 r0),
 q 1 (m d13 r1),
 q 1 (o d14 (.nilc r12)),
 q 1 (o d15 (.fad 0 r14)),
 q 1 (o d16 (.ixa 5 3 r15 r13)),
 q 1 (o d17 (.fad 2 r16)),
 q 1 (o d18 (.ld1 r17)),
 w (o d21 (.app 9 1 r18 r20)),
 q 2 (m d10 r0),
 q 2 (m d11 r1),
 q 2 (o d22 (.nilc r10)),
 q 2 (o d23 (.fad 0 r22)),
 q 0 (o d24 (.ixa 5 3 r23 r11)),
 q 0 (o d25 (.fad 2 r24)),
 w (o .no (.st1 r25 r21))]) (.shal k638_0 .skip))
def z638 : List Rs := []
def f638 : AF := .mk x638 z638
def k639_0 : KF := fun c i x r h => (fun (x0 x1 x2 x3 : AV) =>
 tR (nic x0 h) fun v4 h5 =>
 tR (fa 15 v4 h5) fun v6 h7 =>
 tR (ld v6 h7) fun v8 h9 =>
 tR (o_build [(pi 0),(pi 0),(.str []),(pi 0)] [.mk 0 1 (.c (pi 1)),.mk 1 1 (.c x1),.mk 2 1 (.c x3),.mk 3 1 (.c x2)] .nil h9) fun v10 h11 =>
 tR (o_bslice 106 4 1 [(pi 0),(pi 0),(.str []),(pi 0)] [.mk 0 4 (.c v10)] .nil h11) fun v12 h13 =>
 tR (appV 106 4 v8 v12 h13) fun v14 h15 =>
 tR (nic x0 h15) fun v16 h17 =>
 tR (fa 15 v16 h17) fun v18 h19 =>
 tR (sto v18 v14 h19) fun v20 h21 =>
 .nm T38 h21) (y0 r) (y1 r) (y2 r) (y3 r)
def x639 : AC := (.shal k639_0 .skip)
def z639 : List Rs := []
def f639 : AF := .mk x639 z639
def k641_0 : KF := fun c i x r h => (fun (x0 x1 x2 x3 : AV) =>
 tR (o_build [(pi 0),(.str []),.nils] [.mk 0 1 (.c x2),.mk 1 1 (.c x3),.mk 2 1 (.c .nils)] .nil h) fun v4 h5 =>
 tR (nic x0 h5) fun v6 h7 =>
 tR (fa 0 v6 h7) fun v8 h9 =>
 tR (o_ixa 5 3 (.c v8) (.c x1) .nil h9) fun v10 h11 =>
 tR (o_stn 3 (.c v10) (.c v4) .nil h11) fun v12 h13 =>
 .nm T38 h13) (y0 r) (y1 r) (y2 r) (y3 r)
def x641 : AC := (.shal k641_0 .skip)
def z641 : List Rs := []
def f641 : AF := .mk x641 z641
def k642_0 : KF := fun c i x r h => (fun (x0 x1 x2 x3 : AV) =>
 tR (nic x0 h) fun v4 h5 =>
 tR (fa 15 v4 h5) fun v6 h7 =>
 tR (ld v6 h7) fun v8 h9 =>
 tR (o_build [(pi 0),(pi 0),(.str []),(pi 0)] [.mk 0 1 (.c (pi 2)),.mk 1 1 (.c x1),.mk 2 1 (.c x3),.mk 3 1 (.c x2)] .nil h9) fun v10 h11 =>
 tR (o_bslice 106 4 1 [(pi 0),(pi 0),(.str []),(pi 0)] [.mk 0 4 (.c v10)] .nil h11) fun v12 h13 =>
 tR (appV 106 4 v8 v12 h13) fun v14 h15 =>
 tR (nic x0 h15) fun v16 h17 =>
 tR (fa 15 v16 h17) fun v18 h19 =>
 tR (sto v18 v14 h19) fun v20 h21 =>
 .nm T38 h21) (y0 r) (y1 r) (y2 r) (y3 r)
def x642 : AC := (.shal k642_0 .skip)
def z642 : List Rs := []
def f642 : AF := .mk x642 z642
def row0 : F1 := (.mk .none .none .none f3 f4 f5 f6 f7 f8 f9 f10 f11 f12 f13 f14 f15)
def row1 : F1 := (.mk f16 f17 f18 f19 f20 f21 f22 f23 f24 f25 f26 f27 .none f29 f30 f31)
def row2 : F1 := (.mk f32 f33 f34 f35 f36 f37 f38 f39 f40 f41 .none .none f44 f45 f46 .none)
def row3 : F1 := (.mk f48 f49 f50 f51 f52 f53 .none f55 f56 f57 f58 f59 f60 f61 f62 f63)
def row4 : F1 := (.mk f64 f65 .none f67 f68 .none f70 f71 f72 f73 f74 f75 f76 f77 f78 f79)
def row5 : F1 := (.mk f80 f81 .none f83 f84 .none .none .none .none f89 f90 f91 f92 f93 f94 f95)
def row6 : F1 := (.mk f96 f97 f98 f99 f100 .none f102 f103 .none f105 f106 f107 .none f109 f110 f111)
def row7 : F1 := (.mk f112 f113 f114 f115 f116 f117 f118 f119 f120 f121 f122 f123 f124 f125 f126 .none)
def row8 : F1 := (.mk .none f129 f130 f131 f132 f133 .none f135 .none .none .none f139 f140 f141 f142 f143)
def row9 : F1 := (.mk f144 .none f146 f147 .none .none f150 f151 f152 f153 f154 f155 f156 f157 .none f159)
def row10 : F1 := (.mk f160 f161 f162 .none .none .none f166 .none .none .none .none f171 .none .none f174 f175)
def row11 : F1 := (.mk .none f177 f178 f179 .none f181 f182 f183 f184 f185 f186 .none f188 f189 f190 f191)
def row12 : F1 := (.mk f192 f193 f194 f195 f196 f197 f198 f199 f200 f201 .none f203 f204 f205 f206 f207)
def row13 : F1 := (.mk f208 .none .none .none .none .none f214 f215 f216 f217 .none f219 .none .none .none f223)
def row14 : F1 := (.mk .none f225 .none f227 .none .none .none f231 f232 .none .none .none .none .none .none .none)
def row15 : F1 := (.mk .none .none f242 .none f244 .none .none .none .none .none .none f251 .none f253 f254 f255)
def row16 : F1 := (.mk f256 f257 f258 f259 f260 f261 f262 f263 f264 f265 f266 f267 f268 f269 f270 .none)
def row17 : F1 := (.mk .none .none .none .none .none .none .none .none .none f281 .none .none .none f285 .none .none)
def row18 : F1 := (.mk f288 f289 f290 .none .none .none .none .none .none .none .none .none .none .none .none .none)
def row19 : F1 := (.mk .none .none .none .none .none .none .none .none .none .none .none .none f316 .none f318 f319)
def row20 : F1 := (.mk .none .none .none f323 .none .none .none .none .none f329 f330 f331 f332 f333 .none .none)
def row21 : F1 := (.mk .none .none .none .none .none .none .none f343 f344 f345 f346 .none .none .none .none .none)
def row23 : F1 := (.mk .none .none .none .none .none f373 .none .none .none .none .none .none .none .none .none .none)
def row24 : F1 := (.mk .none .none .none .none .none .none .none .none .none .none .none .none .none .none f398 .none)
def row25 : F1 := (.mk .none f401 .none .none .none .none .none f407 f408 f409 .none .none .none .none .none .none)
def row26 : F1 := (.mk .none .none .none .none .none .none .none .none .none f425 f426 f427 f428 .none .none .none)
def row30 : F1 := (.mk .none .none .none .none .none .none .none .none .none .none .none .none .none .none .none f495)
def row31 : F1 := (.mk .none .none .none .none .none f501 .none .none .none .none .none .none .none .none .none .none)
def row39 : F1 := (.mk .none .none .none .none .none .none .none .none .none .none .none .none .none .none f638 f639)
def row40 : F1 := (.mk .none f641 f642 .none .none .none .none .none .none .none .none .none .none .none .none .none)
def page0 : F2 := .mk row0 row1 row2 row3 row4 row5 row6 row7 row8 row9 row10 row11 row12 row13 row14 row15
def page1 : F2 := .mk row16 row17 row18 row19 row20 row21 .nil row23 row24 row25 row26 .nil .nil .nil row30 row31
def page2 : F2 := .mk .nil .nil .nil .nil .nil .nil .nil row39 row40 .nil .nil .nil .nil .nil .nil .nil
def pg : Pg := .mk (.mk page0 page1 page2 .nil .nil .nil .nil .nil .nil .nil .nil .nil .nil .nil .nil .nil) [.mk 91 2 47, .mk 84 2 640, .mk 84 1 639, .mk 84 0 641, .mk 66 0 69, .mk 84 4 638, .mk 66 4 71, .mk 84 3 642]
end
end Go.Am.Seat
