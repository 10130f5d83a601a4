/- The same code in a form that runs faster, written by program. Nothing is asked. -/
import Derived.Test.YtajgibhgkfombaaGreatDoorFast0
set_option linter.all false
namespace Go.Am.Seat
set_option linter.unusedVariables false
set_option maxRecDepth 20000
noncomputable section
def k202_0 : KF := fun c i x r h => (fun (x0 x1 x2 x3 : AV) =>
 tR (o_ldn 2 (.c x1) .nil h) fun v4 h5 =>
 tT (c 120 [x0,v4] h5) fun v6 h7 =>
 tR (ld x2 h7) fun v8 h9 =>
 tT (c 57 [x0,v8] h9) fun v10 h11 =>
 tR (ld x3 h11) fun v12 h13 =>
 tR (nic v12 h13) fun v14 h15 =>
 tR (fa 6 v14 h15) fun v16 h17 =>
 tR (ld v16 h17) fun v18 h19 =>
 tT (c 57 [x0,v18] h19) fun v20 h21 =>
 .nm T5 h21) (y0 r) (y1 r) (y2 r) (y3 r)
def x202 : AC := (.shal k202_0 .skip)
def z202 : List Rs := []
def f202 : AF := .mk x202 z202
def k203_0 : KF := fun c i x r h => (fun (x0 x1 : AV) =>
 ifR x1 (.ret T5 h) (.nm (T13 x0) h)) (y0 r) (y31 r)
def k203_4 : KF := fun c i x r h => (fun (x0 x1 x2 x3 : AV) =>
 tR (b_lt x3 x2 h) fun v4 h5 =>
 ifR v4 (tR (ix 1 x1 x3 h5) fun v6 h7 =>
 tR (ld v6 h7) fun v8 h9 =>
 tR (nic x0 h9) fun v10 h11 =>
 tR (fa 21 v10 h11) fun v12 h13 =>
 tR (ld v12 h13) fun v14 h15 =>
 tR (b_add v8 (pi 1) h15) fun v16 h17 =>
 tR (maxV false [v14,v16] h17) fun v18 h19 =>
 tR (nic x0 h19) fun v20 h21 =>
 tR (fa 21 v20 h21) fun v22 h23 =>
 tR (sto v22 v18 h23) fun v24 h25 =>
 tR (b_add x3 (pi 1) h25) fun v26 h27 =>
 .nm (T141 x0 x1 x2 v26) h27) (.ex 0 (T141 x0 x1 x2 x3) h5)) (y0 r) (y84 r) (y85 r) (y86 r)
def k203_3 : KF := fun c i x r h => (fun (x0 : AV) =>
 tR (nic x0 h) fun v1 h2 =>
 tR (fa 8 v1 h2) fun v3 h4 =>
 tR (ld v3 h4) fun v5 h6 =>
 tT (c 220 [v5] h6) fun v7 h8 =>
 tR (len v7 h8) fun v9 h10 =>
 x (T141 x0 v7 v9 (pi 0)) h10) (y0 r)
def k203_6 : KF := fun c i x r h => (fun (x0 x1 x2 : AV) =>
 tR (b_add x1 (pi 1) h) fun v3 h4 =>
 .nm (T142 x0 v3 x2) h4) (y0 r) (y7 r) (y8 r)
def k203_5 : KF := fun c i x r h => (fun (x0 x1 x2 : AV) =>
 tR (b_lt x1 x2 h) fun v3 h4 =>
 ifR v3 (tR (nic x0 h4) fun v5 h6 =>
 tR (fa 9 v5 h6) fun v7 h8 =>
 tR (ld v7 h8) fun v9 h10 =>
 tT (c 162 [v9,x1] h10) fun v11 h12 =>
 tR (o_ext 0 (.c v11) .nil h12) fun v13 h14 =>
 tR (o_ext 1 (.c v11) .nil h14) fun v15 h16 =>
 tR (u_not v15 h16) fun v17 h18 =>
 ifR v17 (tT (c 199 [x0,x1,(.str [])] h18) fun v19 h20 =>
 x (T142 x0 x1 x2) h20) (x (T142 x0 x1 x2) h18)) (.ex 2 (T13 x0) h4)) (y0 r) (y7 r) (y8 r)
def k203_8 : KF := fun c i x r h => (fun (x0 x1 x2 : AV) =>
 tR (b_lt x2 x1 h) fun v3 h4 =>
 ifR v3 (tR (nic x0 h4) fun v5 h6 =>
 tR (fa 17 v5 h6) fun v7 h8 =>
 tR (ld v7 h8) fun v9 h10 =>
 tR (ix 6 v9 x2 h10) fun v11 h12 =>
 tR (fa 5 v11 h12) fun v13 h14 =>
 tR (sto v13 (ni 0) h14) fun v15 h16 =>
 tR (b_add x2 (pi 1) h16) fun v17 h18 =>
 .nm (T143 x0 x1 v17) h18) (.ex 4 (T143 x0 x1 x2) h4)) (y0 r) (y133 r) (y134 r)
def k203_7 : KF := fun c i x r h => (fun (x0 : AV) =>
 tR (nic x0 h) fun v1 h2 =>
 tR (fa 17 v1 h2) fun v3 h4 =>
 tR (ld v3 h4) fun v5 h6 =>
 tR (len v5 h6) fun v7 h8 =>
 x (T143 x0 v7 (pi 0)) h8) (y0 r)
def k203_9 : KF := fun c i x r h => (fun (x0 : AV) =>
 tT (c 143 [x0] h) fun v1 h2 =>
 .nm T5 h2) (y0 r)
def k203_2 : KF := fun c i x r h => (fun (x0 x1 x2 x3 : AV) =>
 tR (u_not x3 h) fun v4 h5 =>
 ifR v4 (tR (nic x0 h5) fun v6 h7 =>
 tR (fa 19 v6 h7) fun v8 h9 =>
 tR (sto v8 (pi 0) h9) fun v10 h11 =>
 .ret T5 h11) (tQ (nic x0 h5) fun v12 =>
 tQ (fa 8 v12 h5) fun v13 =>
 tQ (ld v13 h5) fun v14 =>
 tQ (nic x0 h5) fun v15 =>
 tQ (fa 1 v15 h5) fun v16 =>
 tQ (ld v16 h5) fun v17 =>
 tQ (o_ldn 2 (.c x1) .nil h5) fun v18 =>
 tX (c 210 [v14,v17,v18,x2] h5) fun v19 h20 =>
 tR (nic x0 h20) fun v21 h22 =>
 tR (fa 19 v21 h22) fun v23 h24 =>
 tR (sto v23 (pi 2) h24) fun v25 h26 =>
 x (T13 x0) h26)) (y0 r) (y2 r) (y3 r) (y4 r)
def k203_1 : KF := fun c i x r h => (fun (x0 : AV) =>
 tR (nic x0 h) fun v1 h2 =>
 tR (fa 8 v1 h2) fun v3 h4 =>
 tR (ld v3 h4) fun v5 h6 =>
 tT (c 209 [v5] h6) fun v7 h8 =>
 tR (o_alloc 208 2 (.k1 (.mk (pi 0) (pi 0) .undef .undef .undef .undef .undef .undef .undef .undef .undef .undef .undef .undef .undef .undef)) .nil h8) fun v9 h10 =>
 tR (o_stn 2 (.c v9) (.c v7) .nil h10) fun v11 h12 =>
 x (T119 x0 v9) h12) (y0 r)
def x203 : AC := (.seq (.seq (.drw [q 0 (m d12 r0),
 q 0 (o d13 (.nilc r12)),
 q 0 (o d14 (.fad 19 r13)),
 q 0 (o d15 (.ld1 r14)),
 q 0 (o d16 (.bin .ne r15 a1)),
 q 0 (m d17 r16),
 q 0 (.g .h1 .h1 false d18 (.op (.mv r0))),
 q 0 (.g .h1 .h1 false d19 (.op (.nilc r18))),
 q 0 (.g .h1 .h1 false d20 (.op (.fad 20 r19))),
 q 0 (.g .h1 .h1 false d21 (.op (.ld1 r20))),
 q 0 (.g .h1 .h1 false d22 (.op (.lenm r21))),
 q 0 (.g .h1 .h1 false d25 (.op (.mv r0))),
 q 0 (.g .h1 .h1 false d26 (.op (.nilc r25))),
 q 0 (.g .h1 .h1 false d27 (.op (.fad 0 r26))),
 q 0 (.g .h1 .h1 false d28 (.op (.ld1 r27))),
 w (.g .h1 .h1 false d29 (.call 65 [r28])),
 q 1 (.g .h1 .h1 false d23 (.op (.bin .add r22 a1))),
 q 1 (.g .h1 .h1 false d24 (.op (.bin .mul a2 r23))),
 q 0 (.g .h1 .h1 false d30 (.op (.bin .le r24 r29))),
 q 0 (o d31 (.pick r17 (.c (.bool true)) r30))]) (.shal k203_0 .skip)) (.shal k203_1 (.seq (.drw [q 0 (m d40 r0),
 q 0 (o d41 (.nilc r40)),
 q 0 (o d42 (.fad 9 r41)),
 q 0 (o d43 (.ld1 r42)),
 w (.o d44 (.call 101 [r43])),
 q 1 (m d38 r0),
 q 1 (o d39 (.ldn 2 r2)),
 w (.o d45 (.call 204 [r38,r39,r44])),
 q 0 (m d37 r45),
 q 0 (o d46 (.ext 0 r37)),
 q 0 (o d47 (.ext 1 r37)),
 q 0 (m d3 r46),
 q 0 (m d4 r47)]) (.shal k203_2 (.seq (.drw [q 0 (m d68 r0),
 q 0 (o d69 (.nilc r68)),
 q 0 (o d70 (.fad 9 r69)),
 q 0 (o d71 (.ld1 r70)),
 w (.o d72 (.call 101 [r71])),
 q 1 (m d67 r0),
 q 1 (m d73 r0),
 q 1 (o d74 (.nilc r73)),
 q 1 (o d75 (.fad 10 r74)),
 q 1 (o d76 (.ld1 r75)),
 q 0 (o d77 (.max false [r72,r76])),
 q 0 (o d78 (.nilc r67)),
 q 0 (o d79 (.fad 21 r78)),
 w (o .no (.st1 r79 r77))]) (.seq (.shal k203_3 (.block 0 (.loop (.shal k203_4 .skip)))) (.seq (.seq (.drw [q 0 (m d101 r0),
 q 0 (o d102 (.nilc r101)),
 q 0 (o d103 (.fad 9 r102)),
 q 0 (o d104 (.ld1 r103)),
 w (.o d105 (.call 101 [r104])),
 q 1 (m d106 r0),
 q 1 (o d107 (.nilc r106)),
 q 1 (o d108 (.fad 21 r107)),
 q 1 (o d109 (.ld1 r108)),
 q 0 (m d7 r105),
 q 0 (m d8 r109)]) (.block 2 (.loop (.shal k203_5 (.shal k203_6 .skip))))) (.seq (.shal k203_7 (.block 4 (.loop (.shal k203_8 .skip)))) (.shal k203_9 .skip)))))))))
def z203 : List Rs := []
def f203 : AF := .mk x203 z203
def k204_1 : KF := fun c i x r h => (fun (x0 x1 x2 x3 : AV) =>
 ifR x3 (.ret (T12 .nils (.bool false)) h) (.nm (T144 x0 x1 x2) h)) (y0 r) (y2 r) (y4 r) (y23 r)
def k204_2 : KF := fun c i x r h => (fun (x0 x1 x2 : AV) =>
 tQ (nic x0 h) fun v3 =>
 tQ (fa 7 v3 h) fun v4 =>
 tQ (ld v4 h) fun v5 =>
 tQ (o_ldn 2 (.c x2) .nil h) fun v6 =>
 tX (c 106 [v5,v6,x1] h) fun v7 h8 =>
 tQ (o_ext 0 (.c v7) .nil h8) fun v9 =>
 tQ (o_ext 1 (.c v7) .nil h8) fun v10 =>
 .ret (T12 v10 v9) h8) (y0 r) (y2 r) (y4 r)
def k204_0 : KF := fun c i x r h => (fun (x0 x1 x2 : AV) =>
 tR (o_box 208 (.c x1) .nil h) fun v3 h4 =>
 x (T144 x0 x2 v3) h4) (y0 r) (y1 r) (y2 r)
def x204 : AC := (.shal k204_0 (.seq (.seq (.drw [q 0 (m d10 r0),
 q 0 (o d11 (.nilc r10)),
 q 0 (o d12 (.fad 7 r11)),
 q 0 (o d13 (.ld1 r12)),
 w (.o d14 (.call 123 [r13])),
 q 1 (o d15 (.ldn 2 r4)),
 w (.o d16 (.call 166 [r14,r15])),
 q 0 (o d17 (.un .not r16)),
 q 0 (m d18 r17),
 q 0 (.g .h1 .h2 false d19 (.op (.mv r0))),
 q 0 (.g .h1 .h2 false d20 (.op (.mkf 263 [r4]))),
 w (.g .h1 .h2 false d21 (.call 216 [r19,(.c (.bool true)),a1,r20])),
 q 0 (.g .h1 .h2 false d22 (.op (.un .not r21))),
 q 0 (o d23 (.pick r18 (.c (.bool true)) r22))]) (.shal k204_1 .skip)) (.shal k204_2 .skip)))
def z204 : List Rs := [.t .h0 .h6,.t .h0 .h7]
def f204 : AF := .mk x204 z204
def k206_0 : KF := fun c i x r h => (fun (x0 x1 x2 x3 : AV) =>
 tT (c 56 [] h) fun v4 h5 =>
 tT (c 76 [v4,x2] h5) fun v6 h7 =>
 tT (AV.onFn x3 (fun f l => c f (List.append [v4] l) h7) (.err 202)) fun v8 h9 =>
 x (T145 x0 x1 v4) h9) (y0 r) (y1 r) (y2 r) (y3 r)
def x206 : AC := (.shal k206_0 (.drw [q 0 (m d25 r8),
 w (.o d26 (.call 58 [r25])),
 q 1 (m d16 r0),
 q 1 (o d17 (.nilc r16)),
 q 1 (o d18 (.fad 0 r17)),
 q 1 (o d19 (.ld1 r18)),
 q 1 (m d20 r0),
 q 1 (o d21 (.nilc r20)),
 q 1 (o d22 (.fad 1 r21)),
 q 1 (o d23 (.ld1 r22)),
 q 1 (m d24 r1),
 w (.o d27 (.call 91 [r19,r23,r24,r26]))]))
def z206 : List Rs := []
def f206 : AF := .mk x206 z206
def k207_2 : KF := fun c i x r h => (fun (x0 x1 x2 x3 x4 x5 : AV) =>
 tR (b_lt x5 x4 h) fun v6 h7 =>
 ifR v6 (tR (ix 4 x3 x5 h7) fun v8 h9 =>
 tR (o_ldn 4 (.c v8) .nil h9) fun v10 h11 =>
 tR (o_alloc 227 4 (.k1 (.mk (pi 0) (pi 0) (pi 0) (.str []) .undef .undef .undef .undef .undef .undef .undef .undef .undef .undef .undef .undef)) .nil h11) fun v12 h13 =>
 tR (o_stn 4 (.c v12) (.c v10) .nil h13) fun v14 h15 =>
 tR (fa 1 v12 h15) fun v16 h17 =>
 tR (o_ldn 2 (.c v16) .nil h17) fun v18 h19 =>
 tT (c 120 [x0,v18] h19) fun v20 h21 =>
 tR (fa 0 v12 h21) fun v22 h23 =>
 tR (ld v22 h23) fun v24 h25 =>
 tT (c 57 [x0,v24] h25) fun v26 h27 =>
 tR (fa 3 v12 h27) fun v28 h29 =>
 tR (ld v28 h29) fun v30 h31 =>
 tT (c 121 [x0,v30] h31) fun v32 h33 =>
 tR (b_add x5 (pi 1) h33) fun v34 h35 =>
 .nm (T146 x0 x1 x2 x3 x4 v34) h35) (.ex 0 (T146 x0 x1 x2 x3 x4 x5) h7)) (y0 r) (y4 r) (y5 r) (y19 r) (y20 r) (y21 r)
def k207_1 : KF := fun c i x r h => (fun (x0 x1 x2 x3 : AV) =>
 tR (ld x1 h) fun v4 h5 =>
 tR (len v4 h5) fun v6 h7 =>
 x (T146 x0 x2 x3 v4 v6 (pi 0)) h7) (y0 r) (y3 r) (y4 r) (y5 r)
def k207_3 : KF := fun c i x r h => (fun (x0 x1 x2 : AV) =>
 tR (ld x1 h) fun v3 h4 =>
 tR (ld x2 h4) fun v5 h6 =>
 tT (c 124 [v3,v5] h6) fun v7 h8 =>
 tT (c 208 [x0,v7] h8) fun v9 h10 =>
 .nm T5 h10) (y0 r) (y4 r) (y5 r)
def k207_0 : KF := fun c i x r h => (fun (x0 x1 x2 x3 x4 x5 : AV) =>
 tR (o_ldn 2 (.c x1) .nil h) fun v6 h7 =>
 tT (c 120 [x0,v6] h7) fun v8 h9 =>
 tR (ld x2 h9) fun v10 h11 =>
 tT (c 57 [x0,v10] h11) fun v12 h13 =>
 tR (ld x3 h13) fun v14 h15 =>
 tR (len v14 h15) fun v16 h17 =>
 tT (c 57 [x0,v16] h17) fun v18 h19 =>
 x (T46 x0 x3 x4 x5) h19) (y0 r) (y1 r) (y2 r) (y3 r) (y4 r) (y5 r)
def x207 : AC := (.shal k207_0 (.seq (.shal k207_1 (.block 0 (.loop (.shal k207_2 .skip)))) (.shal k207_3 .skip)))
def z207 : List Rs := []
def f207 : AF := .mk x207 z207
def k208_1 : KF := fun c i x r h => (fun (x0 x1 x2 x3 : AV) =>
 tR (b_lt x3 x2 h) fun v4 h5 =>
 ifR v4 (tR (ix 4 x1 x3 h5) fun v6 h7 =>
 tR (o_ldn 4 (.c v6) .nil h7) fun v8 h9 =>
 tR (o_alloc 227 4 (.k1 (.mk (pi 0) (pi 0) (pi 0) (.str []) .undef .undef .undef .undef .undef .undef .undef .undef .undef .undef .undef .undef)) .nil h9) fun v10 h11 =>
 tR (o_stn 4 (.c v10) (.c v8) .nil h11) fun v12 h13 =>
 tR (fa 0 v10 h13) fun v14 h15 =>
 tR (ld v14 h15) fun v16 h17 =>
 tT (c 57 [x0,v16] h17) fun v18 h19 =>
 tR (fa 3 v10 h19) fun v20 h21 =>
 tR (ld v20 h21) fun v22 h23 =>
 tT (c 121 [x0,v22] h23) fun v24 h25 =>
 tR (b_add x3 (pi 1) h25) fun v26 h27 =>
 .nm (T147 x0 x1 x2 v26) h27) (.ex 0 (T147 x0 x1 x2 x3) h5)) (y0 r) (y10 r) (y11 r) (y12 r)
def k208_0 : KF := fun c i x r h => (fun (x0 x1 : AV) =>
 tR (len x1 h) fun v2 h3 =>
 tT (c 57 [x0,v2] h3) fun v4 h5 =>
 tR (len x1 h5) fun v6 h7 =>
 x (T147 x0 x1 v6 (pi 0)) h7) (y0 r) (y1 r)
def x208 : AC := (.shal k208_0 (.block 0 (.loop (.shal k208_1 .skip))))
def z208 : List Rs := []
def f208 : AF := .mk x208 z208
def k209_0 : KF := fun c i x r h => (fun (x0 : AV) =>
 tR (o_alloc 208 2 (.k1 (.mk (pi 0) (pi 0) .undef .undef .undef .undef .undef .undef .undef .undef .undef .undef .undef .undef .undef .undef)) .nil h) fun v1 h2 =>
 tR (nic x0 h2) fun v3 h4 =>
 tR (fa 3 v3 h4) fun v5 h6 =>
 tR (o_ldn 2 (.c v5) .nil h6) fun v7 h8 =>
 tR (o_stn 2 (.c v1) (.c v7) .nil h8) fun v9 h10 =>
 .ret (T14 v1) h10) (y0 r)
def x209 : AC := (.shal k209_0 .skip)
def z209 : List Rs := [.agg 2 .h0 .h2]
def f209 : AF := .mk x209 z209
def k210_2 : KF := fun c i x r h => (fun (x0 x1 x2 x3 x4 : AV) =>
 ifR x4 (.go 0 (T149 x0 x1 x2 x3) h) (.nm (T149 x0 x1 x2 x3) h)) (y0 r) (y1 r) (y3 r) (y8 r) (y40 r)
def k210_4 : KF := fun c i x r h => (fun (x0 x1 : AV) =>
 tR (len x0 h) fun v2 h3 =>
 tR (b_lt x1 v2 h3) fun v4 h5 =>
 x (T151 v4) h5) (y3 r) (y8 r)
def k210_3 : KF := fun c i x r h => (fun (x0 x1 x2 x3 : AV) =>
 tR (nic x0 h) fun v4 h5 =>
 tR (fa 6 v4 h5) fun v6 h7 =>
 tR (ld v6 h7) fun v8 h9 =>
 tR (mup (.one .i) v8 x1 (pi 1) h9) fun v10 h11 =>
 x (T150 x2 x3) h11) (y0 r) (y1 r) (y3 r) (y8 r)
def k210_1 : KF := fun c i x r h => (fun (x0 x1 x2 x3 : AV) =>
 tR (o_ldn 2 (.c x3) .nil h) fun v4 h5 =>
 tT (c 145 [x0,v4] h5) fun v6 h7 =>
 x (T148 x0 x1 x2 x3 (pi 0)) h7) (y0 r) (y1 r) (y3 r) (y6 r)
def k210_0 : KF := fun c i x r h => (fun (x0 x1 x2 x3 : AV) =>
 tR (o_box 208 (.c x2) .nil h) fun v4 h5 =>
 x (T127 x0 x1 x3 v4) h5) (y0 r) (y1 r) (y2 r) (y3 r)
def x210 : AC := (.shal k210_0 (.scope (.shal k210_1 (.seq (.seq (.drw [q 0 (o d15 (.ldn 2 r6)),
 q 0 (m d16 r0),
 q 0 (o d17 (.nilc r16)),
 q 0 (o d18 (.fad 3 r17)),
 q 0 (o d19 (.ldn 2 r18)),
 q 0 (o d20 (.bin (.ane [.i,.i]) r15 r19)),
 q 0 (m d21 r20),
 q 0 (.g .h1 .h5 false d22 (.op (.ldn 2 r6))),
 q 0 (.g .h1 .h5 false d23 (.op (.build [(pi 0),(pi 0)] []))),
 q 0 (.g .h1 .h5 false d24 (.op (.bin (.aeq [.i,.i]) r22 r23))),
 q 0 (o d25 (.pick r21 (.c (.bool true)) r24)),
 q 0 (m d26 r25),
 q 0 (.g .h1 .ha false d27 (.op (.mv r0))),
 q 0 (.g .h1 .ha false d28 (.op (.mv r1))),
 w (.g .h1 .ha false d29 (.call 265 [r27,r28])),
 q 0 (.g .h1 .ha false d30 (.op (.un .not r29))),
 q 0 (o d31 (.pick r26 (.c (.bool true)) r30)),
 q 0 (m d32 r31),
 q 0 (.g .h2 .h0 false d33 (.op (.mv r0))),
 q 0 (.g .h2 .h0 false d34 (.op (.nilc r33))),
 q 0 (.g .h2 .h0 false d35 (.op (.fad 6 r34))),
 q 0 (.g .h2 .h0 false d36 (.op (.ld1 r35))),
 q 0 (.g .h2 .h0 false d37 (.op (.mv r1))),
 q 0 (.g .h2 .h0 false d38 (.op (.lkp (.one .i) (pi 0) false r36 r37))),
 q 0 (.g .h2 .h0 false d39 (.op (.bin .gt r38 a0))),
 q 0 (o d40 (.pick r32 (.c (.bool true)) r39))]) (.shal k210_2 .skip)) (.shal k210_3 (.seq (.label 1) (.seq (.shal k210_4 (.cond r49 (.bad 0) .skip)) (.label 0))))))))
def z210 : List Rs := []
def f210 : AF := .mk x210 z210
def k211_1 : KF := fun c i x r h => (fun (x0 x1 x2 x3 x4 : AV) =>
 ifR x4 (.ret (T139 (.bool false)) h) (.nm (T112 x0 x1 x2 x3) h)) (y0 r) (y5 r) (y6 r) (y7 r) (y35 r)
def k211_3 : KF := fun c i x r h => (fun (x0 x1 x2 x3 x4 x5 : AV) =>
 ifR x5 (tR (sto x4 (pi 3) h) fun v6 h7 =>
 .nm (T152 x0 x1 x2 x3 x4) h7) (.nm (T152 x0 x1 x2 x3 x4) h)) (y0 r) (y5 r) (y6 r) (y7 r) (y9 r) (y45 r)
def k211_4 : KF := fun c i x r h => (fun (x0 x1 x2 x3 x4 : AV) =>
 tR (ld x4 h) fun v5 h6 =>
 tT (c 216 [x0,(.bool true),v5,(.fn 266 [x1,x2,x4,x3])] h6) fun v7 h8 =>
 x (T153 x0 x1 x2 x3 v7) h8) (y0 r) (y5 r) (y6 r) (y7 r) (y9 r)
def k211_2 : KF := fun c i x r h => (fun (x0 x1 x2 x3 : AV) =>
 tR (o_alloc 3 1 (.k1 (.mk (pi 0) .undef .undef .undef .undef .undef .undef .undef .undef .undef .undef .undef .undef .undef .undef .undef)) .nil h) fun v4 h5 =>
 tR (sto v4 (pi 2) h5) fun v6 h7 =>
 x (T152 x0 x1 x2 x3 v4) h7) (y0 r) (y5 r) (y6 r) (y7 r)
def k211_0 : KF := fun c i x r h => (fun (x0 x1 x2 x3 : AV) =>
 tR (o_box 208 (.c x1) .nil h) fun v4 h5 =>
 tR (o_box 3 (.c x2) .nil h5) fun v6 h7 =>
 tR (o_box 9 (.c x3) .nil h7) fun v8 h9 =>
 x (T112 x0 v4 v6 v8) h9) (y0 r) (y1 r) (y2 r) (y3 r)
def x211 : AC := (.shal k211_0 (.seq (.seq (.drw [q 0 (m d12 r0),
 q 0 (o d13 (.nilc r12)),
 q 0 (o d14 (.fad 7 r13)),
 q 0 (o d15 (.ld1 r14)),
 w (.o d16 (.call 123 [r15])),
 q 1 (o d11 (.ldn 2 r5)),
 w (.o d17 (.call 166 [r11,r16])),
 q 0 (m d18 r17),
 q 0 (.g .h1 .h2 false d19 (.op (.ldn 2 r5))),
 q 0 (.g .h1 .h2 false d20 (.op (.build [(pi 0),(pi 0)] []))),
 q 0 (.g .h1 .h2 false d21 (.op (.bin (.aeq [.i,.i]) r19 r20))),
 q 0 (o d22 (.pick r18 (.c (.bool true)) r21)),
 q 0 (m d23 r22),
 q 0 (.g .h1 .h7 false d24 (.op (.ld1 r6))),
 q 0 (.g .h1 .h7 false d25 (.op (.mv r0))),
 q 0 (.g .h1 .h7 false d26 (.op (.nilc r25))),
 q 0 (.g .h1 .h7 false d27 (.op (.fad 13 r26))),
 q 0 (.g .h1 .h7 false d28 (.op (.fad 0 r27))),
 q 0 (.g .h1 .h7 false d29 (.op (.ld1 r28))),
 q 0 (.g .h1 .h7 false d30 (.op (.bin .lt r24 r29))),
 q 0 (o d31 (.pick r23 (.c (.bool true)) r30)),
 q 0 (m d32 r31),
 q 0 (.g .h2 .h0 false d33 (.op (.ld1 r6))),
 q 0 (.g .h2 .h0 false d34 (.op (.bin .ge r33 (.c (pi 1048576))))),
 q 0 (o d35 (.pick r32 (.c (.bool true)) r34))]) (.shal k211_1 .skip)) (.shal k211_2 (.seq (.seq (.drw [q 0 (m d36 r0),
 q 0 (o d37 (.ld1 r6)),
 w (.o d38 (.call 125 [r36,r37])),
 q 0 (m d39 r38),
 q 0 (.g .h2 .h7 true d40 (.op (.mv r0))),
 q 0 (.g .h2 .h7 true d41 (.op (.ld1 r6))),
 w (.g .h2 .h7 true d42 (.call 108 [r40,r41])),
 q 1 (.g .h2 .h7 true d43 (.op (.ld1 r7))),
 q 0 (.g .h2 .h7 true d44 (.op (.bin .seq r42 r43))),
 q 0 (o d45 (.pick r39 r44 (.c (.bool false))))]) (.shal k211_3 .skip)) (.shal k211_4 (.seq (.drw [q 0 (m d50 r10),
 q 0 (m d51 r50),
 q 0 (.g .h3 .h3 true d52 (.op (.mv r0))),
 q 0 (.g .h3 .h3 true d53 (.op (.nilc r52))),
 q 0 (.g .h3 .h3 true d54 (.op (.fad 7 r53))),
 q 0 (.g .h3 .h3 true d55 (.op (.ld1 r54))),
 q 0 (.g .h3 .h3 true d56 (.op (.ldn 2 r5))),
 q 0 (.g .h3 .h3 true d57 (.op (.ld1 r6))),
 q 0 (.g .h3 .h3 true d58 (.op (.ld1 r7))),
 w (.g .h3 .h3 true d59 (.call 267 [r55,r56,r57,r58])),
 q 0 (o d60 (.pick r51 r59 (.c (.bool false)))),
 q 0 (m d8 r60)]) .ret))))))
def z211 : List Rs := [.t .h0 .h8]
def f211 : AF := .mk x211 z211
def k212_0 : KF := fun c i x r h => (fun (x0 x1 x2 : AV) =>
 tR (o_ldn 2 (.c x1) .nil h) fun v3 h4 =>
 tT (c 120 [x0,v3] h4) fun v5 h6 =>
 tR (ld x2 h6) fun v7 h8 =>
 tT (c 57 [x0,v7] h8) fun v9 h10 =>
 .nm T5 h10) (y0 r) (y1 r) (y2 r)
def x212 : AC := (.shal k212_0 .skip)
def z212 : List Rs := []
def f212 : AF := .mk x212 z212
def k213_1 : KF := fun c i x r h => (fun (x0 x1 x2 x3 : AV) =>
 ifR x3 (.ret (T139 (.bool false)) h) (.nm (T154 x0 x1 x2) h)) (y0 r) (y1 r) (y9 r) (y31 r)
def k213_2 : KF := fun c i x r h => (fun (x0 x1 x2 : AV) =>
 tR (nic x2 h) fun v3 h4 =>
 tR (fa 1 v3 h4) fun v5 h6 =>
 tR (ld v5 h6) fun v7 h8 =>
 tR (mup (.one .i) v7 x1 (pi 1) h8) fun v9 h10 =>
 tR (nic x2 h10) fun v11 h12 =>
 tR (fa 1 v11 h12) fun v13 h14 =>
 tR (ld v13 h14) fun v15 h16 =>
 tR (o_lenm (.c v15) .nil h16) fun v17 h18 =>
 tT (c 268 [x0,v17] h18) fun v19 h20 =>
 .ret (T139 v19) h20) (y0 r) (y1 r) (y9 r)
def k213_0 : KF := fun c i x r h => (fun (x0 x1 x2 x3 : AV) =>
 tR (o_box 208 (.c x2) .nil h) fun v4 h5 =>
 tR (nic x0 h5) fun v6 h7 =>
 tR (fa 8 v6 h7) fun v8 h9 =>
 tR (ld v8 h9) fun v10 h11 =>
 tR (lkp (.one .i) .nilp false v10 x3 h11) fun v12 h13 =>
 x (T125 x0 x1 v4 v12) h13) (y0 r) (y1 r) (y2 r) (y3 r)
def x213 : AC := (.shal k213_0 (.seq (.seq (.drw [q 0 (o d16 (.ldn 2 r6)),
 q 0 (m d17 r0),
 q 0 (o d18 (.nilc r17)),
 q 0 (o d19 (.fad 3 r18)),
 q 0 (o d20 (.ldn 2 r19)),
 q 0 (o d21 (.bin (.ane [.i,.i]) r16 r20)),
 q 0 (m d22 r21),
 q 0 (.g .h1 .h6 false d23 (.op (.mv r0))),
 q 0 (.g .h1 .h6 false d24 (.op (.mv r1))),
 w (.g .h1 .h6 false d25 (.call 265 [r23,r24])),
 q 0 (.g .h1 .h6 false d26 (.op (.un .not r25))),
 q 0 (o d27 (.pick r22 (.c (.bool true)) r26)),
 q 0 (m d28 r27),
 q 0 (.g .h1 .hc false d29 (.op (.mv r9))),
 q 0 (.g .h1 .hc false d30 (.op (.bin .peq r29 (.c .nilp)))),
 q 0 (o d31 (.pick r28 (.c (.bool true)) r30))]) (.shal k213_1 .skip)) (.shal k213_2 .skip)))
def z213 : List Rs := [.t .h0 .h8]
def f213 : AF := .mk x213 z213
def k214_1 : KF := fun c i x r h => (fun (x0 x1 x2 x3 : AV) =>
 ifR x3 (.ret (T12 (.str []) (.bool false)) h) (.nm (T93 x0 x1 x2) h)) (y0 r) (y1 r) (y2 r) (y25 r)
def k214_4 : KF := fun c i x r h => (fun (x0 x1 x2 : AV) =>
 tR (nic x0 h) fun v3 h4 =>
 tR (fa 8 v3 h4) fun v5 h6 =>
 tR (ld v5 h6) fun v7 h8 =>
 tR (o_mkmap .nil h8) fun v9 h10 =>
 tR (o_build [(.str []),.nilm] [.mk 0 1 (.c x2),.mk 1 1 (.c v9)] .nil h10) fun v11 h12 =>
 tR (o_box 392 (.c v11) .nil h12) fun v13 h14 =>
 tR (mup (.one .i) v7 x1 v13 h14) fun v15 h16 =>
 .ret (T12 x2 (.bool true)) h16) (y0 r) (y1 r) (y2 r)
def k214_3 : KF := fun c i x r h => (fun (x0 x1 x2 : AV) =>
 tR (nic x0 h) fun v3 h4 =>
 tR (fa 7 v3 h4) fun v5 h6 =>
 tR (ld v5 h6) fun v7 h8 =>
 tR (lkp (.one .i) (.agg [(pi 0),(pi 0),(pi 0),(.str [])]) true v7 x1 h8) fun v9 h10 =>
 tR (o_ext 0 (.c v9) .nil h10) fun v11 h12 =>
 tR (o_ext 1 (.c v9) .nil h12) fun v13 h14 =>
 tR (o_alloc 227 4 (.k1 (.mk (pi 0) (pi 0) (pi 0) (.str []) .undef .undef .undef .undef .undef .undef .undef .undef .undef .undef .undef .undef)) .nil h14) fun v15 h16 =>
 tR (o_stn 4 (.c v15) (.c v11) .nil h16) fun v17 h18 =>
 ifR v13 (tR (fa 3 v15 h18) fun v19 h20 =>
 tR (ld v19 h20) fun v21 h22 =>
 x (T93 x0 x1 v21) h22) (x (T93 x0 x1 x2) h18)) (y0 r) (y1 r) (y2 r)
def k214_2 : KF := fun c i x r h => (fun (x0 x1 x2 : AV) =>
 tR (nic x0 h) fun v3 h4 =>
 tR (fa 8 v3 h4) fun v5 h6 =>
 tR (ld v5 h6) fun v7 h8 =>
 tR (lkp (.one .i) .nilp false v7 x1 h8) fun v9 h10 =>
 tR (bK .pne v9 .nilp h10) fun v11 h12 =>
 ifR v11 (tR (nic v9 h12) fun v13 h14 =>
 tR (fa 0 v13 h14) fun v15 h16 =>
 tR (ld v15 h16) fun v17 h18 =>
 .ret (T12 v17 (.bool true)) h18) (x (T93 x0 x1 x2) h12)) (y0 r) (y1 r) (y2 r)
def k214_0 : KF := fun c i x r h => (fun (x0 x1 x2 : AV) =>
 x (T93 x0 x1 x2) h) (y0 r) (y1 r) (y2 r)
def x214 : AC := (.shal k214_0 (.seq (.seq (.ops [m d11 r0,
 .o d12 (.call 269 [r11]),
 o d13 (.un .not r12),
 m d14 r13,
 .g .h0 .he false d15 (.op (.mv r1)),
 .g .h0 .he false d16 (.op (.mv r0)),
 .g .h0 .he false d17 (.op (.nilc r16)),
 .g .h0 .he false d18 (.op (.fad 5 r17)),
 .g .h0 .he false d19 (.op (.ld1 r18)),
 .g .h0 .he false d20 (.op (.bin .lt r15 r19)),
 o d21 (.pick r14 (.c (.bool true)) r20),
 m d22 r21,
 .g .h1 .h6 false d23 (.op (.mv r1)),
 .g .h1 .h6 false d24 (.op (.bin .ge r23 (.c (pi 1048576)))),
 o d25 (.pick r22 (.c (.bool true)) r24)]) (.shal k214_1 .skip)) (.shal k214_2 (.shal k214_3 (.shal k214_4 .skip)))))
def z214 : List Rs := [.t .h0 .h6,.t .h0 .h7]
def f214 : AF := .mk x214 z214
def k215_2 : KF := fun c i x r h => (fun (x0 x1 x2 x3 : AV) =>
 ifR x3 (.ret T5 h) (.nm (T78 x0 x1 x2) h)) (y0 r) (y4 r) (y5 r) (y26 r)
def k215_1 : KF := fun c i x r h => (fun (x0 x1 x2 : AV) =>
 tQ (nic x0 h) fun v3 =>
 tQ (fa 9 v3 h) fun v4 =>
 tQ (ld v4 h) fun v5 =>
 tQ (ld x1 h) fun v6 =>
 tX (c 162 [v5,v6] h) fun v7 h8 =>
 tQ (o_ext 0 (.c v7) .nil h8) fun v9 =>
 tQ (o_ext 1 (.c v7) .nil h8) fun v10 =>
 x (T155 x0 x1 x2 v10) h8) (y0 r) (y4 r) (y5 r)
def k215_3 : KF := fun c i x r h => (fun (x0 x1 x2 : AV) =>
 tR (ld x1 h) fun v3 h4 =>
 tR (ld x2 h4) fun v5 h6 =>
 tT (c 152 [x0,v3,v5] h6) fun v7 h8 =>
 tT (c 156 [x0,(pi 6),(.fn 270 [x1,x2])] h8) fun v9 h10 =>
 .nm T5 h10) (y0 r) (y4 r) (y5 r)
def k215_0 : KF := fun c i x r h => (fun (x0 x1 x2 : AV) =>
 tR (o_box 3 (.c x1) .nil h) fun v3 h4 =>
 tR (o_box 9 (.c x2) .nil h4) fun v5 h6 =>
 x (T78 x0 v3 v5) h6) (y0 r) (y1 r) (y2 r)
def x215 : AC := (.shal k215_0 (.seq (.shal k215_1 (.seq (.drw [q 0 (m d17 r7),
 q 0 (m d18 r17),
 q 0 (.g .h1 .h2 false d20 (.op (.mv r0))),
 q 0 (.g .h1 .h2 false d21 (.op (.nilc r20))),
 q 0 (.g .h1 .h2 false d22 (.op (.fad 9 r21))),
 q 0 (.g .h1 .h2 false d23 (.op (.ld1 r22))),
 w (.g .h1 .h2 false d24 (.call 128 [r23])),
 q 1 (.g .h1 .h2 false d19 (.op (.ld1 r4))),
 q 0 (.g .h1 .h2 false d25 (.op (.bin .lt r19 r24))),
 q 0 (o d26 (.pick r18 (.c (.bool true)) r25))]) (.shal k215_2 .skip))) (.shal k215_3 .skip)))
def z215 : List Rs := []
def f215 : AF := .mk x215 z215
def k216_2 : KF := fun c i x r h => (fun (x0 x1 : AV) =>
 ifR x1 (tR (nic x0 h) fun v2 h3 =>
 tR (fa 2 v2 h3) fun v4 h5 =>
 tR (ld v4 h5) fun v6 h7 =>
 tT (c 272 [v6] h7) fun v8 h9 =>
 .ret (T139 (.bool true)) h9) (.ret (T139 (.bool true)) h)) (y0 r) (y1 r)
def k216_1 : KF := fun c i x r h => (fun (x0 x1 x2 : AV) =>
 tR (nic x0 h) fun v3 h4 =>
 tR (fa 2 v3 h4) fun v5 h6 =>
 tR (ld v5 h6) fun v7 h8 =>
 tT (c 271 [v7,x2] h8) fun v9 h10 =>
 tR (b_ne v9 (pi 0) h10) fun v11 h12 =>
 ifR v11 (.ret (T139 (.bool false)) h12) (tR (nic x0 h12) fun v13 h14 =>
 tR (fa 5 v13 h14) fun v15 h16 =>
 tR (ld v15 h16) fun v17 h18 =>
 tR (len x2 h18) fun v19 h20 =>
 tR (b_add v17 v19 h20) fun v21 h22 =>
 tR (nic x0 h22) fun v23 h24 =>
 tR (fa 5 v23 h24) fun v25 h26 =>
 tR (sto v25 v21 h26) fun v27 h28 =>
 x (T7 x0 x1) h28)) (y0 r) (y1 r) (y9 r)
def k216_0 : KF := fun c i x r h => (fun (x0 x1 x2 x3 : AV) =>
 tT (c 114 [x2,x3] h) fun v4 h5 =>
 tR (nic x0 h5) fun v6 h7 =>
 tR (fa 5 v6 h7) fun v8 h9 =>
 tR (ld v8 h9) fun v10 h11 =>
 tR (len v4 h11) fun v12 h13 =>
 tR (b_add v10 v12 h13) fun v14 h15 =>
 tR (b_gt v14 (pi 2097152) h15) fun v16 h17 =>
 ifR v16 (tT (c 70 [x0] h17) fun v18 h19 =>
 x (T154 x0 x1 v4) h19) (x (T154 x0 x1 v4) h17)) (y0 r) (y1 r) (y2 r) (y3 r)
def x216 : AC := (.shal k216_0 (.shal k216_1 (.shal k216_2 .skip)))
def z216 : List Rs := [.t .h0 .h8]
def f216 : AF := .mk x216 z216
def k217_0 : KF := fun c i x r h => (fun (x0 x1 x2 x3 : AV) =>
 tR (ld x1 h) fun v4 h5 =>
 tT (c 57 [x0,v4] h5) fun v6 h7 =>
 tR (ld x2 h7) fun v8 h9 =>
 tR (b_eq v8 (pi 4) h9) fun v10 h11 =>
 ifR v10 (tR (ld x3 h11) fun v12 h13 =>
 tT (c 121 [x0,v12] h13) fun v14 h15 =>
 .nm T5 h15) (.nm T5 h11)) (y0 r) (y1 r) (y2 r) (y3 r)
def x217 : AC := (.shal k217_0 .skip)
def z217 : List Rs := []
def f217 : AF := .mk x217 z217
def k220_2 : KF := fun c i x r h => (fun (x0 x1 x2 x3 : AV) =>
 ifR x3 (tR (o_ent (.c x2) .nil h) fun v4 h5 =>
 tR (o_ext 0 (.c v4) .nil h5) fun v6 h7 =>
 tR (mup (.one .i) x1 v6 (pi 1) h7) fun v8 h9 =>
 .nm (T156 x0 x1 x2) h9) (.ex 0 (T156 x0 x1 x2) h)) (y1 r) (y3 r) (y11 r) (y13 r)
def k220_1 : KF := fun c i x r h => (fun (x0 x1 : AV) =>
 tR (ld x0 h) fun v2 h3 =>
 tR (nic v2 h3) fun v4 h5 =>
 tR (fa 7 v4 h5) fun v6 h7 =>
 tR (ld v6 h7) fun v8 h9 =>
 tR (o_rngm (.c v8) .nil h9) fun v10 h11 =>
 x (T156 x0 x1 v10) h11) (y1 r) (y3 r)
def k220_4 : KF := fun c i x r h => (fun (x0 x1 x2 x3 : AV) =>
 ifR x3 (tR (o_ent (.c x2) .nil h) fun v4 h5 =>
 tR (o_ext 0 (.c v4) .nil h5) fun v6 h7 =>
 tR (mup (.one .i) x1 v6 (pi 1) h7) fun v8 h9 =>
 .nm (T157 x0 x1 x2) h9) (.ex 2 (T157 x0 x1 x2) h)) (y1 r) (y3 r) (y22 r) (y24 r)
def k220_3 : KF := fun c i x r h => (fun (x0 x1 : AV) =>
 tR (ld x0 h) fun v2 h3 =>
 tR (nic v2 h3) fun v4 h5 =>
 tR (fa 8 v4 h5) fun v6 h7 =>
 tR (ld v6 h7) fun v8 h9 =>
 tR (o_rngm (.c v8) .nil h9) fun v10 h11 =>
 x (T157 x0 x1 v10) h11) (y1 r) (y3 r)
def k220_5 : KF := fun c i x r h => (fun (x0 x1 : AV) =>
 tT (c 275 [x1] h) fun v2 h3 =>
 tT (c 274 [v2] h3) fun v4 h5 =>
 tT (c 273 [v4,(.fn 276 [x0])] h5) fun v6 h7 =>
 .ret (T14 v6) h7) (y1 r) (y3 r)
def k220_0 : KF := fun c i x r h => (fun (x0 : AV) =>
 tR (o_box 111 (.c x0) .nil h) fun v1 h2 =>
 tR (o_mkmap .nil h2) fun v3 h4 =>
 x (T59 v1 v3) h4) (y0 r)
def x220 : AC := (.shal k220_0 (.seq (.shal k220_1 (.block 0 (.loop (.seq (.ops [.o d12 (.nxt false r11),
 o d13 (.ext 0 r12)]) (.shal k220_2 .skip))))) (.seq (.shal k220_3 (.block 2 (.loop (.seq (.ops [.o d23 (.nxt false r22),
 o d24 (.ext 0 r23)]) (.shal k220_4 .skip))))) (.shal k220_5 .skip))))
def z220 : List Rs := [.t .h0 .h2]
def f220 : AF := .mkj x220 z220
def k221_0 : KF := fun c i x r h => (fun (x0 x1 x2 x3 : AV) =>
 tR (o_box 208 (.c x1) .nil h) fun v4 h5 =>
 tR (o_box 3 (.c x2) .nil h5) fun v6 h7 =>
 tR (o_box 9 (.c x3) .nil h7) fun v8 h9 =>
 tT (c 156 [x0,(pi 3),(.fn 277 [v4,v6,v8])] h9) fun v10 h11 =>
 .nm T5 h11) (y0 r) (y1 r) (y2 r) (y3 r)
def x221 : AC := (.shal k221_0 .skip)
def z221 : List Rs := []
def f221 : AF := .mk x221 z221
def k226_3 : KF := fun c i x r h => (fun (x0 x1 : AV) =>
 tQ (nic x0 h) fun v2 =>
 tQ (fa 0 v2 h) fun v3 =>
 tQ (ld v3 h) fun v4 =>
 tQ (nic x0 h) fun v5 =>
 tQ (fa 1 v5 h) fun v6 =>
 tQ (ld v6 h) fun v7 =>
 tQ (b_sub v7 x1 h) fun v8 =>
 tQ (nic x0 h) fun v9 =>
 tQ (fa 1 v9 h) fun v10 =>
 tQ (ld v10 h) fun v11 =>
 tQ (o_slc 1 (.c v4) (.some (.c v8)) (.some (.c v11)) .none .nil h) fun v12 =>
 .ret (T1 v12) h) (y0 r) (y1 r)
def k226_2 : KF := fun c i x r h => (fun (x0 x1 : AV) =>
 tR (nic x0 h) fun v2 h3 =>
 tR (fa 1 v2 h3) fun v4 h5 =>
 tR (ld v4 h5) fun v6 h7 =>
 tR (b_add v6 x1 h7) fun v8 h9 =>
 tR (nic x0 h9) fun v10 h11 =>
 tR (fa 1 v10 h11) fun v12 h13 =>
 tR (sto v12 v8 h13) fun v14 h15 =>
 x (T7 x0 x1) h15) (y0 r) (y1 r)
def k226_1 : KF := fun c i x r h => (fun (x0 x1 : AV) =>
 tQ (nic x0 h) fun v2 =>
 tQ (fa 0 v2 h) fun v3 =>
 tQ (ld v3 h) fun v4 =>
 tQ (len v4 h) fun v5 =>
 tQ (nic x0 h) fun v6 =>
 tQ (fa 1 v6 h) fun v7 =>
 tQ (ld v7 h) fun v8 =>
 tQ (b_sub v5 v8 h) fun v9 =>
 tQ (b_gt x1 v9 h) fun v10 =>
 ifR v10 (tR (nic x0 h) fun v11 h12 =>
 tR (fa 0 v11 h12) fun v13 h14 =>
 tR (ld v13 h14) fun v15 h16 =>
 tR (len v15 h16) fun v17 h18 =>
 tT (c 230 [x0,(pi 10),v17] h18) fun v19 h20 =>
 .ret (T1 .nils) h20) (x (T7 x0 x1) h)) (y0 r) (y1 r)
def k226_0 : KF := fun c i x r h => (fun (x0 x1 : AV) =>
 tR (nic x0 h) fun v2 h3 =>
 tR (fa 2 v2 h3) fun v4 h5 =>
 tR (ld v4 h5) fun v6 h7 =>
 tR (b_ne v6 (pi 0) h7) fun v8 h9 =>
 ifR v8 (.ret (T1 .nils) h9) (x (T7 x0 x1) h9)) (y0 r) (y1 r)
def x226 : AC := (.shal k226_0 (.shal k226_1 (.shal k226_2 (.shal k226_3 .skip))))
def z226 : List Rs := [.t .h0 .h4]
def f226 : AF := .mk x226 z226
def k227_4 : KF := fun c i x r h => (fun (x0 x1 x2 x3 x4 : AV) =>
 tR (b_lt x4 (pi 8) h) fun v5 h6 =>
 ifR v5 (tR (b_and x0 (.int .u32 (.ofNat 1)) h6) fun v7 h8 =>
 tR (bK .shr x0 (.int .u64 (.ofNat 1)) h8) fun v9 h10 =>
 tR (b_eq v7 (.int .u32 (.ofNat 1)) h10) fun v11 h12 =>
 ifR v11 (tR (b_xor v9 (.int .u32 (.ofNat 3988292384)) h12) fun v13 h14 =>
 tR (b_add x4 (pi 1) h14) fun v15 h16 =>
 .nm (T159 v13 x1 x2 x3 v15) h16) (tR (b_add x4 (pi 1) h12) fun v17 h18 =>
 .nm (T159 v9 x1 x2 x3 v17) h18)) (.ex 2 (T159 x0 x1 x2 x3 x4) h6)) (y3 r) (y7 r) (y8 r) (y9 r) (y17 r)
def k227_3 : KF := fun c i x r h => (fun (x0 x1 x2 x3 : AV) =>
 tR (ix 1 x1 x3 h) fun v4 h5 =>
 tR (ld v4 h5) fun v6 h7 =>
 tR (cK (.toInt .u32) v6 h7) fun v8 h9 =>
 tR (b_xor x0 v8 h9) fun v10 h11 =>
 x (T159 v10 x1 x2 x3 (pi 0)) h11) (y3 r) (y7 r) (y8 r) (y9 r)
def k227_5 : KF := fun c i x r h => (fun (x0 x1 x2 x3 : AV) =>
 tR (b_add x3 (pi 1) h) fun v4 h5 =>
 .nm (T158 x0 x1 x2 v4) h5) (y3 r) (y7 r) (y8 r) (y9 r)
def k227_2 : KF := fun c i x r h => (fun (x0 x1 x2 x3 : AV) =>
 tR (b_lt x3 x2 h) fun v4 h5 =>
 ifR v4 (x (T158 x0 x1 x2 x3) h5) (.ex 0 (T21 x0) h5)) (y3 r) (y7 r) (y8 r) (y9 r)
def k227_1 : KF := fun c i x r h => (fun (x0 x1 : AV) =>
 tR (len x0 h) fun v2 h3 =>
 x (T158 x1 x0 v2 (pi 0)) h3) (y0 r) (y3 r)
def k227_6 : KF := fun c i x r h => (fun (x0 : AV) =>
 tR (u_com x0 h) fun v1 h2 =>
 .ret (T14 v1) h2) (y3 r)
def k227_0 : KF := fun c i x r h => (fun (x0 : AV) =>
 x (T15 x0 (.int .u32 (.ofNat 4294967295))) h) (y0 r)
def p227 : PK := .crc
def x227 : AC := (.shal k227_0 (.seq (.shal k227_1 (.block 0 (.loop (.shal k227_2 (.seq (.block 1 (.shal k227_3 (.block 2 (.loop (.shal k227_4 .skip))))) (.shal k227_5 .skip)))))) (.shal k227_6 .skip)))
def z227 : List Rs := [.t .h0 .h2]
def f227 : AF := .prim p227 x227 z227
def k228_0 : KF := fun c i x r h => (fun (x0 x1 : AV) =>
 tR (o_box 208 (.c x0) .nil h) fun v2 h3 =>
 tR (o_box 208 (.c x1) .nil h3) fun v4 h5 =>
 x (T9 v2 v4) h5) (y0 r) (y1 r)
def x228 : AC := (.shal k228_0 (.seq (.drw [q 0 (o d5 (.fad 0 r2)),
 q 0 (o d6 (.ld1 r5)),
 q 0 (o d7 (.fad 0 r3)),
 q 0 (o d8 (.ld1 r7)),
 w (.o d9 (.call 287 [r6,r8])),
 q 1 (o d10 (.fad 1 r2)),
 q 1 (o d11 (.ld1 r10)),
 q 1 (o d12 (.fad 1 r3)),
 q 1 (o d13 (.ld1 r12)),
 w (.o d14 (.call 287 [r11,r13])),
 w (o d15 (.bslice 3 1 2 [(pi 0),(pi 0)] [.mk 0 1 r9,.mk 1 1 r14])),
 w (.o d16 (.call 286 [r15])),
 q 0 (m d4 r16)]) .ret))
def z228 : List Rs := [.t .h0 .h4]
def f228 : AF := .mk x228 z228
def k229_0 : KF := fun c i x r h => (fun (x0 : AV) =>
 tT (c 163 [x0,(pi 2)] h) fun v1 h2 =>
 tR (cK (.toInt .i64) v1 h2) fun v3 h4 =>
 .ret (T14 v3) h4) (y0 r)
def x229 : AC := (.shal k229_0 .skip)
def z229 : List Rs := [.t .h0 .h2]
def f229 : AF := .mk x229 z229
def k236_0 : KF := fun c i x r h => (fun (x0 : AV) =>
 tR (nic x0 h) fun v1 h2 =>
 tR (fa 2 v1 h2) fun v3 h4 =>
 tR (ld v3 h4) fun v5 h6 =>
 tR (b_ne v5 (pi 0) h6) fun v7 h8 =>
 ifR v7 (.ret (T14 (pi 0)) h8) (tQ (nic x0 h8) fun v9 =>
 tQ (fa 0 v9 h8) fun v10 =>
 tQ (ld v10 h8) fun v11 =>
 tQ (len v11 h8) fun v12 =>
 tQ (nic x0 h8) fun v13 =>
 tQ (fa 1 v13 h8) fun v14 =>
 tQ (ld v14 h8) fun v15 =>
 tQ (b_sub v12 v15 h8) fun v16 =>
 .ret (T14 v16) h8)) (y0 r)
def x236 : AC := (.shal k236_0 .skip)
def z236 : List Rs := [.t .h0 .h2]
def f236 : AF := .mk x236 z236
def k237_2 : KF := fun c i x r h => (fun (x0 x1 x2 x3 : AV) =>
 tR (b_lt x3 x2 h) fun v4 h5 =>
 ifR v4 (tR (ix 6 x0 x3 h5) fun v6 h7 =>
 tR (o_ldn 6 (.c v6) .nil h7) fun v8 h9 =>
 tT (AV.onFn x1 (fun f l => c f (List.append [v8] l) h9) (.err 202)) fun v10 h11 =>
 ifR v10 (.ret (T1 x3) h11) (tR (b_add x3 (pi 1) h11) fun v12 h13 =>
 .nm (T160 x0 x1 x2 v12) h13)) (.ex 0 (T160 x0 x1 x2 x3) h5)) (y0 r) (y1 r) (y7 r) (y8 r)
def k237_1 : KF := fun c i x r h => (fun (x0 x1 : AV) =>
 tR (len x0 h) fun v2 h3 =>
 x (T160 x0 x1 v2 (pi 0)) h3) (y0 r) (y1 r)
def k237_3 : KF := fun c i x r h => .ret (T1 (ni 0)) h
def k237_0 : KF := fun c i x r h => (fun (x0 x1 : AV) =>
 x (T7 x0 x1) h) (y0 r) (y1 r)
def x237 : AC := (.shal k237_0 (.seq (.shal k237_1 (.block 0 (.loop (.shal k237_2 .skip)))) (.shal k237_3 .skip)))
def z237 : List Rs := [.t .h0 .h4]
def f237 : AF := .mk x237 z237
def k238_0 : KF := fun c i x r h => (fun (x0 x1 : AV) =>
 tR (o_box 260 (.c x0) .nil h) fun v2 h3 =>
 tR (fa 0 v2 h3) fun v4 h5 =>
 tR (o_ldn 3 (.c v4) .nil h5) fun v6 h7 =>
 tR (o_ldn 3 (.c x1) .nil h7) fun v8 h9 =>
 tR (bK (.aeq [.i,.i,.i]) v6 v8 h9) fun v10 h11 =>
 .ret (T21 v10) h11) (y0 r) (y1 r)
def x238 : AC := (.shal k238_0 .skip)
def z238 : List Rs := [.t .h0 .h3]
def f238 : AF := .mk x238 z238
def k239_1 : KF := fun c i x r h => (fun (x0 x1 x2 x3 : AV) =>
 tQ (o_slc 6 (.c x0) .none (.some (.c x1)) .none .nil h) fun v4 =>
 tQ (o_slc 6 (.c x0) (.some (.c x2)) .none .none .nil h) fun v5 =>
 tX (RV.toT (appV 260 6 v4 v5 h)) fun v6 h7 =>
 tR (len v6 h7) fun v8 h9 =>
 tR (o_slc 6 (.c v6) (.some (.c v8)) (.some (.c x3)) .none .nil h9) fun v10 h11 =>
 tR (o_clr [(pi 0),(pi 0),(pi 0),(.bool false),(.str []),(pi 0)] (.c v10) .nil h11) fun v12 h13 =>
 .ret (T8 v6) h13) (y0 r) (y1 r) (y2 r) (y7 r)
def k239_0 : KF := fun c i x r h => (fun (x0 x1 x2 : AV) =>
 tR (len x0 h) fun v3 h4 =>
 tR (o_slc 6 (.c x0) (.some (.c x1)) (.some (.c x2)) (.some (.c v3)) .nil h4) fun v5 h6 =>
 tR (b_eq x1 x2 h6) fun v7 h8 =>
 ifR v7 (.ret (T8 x0) h8) (tR (len x0 h8) fun v9 h10 =>
 x (T97 x0 x1 x2 v9) h10)) (y0 r) (y1 r) (y2 r)
def x239 : AC := (.shal k239_0 (.shal k239_1 .skip))
def z239 : List Rs := [.t .h0 .h6]
def f239 : AF := .mk x239 z239
def k240_0 : KF := fun c i x r h => (fun (x0 : AV) =>
 tR (bK (.isnil .s) x0 .nils h) fun v1 h2 =>
 ifR v1 (.ret (T14 .nils) h2) (tR (o_bslice 260 6 0 [] [] .nil h2) fun v3 h4 =>
 tR (appV 260 6 v3 x0 h4) fun v5 h6 =>
 .ret (T14 v5) h6)) (y0 r)
def x240 : AC := (.shal k240_0 .skip)
def z240 : List Rs := [.t .h0 .h2]
def f240 : AF := .mk x240 z240
def k242_2 : KF := fun c i x r h => (fun (x0 x1 : AV) =>
 tR (b_ge x0 (.int .u64 (.ofNat 256)) h) fun v2 h3 =>
 ifR v2 (tR (bK .shr x0 (.int .u64 (.ofNat 8)) h3) fun v4 h5 =>
 tR (b_add x1 (pi 8) h5) fun v6 h7 =>
 tR (cK (.toInt .u8) v4 h7) fun v8 h9 =>
 tR (o_idxs (.c (.str [0,1,2,2,3,3,3,3,4,4,4,4,4,4,4,4,5,5,5,5,5,5,5,5,5,5,5,5,5,5,5,5,6,6,6,6,6,6,6,6,6,6,6,6,6,6,6,6,6,6,6,6,6,6,6,6,6,6,6,6,6,6,6,6,7,7,7,7,7,7,7,7,7,7,7,7,7,7,7,7,7,7,7,7,7,7,7,7,7,7,7,7,7,7,7,7,7,7,7,7,7,7,7,7,7,7,7,7,7,7,7,7,7,7,7,7,7,7,7,7,7,7,7,7,7,7,7,7,8,8,8,8,8,8,8,8,8,8,8,8,8,8,8,8,8,8,8,8,8,8,8,8,8,8,8,8,8,8,8,8,8,8,8,8,8,8,8,8,8,8,8,8,8,8,8,8,8,8,8,8,8,8,8,8,8,8,8,8,8,8,8,8,8,8,8,8,8,8,8,8,8,8,8,8,8,8,8,8,8,8,8,8,8,8,8,8,8,8,8,8,8,8,8,8,8,8,8,8,8,8,8,8,8,8,8,8,8,8,8,8,8,8,8,8,8,8,8,8,8,8,8,8,8,8,8,8])) (.c v8) .nil h9) fun v10 h11 =>
 tR (cK (.toInt .i64) v10 h11) fun v12 h13 =>
 tR (b_add v6 v12 h13) fun v14 h15 =>
 x (T14 v14) h15) (tR (cK (.toInt .u8) x0 h3) fun v16 h17 =>
 tR (o_idxs (.c (.str [0,1,2,2,3,3,3,3,4,4,4,4,4,4,4,4,5,5,5,5,5,5,5,5,5,5,5,5,5,5,5,5,6,6,6,6,6,6,6,6,6,6,6,6,6,6,6,6,6,6,6,6,6,6,6,6,6,6,6,6,6,6,6,6,7,7,7,7,7,7,7,7,7,7,7,7,7,7,7,7,7,7,7,7,7,7,7,7,7,7,7,7,7,7,7,7,7,7,7,7,7,7,7,7,7,7,7,7,7,7,7,7,7,7,7,7,7,7,7,7,7,7,7,7,7,7,7,7,8,8,8,8,8,8,8,8,8,8,8,8,8,8,8,8,8,8,8,8,8,8,8,8,8,8,8,8,8,8,8,8,8,8,8,8,8,8,8,8,8,8,8,8,8,8,8,8,8,8,8,8,8,8,8,8,8,8,8,8,8,8,8,8,8,8,8,8,8,8,8,8,8,8,8,8,8,8,8,8,8,8,8,8,8,8,8,8,8,8,8,8,8,8,8,8,8,8,8,8,8,8,8,8,8,8,8,8,8,8,8,8,8,8,8,8,8,8,8,8,8,8,8,8,8,8,8,8])) (.c v16) .nil h17) fun v18 h19 =>
 tR (cK (.toInt .i64) v18 h19) fun v20 h21 =>
 tR (b_add x1 v20 h21) fun v22 h23 =>
 x (T14 v22) h23)) (y0 r) (y2 r)
def k242_1 : KF := fun c i x r h => (fun (x0 x1 : AV) =>
 tR (b_ge x0 (.int .u64 (.ofNat 65536)) h) fun v2 h3 =>
 ifR v2 (tR (bK .shr x0 (.int .u64 (.ofNat 16)) h3) fun v4 h5 =>
 tR (b_add x1 (pi 16) h5) fun v6 h7 =>
 x (T119 v4 v6) h7) (x (T119 x0 x1) h3)) (y0 r) (y2 r)
def k242_0 : KF := fun c i x r h => (fun (x0 : AV) =>
 tR (b_ge x0 (.int .u64 (.ofNat 4294967296)) h) fun v1 h2 =>
 ifR v1 (tR (bK .shr x0 (.int .u64 (.ofNat 32)) h2) fun v3 h4 =>
 x (T119 v3 (pi 32)) h4) (x (T119 x0 (pi 0)) h2)) (y0 r)
def x242 : AC := (.shal k242_0 (.shal k242_1 (.shal k242_2 .ret)))
def z242 : List Rs := [.t .h0 .h2]
def f242 : AF := .mk x242 z242
def k246_1 : KF := fun c i x r h => (fun (x0 x1 x2 x3 x4 : AV) =>
 ifR x4 (.nm (T97 x0 x1 x2 (pi 13)) h) (.nm (T97 x0 x1 x2 x3) h)) (y0 r) (y1 r) (y2 r) (y7 r) (y24 r)
def k246_3 : KF := fun c i x r h => (fun (x0 : AV) =>
 tR (nic x0 h) fun v1 h2 =>
 tR (fa 0 v1 h2) fun v3 h4 =>
 tR (ld v3 h4) fun v5 h6 =>
 tT (c 295 [v5,(.fn 296 [])] h6) fun v7 h8 =>
 .ret (T8 (pi 0)) h8) (y0 r)
def k246_2 : KF := fun c i x r h => (fun (x0 x1 x2 x3 : AV) =>
 tR (b_ne x3 (pi 0) h) fun v4 h5 =>
 ifR v4 (.ret (T8 x3) h5) (x (T93 x0 x1 x2) h5)) (y0 r) (y1 r) (y2 r) (y7 r)
def k246_0 : KF := fun c i x r h => (fun (x0 x1 x2 : AV) =>
 tT (c 293 [x0,x1] h) fun v3 h4 =>
 tR (b_eq v3 (pi 0) h4) fun v5 h6 =>
 ifR v5 (tT (c 294 [x2] h6) fun v7 h8 =>
 x (T97 x0 x1 x2 v7) h8) (x (T97 x0 x1 x2 v3) h6)) (y0 r) (y1 r) (y2 r)
def x246 : AC := (.shal k246_0 (.seq (.seq (.ops [m d15 r7,
 o d16 (.bin .eq r15 a0),
 m d17 r16,
 .g .h1 .h1 true d18 (.op (.mv r0)),
 .g .h1 .h1 true d19 (.op (.nilc r18)),
 .g .h1 .h1 true d20 (.op (.fad 0 r19)),
 .g .h1 .h1 true d21 (.op (.ld1 r20)),
 .g .h1 .h1 true d22 (.op (.len r21)),
 .g .h1 .h1 true d23 (.op (.bin .ge r22 (.c (pi 6)))),
 o d24 (.pick r17 r23 (.c (.bool false)))]) (.shal k246_1 .skip)) (.shal k246_2 (.seq (.drw [q 0 (m d34 r2),
 w (.o d35 (.call 77 [r34])),
 q 1 (m d33 r1),
 q 0 (o d36 (.build [(.str []),.nils] [.mk 0 1 r33,.mk 1 1 r35])),
 w (o d37 (.bslice 271 2 1 [(.str []),.nils] [.mk 0 2 r36])),
 q 2 (m d29 r0),
 q 2 (o d30 (.nilc r29)),
 q 2 (o d31 (.fad 0 r30)),
 q 2 (o d32 (.ld1 r31)),
 w (o d38 (.app 271 2 r32 r37)),
 q 3 (m d28 r0),
 q 0 (o d39 (.nilc r28)),
 q 0 (o d40 (.fad 0 r39)),
 w (o .no (.st1 r40 r38))]) (.shal k246_3 .skip)))))
def z246 : List Rs := [.t .h0 .h6]
def f246 : AF := .mk x246 z246
def k256_0 : KF := fun c i x r h => (fun (x0 x1 x2 : AV) =>
 tR (o_box 9 (.c x1) .nil h) fun v3 h4 =>
 tR (nic x0 h4) fun v5 h6 =>
 tR (fa 1 v5 h6) fun v7 h8 =>
 tR (ld v7 h8) fun v9 h10 =>
 tT (c 321 [v9,(.fn 322 [v3])] h10) fun v11 h12 =>
 tR (b_lt v11 (pi 0) h12) fun v13 h14 =>
 ifR v13 (tR (nic x0 h14) fun v15 h16 =>
 tR (fa 1 v15 h16) fun v17 h18 =>
 tR (ld v17 h18) fun v19 h20 =>
 tR (len v19 h20) fun v21 h22 =>
 x (T161 x0 x2 v3 v21) h22) (x (T161 x0 x2 v3 v11) h14)) (y0 r) (y1 r) (y2 r)
def x256 : AC := (.shal k256_0 (.drw [q 0 (m d27 r2),
 w (.o d28 (.call 77 [r27])),
 q 1 (o d26 (.ld1 r4)),
 q 0 (o d29 (.build [(.str []),.nils,.nils] [.mk 0 1 r26,.mk 1 1 r28])),
 w (o d30 (.bslice 204 3 1 [(.str []),.nils,.nils] [.mk 0 3 r29])),
 q 2 (m d21 r0),
 q 2 (o d22 (.nilc r21)),
 q 2 (o d23 (.fad 1 r22)),
 q 2 (o d24 (.ld1 r23)),
 q 2 (m d25 r6),
 w (.o d31 (.call 323 [r24,r25,r30])),
 q 3 (m d20 r0),
 q 0 (o d32 (.nilc r20)),
 q 0 (o d33 (.fad 1 r32)),
 w (o .no (.st1 r33 r31))]))
def z256 : List Rs := []
def f256 : AF := .mk x256 z256
def k263_0 : KF := fun c i x r h => (fun (x0 x1 : AV) =>
 tR (o_ldn 2 (.c x1) .nil h) fun v2 h3 =>
 tT (c 120 [x0,v2] h3) fun v4 h5 =>
 .nm T5 h5) (y0 r) (y1 r)
def x263 : AC := (.shal k263_0 .skip)
def z263 : List Rs := []
def f263 : AF := .mk x263 z263
def k265_0 : KF := fun c i x r h => (fun (x0 x1 : AV) =>
 x (T7 x0 x1) h) (y0 r) (y1 r)
def x265 : AC := (.shal k265_0 (.seq (.ops [m d5 r1,
 o d6 (.bin .ge r5 a0),
 m d7 r6,
 .g .h0 .h7 true d8 (.op (.mv r1)),
 .g .h0 .h7 true d9 (.op (.mv r0)),
 .g .h0 .h7 true d10 (.op (.nilc r9)),
 .g .h0 .h7 true d11 (.op (.fad 1 r10)),
 .g .h0 .h7 true d12 (.op (.ld1 r11)),
 .g .h0 .h7 true d13 (.op (.bin .lt r8 r12)),
 o d14 (.pick r7 r13 (.c (.bool false))),
 m d4 r14]) .ret))
def z265 : List Rs := [.t .h0 .h4]
def f265 : AF := .mk x265 z265
def k266_0 : KF := fun c i x r h => (fun (x0 x1 x2 x3 x4 : AV) =>
 tR (o_ldn 2 (.c x1) .nil h) fun v5 h6 =>
 tT (c 120 [x0,v5] h6) fun v7 h8 =>
 tR (ld x2 h8) fun v9 h10 =>
 tT (c 57 [x0,v9] h10) fun v11 h12 =>
 tR (ld x3 h12) fun v13 h14 =>
 tR (b_eq v13 (pi 2) h14) fun v15 h16 =>
 ifR v15 (tR (ld x4 h16) fun v17 h18 =>
 tT (c 121 [x0,v17] h18) fun v19 h20 =>
 .nm T5 h20) (.nm T5 h16)) (y0 r) (y1 r) (y2 r) (y3 r) (y4 r)
def x266 : AC := (.shal k266_0 .skip)
def z266 : List Rs := []
def f266 : AF := .mk x266 z266
def k267_1 : KF := fun c i x r h => (fun (x0 x1 x2 x3 x4 : AV) =>
 ifR x4 (.ret (T139 (.bool false)) h) (.nm (T162 x0 x1 x2 x3) h)) (y0 r) (y2 r) (y3 r) (y5 r) (y27 r)
def k267_3 : KF := fun c i x r h => (fun (x0 x1 : AV) =>
 tR (nic x0 h) fun v2 h3 =>
 tR (fa 3 v2 h3) fun v4 h5 =>
 tR (ld v4 h5) fun v6 h7 =>
 tR (b_add x1 (pi 1) h7) fun v8 h9 =>
 tR (maxV false [v6,v8] h9) fun v10 h11 =>
 tR (nic x0 h11) fun v12 h13 =>
 tR (fa 3 v12 h13) fun v14 h15 =>
 tR (sto v14 v10 h15) fun v16 h17 =>
 .ret (T139 (.bool true)) h17) (y0 r) (y2 r)
def k267_2 : KF := fun c i x r h => (fun (x0 x1 x2 x3 : AV) =>
 tR (o_ldn 2 (.c x3) .nil h) fun v4 h5 =>
 tR (nic x0 h5) fun v6 h7 =>
 tR (fa 0 v6 h7) fun v8 h9 =>
 tR (o_stn 2 (.c v8) (.c v4) .nil h9) fun v10 h11 =>
 tQ (nic x0 h11) fun v12 =>
 tQ (fa 2 v12 h11) fun v13 =>
 tQ (ld v13 h11) fun v14 =>
 tQ (o_ldn 2 (.c x3) .nil h11) fun v15 =>
 tQ (o_build [(pi 0),(pi 0),(pi 0),(.str [])] [.mk 0 1 (.c x1),.mk 1 2 (.c v15),.mk 3 1 (.c x2)] .nil h11) fun v16 =>
 tX (RV.toT (mup (.one .i) v14 x1 v16 h11)) fun v17 h18 =>
 x (T119 x0 x1) h18) (y0 r) (y2 r) (y3 r) (y5 r)
def k267_0 : KF := fun c i x r h => (fun (x0 x1 x2 x3 : AV) =>
 tR (o_box 208 (.c x1) .nil h) fun v4 h5 =>
 x (T162 x0 x2 x3 v4) h5) (y0 r) (y1 r) (y2 r) (y3 r)
def x267 : AC := (.shal k267_0 (.seq (.seq (.drw [q 0 (o d9 (.ldn 2 r5)),
 q 0 (m d10 r0),
 q 0 (o d11 (.nilc r10)),
 q 0 (o d12 (.fad 0 r11)),
 q 0 (o d13 (.ldn 2 r12)),
 w (.o d14 (.call 166 [r9,r13])),
 q 0 (m d15 r14),
 q 0 (.g .h0 .hf false d16 (.op (.ldn 2 r5))),
 q 0 (.g .h0 .hf false d17 (.op (.build [(pi 0),(pi 0)] []))),
 q 0 (.g .h0 .hf false d18 (.op (.bin (.aeq [.i,.i]) r16 r17))),
 q 0 (o d19 (.pick r15 (.c (.bool true)) r18)),
 q 0 (m d20 r19),
 q 0 (.g .h1 .h4 false d21 (.op (.mv r2))),
 q 0 (.g .h1 .h4 false d22 (.op (.bin .lt r21 a0))),
 q 0 (o d23 (.pick r20 (.c (.bool true)) r22)),
 q 0 (m d24 r23),
 q 0 (.g .h1 .h8 false d25 (.op (.mv r2))),
 q 0 (.g .h1 .h8 false d26 (.op (.bin .ge r25 (.c (pi 1048576))))),
 q 0 (o d27 (.pick r24 (.c (.bool true)) r26))]) (.shal k267_1 .skip)) (.shal k267_2 (.shal k267_3 .skip))))
def z267 : List Rs := [.t .h0 .h8]
def f267 : AF := .mk x267 z267
def k268_0 : KF := fun c i x r h => (fun (x0 x1 : AV) =>
 tR (b_mul (pi 2) x1 h) fun v2 h3 =>
 tR (nic x0 h3) fun v4 h5 =>
 tR (fa 1 v4 h5) fun v6 h7 =>
 tR (ld v6 h7) fun v8 h9 =>
 tR (b_gt v2 v8 h9) fun v10 h11 =>
 .ret (T1 v10) h11) (y0 r) (y1 r)
def x268 : AC := (.shal k268_0 .skip)
def z268 : List Rs := [.t .h0 .h4]
def f268 : AF := .mk x268 z268
def k269_0 : KF := fun c i x r h => (fun (x0 : AV) =>
 tR (nic x0 h) fun v1 h2 =>
 tR (fa 6 v1 h2) fun v3 h4 =>
 tR (ld v3 h4) fun v5 h6 =>
 tR (o_lenm (.c v5) .nil h6) fun v7 h8 =>
 tT (c 268 [x0,v7] h8) fun v9 h10 =>
 .ret (T14 v9) h10) (y0 r)
def x269 : AC := (.shal k269_0 .skip)
def z269 : List Rs := [.t .h0 .h2]
def f269 : AF := .mk x269 z269
def k270_0 : KF := fun c i x r h => (fun (x0 x1 x2 : AV) =>
 tR (ld x1 h) fun v3 h4 =>
 tR (ld x2 h4) fun v5 h6 =>
 tR (o_build [(pi 0),(pi 0),(pi 0),(.str [])] [.mk 0 1 (.c v3),.mk 3 1 (.c v5)] .nil h6) fun v7 h8 =>
 tR (o_bslice 227 4 1 [(pi 0),(pi 0),(pi 0),(.str [])] [.mk 0 4 (.c v7)] .nil h8) fun v9 h10 =>
 tT (c 208 [x0,v9] h10) fun v11 h12 =>
 .nm T5 h12) (y0 r) (y1 r) (y2 r)
def x270 : AC := (.shal k270_0 .skip)
def z270 : List Rs := []
def f270 : AF := .mk x270 z270
def k271_0 : KF := fun c i x r h => (fun (x0 x1 : AV) =>
 tR (len x1 h) fun v2 h3 =>
 tR (nic x0 h3) fun v4 h5 =>
 tR (fa 0 v4 h5) fun v6 h7 =>
 tR (ld v6 h7) fun v8 h9 =>
 tR (len v8 h9) fun v10 h11 =>
 tR (b_sub (pi 4194304) v10 h11) fun v12 h13 =>
 tR (b_gt v2 v12 h13) fun v14 h15 =>
 ifR v14 (.ret (T1 (pi 13)) h15) (tR (nic x0 h15) fun v16 h17 =>
 tR (fa 0 v16 h17) fun v18 h19 =>
 tR (ld v18 h19) fun v20 h21 =>
 tR (appV 5 1 v20 x1 h21) fun v22 h23 =>
 tR (nic x0 h23) fun v24 h25 =>
 tR (fa 0 v24 h25) fun v26 h27 =>
 tR (sto v26 v22 h27) fun v28 h29 =>
 x (T1 (pi 0)) h29)) (y0 r) (y1 r)
def x271 : AC := (.shal k271_0 .ret)
def z271 : List Rs := [.t .h0 .h4]
def f271 : AF := .mk x271 z271
def k272_0 : KF := fun c i x r h => (fun (x0 : AV) =>
 tR (nic x0 h) fun v1 h2 =>
 tR (fa 0 v1 h2) fun v3 h4 =>
 tR (ld v3 h4) fun v5 h6 =>
 tR (len v5 h6) fun v7 h8 =>
 tR (nic x0 h8) fun v9 h10 =>
 tR (fa 1 v9 h10) fun v11 h12 =>
 tR (sto v11 v7 h12) fun v13 h14 =>
 .nm T5 h14) (y0 r)
def x272 : AC := (.shal k272_0 .skip)
def z272 : List Rs := []
def f272 : AF := .mk x272 z272
def k273_3 : KF := fun c i x r h => (fun (x0 x1 x2 x3 : AV) =>
 tR (b_add x3 (pi 1) h) fun v4 h5 =>
 .nm (T0 x0 x1 x2 v4) h5) (y0 r) (y1 r) (y5 r) (y6 r)
def k273_2 : KF := fun c i x r h => (fun (x0 x1 x2 x3 : AV) =>
 tR (len x0 h) fun v4 h5 =>
 tR (b_lt x3 v4 h5) fun v6 h7 =>
 ifR v6 (tR (ix 1 x0 x3 h7) fun v8 h9 =>
 tR (ld v8 h9) fun v10 h11 =>
 tT (AV.onFn x1 (fun f l => c f (List.append [v10] l) h11) (.err 202)) fun v12 h13 =>
 tR (u_not v12 h13) fun v14 h15 =>
 ifR v14 (tR (ix 1 x0 x2 h15) fun v16 h17 =>
 tR (sto v16 v10 h17) fun v18 h19 =>
 tR (b_add x2 (pi 1) h19) fun v20 h21 =>
 x (T0 x0 x1 v20 x3) h21) (x (T0 x0 x1 x2 x3) h15)) (.ex 0 (T41 x0 x2) h7)) (y0 r) (y1 r) (y5 r) (y6 r)
def k273_1 : KF := fun c i x r h => (fun (x0 x1 x2 : AV) =>
 tR (b_add x2 (pi 1) h) fun v3 h4 =>
 x (T0 x0 x1 x2 v3) h4) (y0 r) (y1 r) (y5 r)
def k273_4 : KF := fun c i x r h => (fun (x0 x1 : AV) =>
 tR (o_slc 1 (.c x0) (.some (.c x1)) .none .none .nil h) fun v2 h3 =>
 tR (o_clr [(pi 0)] (.c v2) .nil h3) fun v4 h5 =>
 tR (o_slc 1 (.c x0) .none (.some (.c x1)) .none .nil h5) fun v6 h7 =>
 .ret (T1 v6) h7) (y0 r) (y5 r)
def k273_0 : KF := fun c i x r h => (fun (x0 x1 : AV) =>
 tT (c 334 [x0,x1] h) fun v2 h3 =>
 tR (b_eq v2 (ni 0) h3) fun v4 h5 =>
 ifR v4 (.ret (T1 x0) h5) (x (T2 x0 x1 v2) h5)) (y0 r) (y1 r)
def x273 : AC := (.shal k273_0 (.seq (.shal k273_1 (.block 0 (.loop (.shal k273_2 (.shal k273_3 .skip))))) (.shal k273_4 .skip)))
def z273 : List Rs := [.t .h0 .h4]
def f273 : AF := .mk x273 z273
def k274_0 : KF := fun c i x r h => (fun (x0 : AV) =>
 tT (c 335 [x0] h) fun v1 h2 =>
 tT (c 336 [v1] h2) fun v3 h4 =>
 .ret (T14 v1) h4) (y0 r)
def x274 : AC := (.shal k274_0 .skip)
def z274 : List Rs := [.t .h0 .h2]
def f274 : AF := .mk x274 z274
def k275_0 : KF := fun c i x r h => (fun (x0 : AV) =>
 tR (o_box 118 (.c x0) .nil h) fun v1 h2 =>
 .ret (T14 (.fn 337 [v1])) h2) (y0 r)
def x275 : AC := (.shal k275_0 .skip)
def z275 : List Rs := [.t .h0 .h2]
def f275 : AF := .mk x275 z275
def k277_0 : KF := fun c i x r h => (fun (x0 x1 x2 x3 : AV) =>
 tR (o_ldn 2 (.c x1) .nil h) fun v4 h5 =>
 tT (c 120 [x0,v4] h5) fun v6 h7 =>
 tR (ld x2 h7) fun v8 h9 =>
 tT (c 57 [x0,v8] h9) fun v10 h11 =>
 tR (ld x3 h11) fun v12 h13 =>
 tT (c 121 [x0,v12] h13) fun v14 h15 =>
 .nm T5 h15) (y0 r) (y1 r) (y2 r) (y3 r)
def x277 : AC := (.shal k277_0 .skip)
def z277 : List Rs := []
def f277 : AF := .mk x277 z277
def k286_2 : KF := fun c i x r h => (fun (x0 x1 x2 x3 : AV) =>
 tR (b_lt x3 x2 h) fun v4 h5 =>
 ifR v4 (tR (ix 1 x1 x3 h5) fun v6 h7 =>
 tR (ld v6 h7) fun v8 h9 =>
 tR (b_ne v8 x0 h9) fun v10 h11 =>
 ifR v10 (.ret (T14 v8) h11) (tR (b_add x3 (pi 1) h11) fun v12 h13 =>
 .nm (T84 x0 x1 x2 v12) h13)) (.ex 0 (T84 x0 x1 x2 x3) h5)) (y3 r) (y6 r) (y7 r) (y8 r)
def k286_1 : KF := fun c i x r h => (fun (x0 x1 : AV) =>
 tR (len x0 h) fun v2 h3 =>
 x (T84 x1 x0 v2 (pi 0)) h3) (y0 r) (y3 r)
def k286_3 : KF := fun c i x r h => (fun (x0 : AV) =>
 .ret (T14 x0) h) (y3 r)
def k286_0 : KF := fun c i x r h => (fun (x0 : AV) =>
 x (T15 x0 (pi 0)) h) (y0 r)
def x286 : AC := (.shal k286_0 (.seq (.shal k286_1 (.block 0 (.loop (.shal k286_2 .skip)))) (.shal k286_3 .skip)))
def z286 : List Rs := [.t .h0 .h2]
def f286 : AF := .mk x286 z286
def k287_1 : KF := fun c i x r h => (fun (x0 x1 : AV) =>
 tR (b_lt x0 x1 h) fun v2 h3 =>
 ifR v2 (.ret (T1 (ni 0)) h3) (tR (b_gt x0 x1 h3) fun v4 h5 =>
 ifR v4 (.ret (T1 (pi 1)) h5) (.ret (T1 (pi 0)) h5))) (y0 r) (y1 r)
def k287_0 : KF := fun c i x r h => (fun (x0 x1 : AV) =>
 tT (c 344 [x0] h) fun v2 h3 =>
 tT (c 344 [x1] h3) fun v4 h5 =>
 ifR v2 (ifR v4 (.ret (T1 (pi 0)) h5) (.ret (T1 (ni 0)) h5)) (ifR v4 (.ret (T1 (pi 1)) h5) (x (T7 x0 x1) h5))) (y0 r) (y1 r)
def x287 : AC := (.shal k287_0 (.shal k287_1 .skip))
def z287 : List Rs := [.t .h0 .h4]
def f287 : AF := .mk x287 z287
def k290_0 : KF := fun c i x r h => (fun (x0 : AV) =>
 ifR (.bool false) (tR (cK (.toInt .u32) x0 h) fun v1 h2 =>
 tT (c 353 [v1] h2) fun v3 h4 =>
 .ret (T14 v3) h4) (tT (c 242 [x0] h) fun v5 h6 =>
 .ret (T14 v5) h6)) (y0 r)
def x290 : AC := (.shal k290_0 .skip)
def z290 : List Rs := [.t .h0 .h2]
def f290 : AF := .mk x290 z290
def k293_2 : KF := fun c i x r h => .ret (T1 (pi 20)) h
def k293_3 : KF := fun c i x r h => (fun (x0 : AV) =>
 ifR x0 (.ret (T1 (pi 21)) h) (.nm T5 h)) (y9 r)
def k293_1 : KF := fun c i x r h => (fun (x0 x1 : AV) =>
 tT (c 354 [x1] h) fun v2 h3 =>
 tR (u_not v2 h3) fun v4 h5 =>
 x (T2 x0 x1 v4) h5) (y0 r) (y1 r)
def k293_4 : KF := fun c i x r h => .ret (T1 (pi 0)) h
def k293_0 : KF := fun c i x r h => (fun (x0 x1 : AV) =>
 x (T7 x0 x1) h) (y0 r) (y1 r)
def x293 : AC := (.shal k293_0 (.seq (.block 0 (.shal k293_1 (.cond r5 (.shal k293_2 .skip) (.seq (.ops [m d10 r0,
 m d11 r1,
 .o d12 (.call 324 [r10,r11]),
 o d13 (.bin .ge r12 a0),
 m d14 r13,
 .g .h0 .he false d15 (.op (.mv r0)),
 .g .h0 .he false d16 (.op (.mv r1)),
 .g .h0 .he false d17 (.call 328 [r15,r16]),
 .g .h0 .he false d18 (.op (.bin .ge r17 a0)),
 o d19 (.pick r14 (.c (.bool true)) r18),
 m d9 r19]) (.shal k293_3 .skip))))) (.shal k293_4 .skip)))
def z293 : List Rs := [.t .h0 .h4]
def f293 : AF := .mk x293 z293
def k294_1 : KF := fun c i x r h => (fun (x0 x1 : AV) =>
 ifR x1 (.ret (T14 (pi 23)) h) (.nm (T13 x0) h)) (y0 r) (y14 r)
def k294_5 : KF := fun c i x r h => (fun (x0 x1 x2 x3 x4 x5 x6 : AV) =>
 ifR x6 (.ret (T14 (pi 20)) h) (.nm (T164 x0 x1 x2 x3 x4 x5) h)) (y0 r) (y3 r) (y4 r) (y15 r) (y16 r) (y17 r) (y35 r)
def k294_6 : KF := fun c i x r h => (fun (x0 x1 x2 x3 x4 x5 : AV) =>
 tQ (o_slc 2 (.c x0) .none (.some (.c x1)) .none .nil h) fun v6 =>
 tQ (fa 0 x2 h) fun v7 =>
 tQ (ld v7 h) fun v8 =>
 tX (c 355 [v6,v8] h) fun v9 h10 =>
 tQ (o_ext 0 (.c v9) .nil h10) fun v11 =>
 tQ (o_ext 1 (.c v9) .nil h10) fun v12 =>
 ifR v12 (.ret (T14 (pi 21)) h10) (.nm (T163 x0 x3 x4 x5) h10)) (y0 r) (y3 r) (y4 r) (y15 r) (y16 r) (y17 r)
def k294_4 : KF := fun c i x r h => (fun (x0 x1 x2 x3 : AV) =>
 tR (ix 2 x1 x3 h) fun v4 h5 =>
 tR (o_ldn 2 (.c v4) .nil h5) fun v6 h7 =>
 tR (o_alloc 65 2 (.k1 (.mk (.str []) (pi 0) .undef .undef .undef .undef .undef .undef .undef .undef .undef .undef .undef .undef .undef .undef)) .nil h7) fun v8 h9 =>
 tR (o_stn 2 (.c v8) (.c v6) .nil h9) fun v10 h11 =>
 x (T164 x0 x3 v8 x1 x2 x3) h11) (y0 r) (y15 r) (y16 r) (y17 r)
def k294_7 : KF := fun c i x r h => (fun (x0 x1 x2 x3 : AV) =>
 tR (b_add x3 (pi 1) h) fun v4 h5 =>
 .nm (T163 x0 x1 x2 v4) h5) (y0 r) (y15 r) (y16 r) (y17 r)
def k294_3 : KF := fun c i x r h => (fun (x0 x1 x2 x3 : AV) =>
 tR (b_lt x3 x2 h) fun v4 h5 =>
 ifR v4 (x (T163 x0 x1 x2 x3) h5) (.ex 0 T5 h5)) (y0 r) (y15 r) (y16 r) (y17 r)
def k294_2 : KF := fun c i x r h => (fun (x0 : AV) =>
 tR (len x0 h) fun v1 h2 =>
 x (T163 x0 x0 v1 (pi 0)) h2) (y0 r)
def k294_8 : KF := fun c i x r h => .ret (T14 (pi 0)) h
def k294_0 : KF := fun c i x r h => (fun (x0 : AV) =>
 x (T13 x0) h) (y0 r)
def x294 : AC := (.shal k294_0 (.seq (.seq (.ops [m d7 r0,
 o d8 (.len r7),
 o d9 (.bin .eq r8 a0),
 m d10 r9,
 .g .h0 .ha false d11 (.op (.mv r0)),
 .g .h0 .ha false d12 (.op (.len r11)),
 .g .h0 .ha false d13 (.op (.bin .gt r12 (.c (pi 6)))),
 o d14 (.pick r10 (.c (.bool true)) r13)]) (.shal k294_1 .skip)) (.seq (.shal k294_2 (.block 0 (.loop (.shal k294_3 (.seq (.block 1 (.shal k294_4 (.seq (.seq (.ops [o d22 (.fad 0 r4),
 o d23 (.ld1 r22),
 .o d24 (.call 354 [r23]),
 o d25 (.un .not r24),
 m d26 r25,
 .g .h1 .ha false d27 (.op (.fad 1 r4)),
 .g .h1 .ha false d28 (.op (.ld1 r27)),
 .g .h1 .ha false d29 (.op (.bin .ne r28 a1)),
 .g .h1 .ha false d30 (.op (.mv r29)),
 .g .h1 .he true d31 (.op (.fad 1 r4)),
 .g .h1 .he true d32 (.op (.ld1 r31)),
 .g .h1 .he true d33 (.op (.bin .ne r32 a2)),
 .g .h1 .ha false d34 (.op (.pick r30 r33 (.c (.bool false)))),
 o d35 (.pick r26 (.c (.bool true)) r34)]) (.shal k294_5 .skip)) (.shal k294_6 .skip)))) (.shal k294_7 .skip)))))) (.shal k294_8 .skip))))
def z294 : List Rs := [.t .h0 .h2]
def f294 : AF := .mk x294 z294
def k295_0 : KF := fun c i x r h => (fun (x0 x1 : AV) =>
 tR (len x0 h) fun v2 h3 =>
 tR (cK (.toInt .u64) v2 h3) fun v4 h5 =>
 tT (c 290 [v4] h5) fun v6 h7 =>
 tT (c 356 [x0,(pi 0),v2,v6,x1] h7) fun v8 h9 =>
 .nm T5 h9) (y0 r) (y1 r)
def x295 : AC := (.shal k295_0 .skip)
def z295 : List Rs := []
def f295 : AF := .mk x295 z295
def k321_2 : KF := fun c i x r h => (fun (x0 x1 x2 x3 : AV) =>
 tR (b_lt x3 x2 h) fun v4 h5 =>
 ifR v4 (tR (ix 3 x0 x3 h5) fun v6 h7 =>
 tR (o_ldn 3 (.c v6) .nil h7) fun v8 h9 =>
 tT (AV.onFn x1 (fun f l => c f (List.append [v8] l) h9) (.err 202)) fun v10 h11 =>
 ifR v10 (.ret (T1 x3) h11) (tR (b_add x3 (pi 1) h11) fun v12 h13 =>
 .nm (T160 x0 x1 x2 v12) h13)) (.ex 0 (T160 x0 x1 x2 x3) h5)) (y0 r) (y1 r) (y7 r) (y8 r)
def k321_1 : KF := fun c i x r h => (fun (x0 x1 : AV) =>
 tR (len x0 h) fun v2 h3 =>
 x (T160 x0 x1 v2 (pi 0)) h3) (y0 r) (y1 r)
def k321_3 : KF := fun c i x r h => .ret (T1 (ni 0)) h
def k321_0 : KF := fun c i x r h => (fun (x0 x1 : AV) =>
 x (T7 x0 x1) h) (y0 r) (y1 r)
def x321 : AC := (.shal k321_0 (.seq (.shal k321_1 (.block 0 (.loop (.shal k321_2 .skip)))) (.shal k321_3 .skip)))
def z321 : List Rs := [.t .h0 .h4]
def f321 : AF := .mk x321 z321
def k323_2 : KF := fun c i x r h => (fun (x0 x1 x2 x3 x4 : AV) =>
 tR (b_add x4 x3 h) fun v5 h6 =>
 tR (o_cap (.c x0) .nil h6) fun v7 h8 =>
 tR (b_gt v5 v7 h8) fun v9 h10 =>
 x (T166 x0 x1 x2 x3 x4 v9) h10) (y0 r) (y1 r) (y2 r) (y7 r) (y8 r)
def k323_5 : KF := fun c i x r h => (fun (x0 x1 x2 x3 x4 : AV) =>
 tR (o_slc 3 (.c x0) (.some (.c x4)) .none .none .nil h) fun v5 h6 =>
 tR (cpyV 3 v5 x2 h6) fun v7 h8 =>
 tR (o_slc 3 (.c x0) (.some (.c x1)) .none .none .nil h8) fun v9 h10 =>
 tT (c 407 [v9,x3] h10) fun v11 h12 =>
 .ret (T8 x0) h12) (y0 r) (y1 r) (y2 r) (y7 r) (y8 r)
def k323_4 : KF := fun c i x r h => (fun (x0 x1 x2 x3 x4 : AV) =>
 tR (b_add x1 x3 h) fun v5 h6 =>
 tR (o_slc 3 (.c x0) (.some (.c v5)) .none .none .nil h6) fun v7 h8 =>
 tT (c 406 [x2,v7] h8) fun v9 h10 =>
 tR (u_not v9 h10) fun v11 h12 =>
 ifR v11 (tQ (b_add x1 x3 h12) fun v13 =>
 tQ (o_slc 3 (.c x0) (.some (.c v13)) .none .none .nil h12) fun v14 =>
 tQ (o_slc 3 (.c x0) (.some (.c x1)) .none .none .nil h12) fun v15 =>
 tX (RV.toT (cpyV 3 v14 v15 h12)) fun v16 h17 =>
 tR (o_slc 3 (.c x0) (.some (.c x1)) .none .none .nil h17) fun v18 h19 =>
 tR (cpyV 3 v18 x2 h19) fun v20 h21 =>
 .ret (T8 x0) h21) (x (T165 x0 x1 x2 x3 x4) h12)) (y0 r) (y1 r) (y2 r) (y7 r) (y8 r)
def k323_3 : KF := fun c i x r h => (fun (x0 x1 x2 x3 x4 : AV) =>
 tR (b_add x4 x3 h) fun v5 h6 =>
 tR (o_slc 3 (.c x0) .none (.some (.c v5)) .none .nil h6) fun v7 h8 =>
 x (T165 v7 x1 x2 x3 x4) h8) (y0 r) (y1 r) (y2 r) (y7 r) (y8 r)
def k323_1 : KF := fun c i x r h => (fun (x0 x1 x2 x3 x4 : AV) =>
 tR (b_eq x1 x4 h) fun v5 h6 =>
 ifR v5 (tR (appV 204 3 x0 x2 h6) fun v7 h8 =>
 .ret (T8 v7) h8) (x (T165 x0 x1 x2 x3 x4) h6)) (y0 r) (y1 r) (y2 r) (y7 r) (y8 r)
def k323_0 : KF := fun c i x r h => (fun (x0 x1 x2 : AV) =>
 tR (o_slc 3 (.c x0) (.some (.c x1)) .none .none .nil h) fun v3 h4 =>
 tR (len x2 h4) fun v5 h6 =>
 tR (b_eq v5 (pi 0) h6) fun v7 h8 =>
 ifR v7 (.ret (T8 x0) h8) (tR (len x0 h8) fun v9 h10 =>
 x (T165 x0 x1 x2 v5 v9) h10)) (y0 r) (y1 r) (y2 r)
def x323 : AC := (.shal k323_0 (.shal k323_1 (.seq (.shal k323_2 (.cond r31 (.bad 0) .skip)) (.shal k323_3 (.shal k323_4 (.shal k323_5 .skip))))))
def z323 : List Rs := [.t .h0 .h6]
def f323 : AF := .mk x323 z323
def k324_0 : KF := fun c i x r h => (fun (x0 x1 : AV) =>
 tR (o_box 9 (.c x1) .nil h) fun v2 h3 =>
 tR (nic x0 h3) fun v4 h5 =>
 tR (fa 0 v4 h5) fun v6 h7 =>
 tR (ld v6 h7) fun v8 h9 =>
 tT (c 383 [v8,(.fn 408 [v2])] h9) fun v10 h11 =>
 .ret (T1 v10) h11) (y0 r) (y1 r)
def x324 : AC := (.shal k324_0 .skip)
def z324 : List Rs := [.t .h0 .h4]
def f324 : AF := .mk x324 z324
def k328_0 : KF := fun c i x r h => (fun (x0 x1 : AV) =>
 tR (o_box 9 (.c x1) .nil h) fun v2 h3 =>
 tR (nic x0 h3) fun v4 h5 =>
 tR (fa 1 v4 h5) fun v6 h7 =>
 tR (ld v6 h7) fun v8 h9 =>
 tT (c 411 [v8,(.fn 412 [v2])] h9) fun v10 h11 =>
 .ret (T1 v10) h11) (y0 r) (y1 r)
def x328 : AC := (.shal k328_0 .skip)
def z328 : List Rs := [.t .h0 .h4]
def f328 : AF := .mk x328 z328
def k334_2 : KF := fun c i x r h => (fun (x0 x1 x2 x3 : AV) =>
 tR (b_lt x3 x2 h) fun v4 h5 =>
 ifR v4 (tR (ix 1 x0 x3 h5) fun v6 h7 =>
 tR (ld v6 h7) fun v8 h9 =>
 tT (AV.onFn x1 (fun f l => c f (List.append [v8] l) h9) (.err 202)) fun v10 h11 =>
 ifR v10 (.ret (T1 x3) h11) (tR (b_add x3 (pi 1) h11) fun v12 h13 =>
 .nm (T160 x0 x1 x2 v12) h13)) (.ex 0 (T160 x0 x1 x2 x3) h5)) (y0 r) (y1 r) (y7 r) (y8 r)
def k334_1 : KF := fun c i x r h => (fun (x0 x1 : AV) =>
 tR (len x0 h) fun v2 h3 =>
 x (T160 x0 x1 v2 (pi 0)) h3) (y0 r) (y1 r)
def k334_3 : KF := fun c i x r h => .ret (T1 (ni 0)) h
def k334_0 : KF := fun c i x r h => (fun (x0 x1 : AV) =>
 x (T7 x0 x1) h) (y0 r) (y1 r)
def x334 : AC := (.shal k334_0 (.seq (.shal k334_1 (.block 0 (.loop (.shal k334_2 .skip)))) (.shal k334_3 .skip)))
def z334 : List Rs := [.t .h0 .h4]
def f334 : AF := .mk x334 z334
def k335_0 : KF := fun c i x r h => (fun (x0 : AV) =>
 tT (c 417 [.nils,x0] h) fun v1 h2 =>
 .ret (T14 v1) h2) (y0 r)
def x335 : AC := (.shal k335_0 .skip)
def z335 : List Rs := [.t .h0 .h2]
def f335 : AF := .mk x335 z335
def k336_0 : KF := fun c i x r h => (fun (x0 : AV) =>
 tR (len x0 h) fun v1 h2 =>
 tR (cK (.toInt .u64) v1 h2) fun v3 h4 =>
 tT (c 290 [v3] h4) fun v5 h6 =>
 tT (c 418 [x0,(pi 0),v1,v5] h6) fun v7 h8 =>
 .nm T5 h8) (y0 r)
def x336 : AC := (.shal k336_0 .skip)
def z336 : List Rs := []
def f336 : AF := .mk x336 z336
def k344_0 : KF := fun c i x r h => (fun (x0 : AV) =>
 tR (b_ne x0 x0 h) fun v1 h2 =>
 .ret (T14 v1) h2) (y0 r)
def x344 : AC := (.shal k344_0 .skip)
def z344 : List Rs := [.t .h0 .h2]
def f344 : AF := .mk x344 z344
def k354_1 : KF := fun c i x r h => (fun (x0 x1 : AV) =>
 ifR x1 (.ret (T14 (.bool false)) h) (.nm (T13 x0) h)) (y0 r) (y14 r)
def k354_5 : KF := fun c i x r h => (fun (x0 x1 x2 x3 : AV) =>
 ifR x3 (.ret (T14 (.bool false)) h) (.nm (T167 x0 x1 x2) h)) (y0 r) (y16 r) (y17 r) (y29 r)
def k354_4 : KF := fun c i x r h => (fun (x0 x1 x2 : AV) =>
 x (T168 x0 x2 x1 x2) h) (y0 r) (y16 r) (y17 r)
def k354_6 : KF := fun c i x r h => (fun (x0 x1 x2 : AV) =>
 tR (b_add x2 (pi 1) h) fun v3 h4 =>
 .nm (T167 x0 x1 v3) h4) (y0 r) (y16 r) (y17 r)
def k354_3 : KF := fun c i x r h => (fun (x0 x1 x2 : AV) =>
 tR (b_lt x2 x1 h) fun v3 h4 =>
 ifR v3 (x (T167 x0 x1 x2) h4) (.ex 0 T5 h4)) (y0 r) (y16 r) (y17 r)
def k354_2 : KF := fun c i x r h => (fun (x0 : AV) =>
 tR (lent x0 h) fun v1 h2 =>
 x (T167 x0 v1 (pi 0)) h2) (y0 r)
def k354_7 : KF := fun c i x r h => .ret (T14 (.bool true)) h
def k354_0 : KF := fun c i x r h => (fun (x0 : AV) =>
 x (T13 x0) h) (y0 r)
def x354 : AC := (.shal k354_0 (.seq (.seq (.ops [m d4 r0,
 o d5 (.bin .seq r4 (.c (.str []))),
 m d6 r5,
 .g .h0 .h6 false d7 (.op (.mv r0)),
 .g .h0 .h6 false d8 (.op (.lent r7)),
 .g .h0 .h6 false d9 (.op (.bin .gt r8 (.c (pi 12)))),
 o d10 (.pick r6 (.c (.bool true)) r9),
 m d11 r10,
 .g .h0 .hb false d12 (.op (.mv r0)),
 .g .h0 .hb false d13 (.call 430 [r12]),
 o d14 (.pick r11 (.c (.bool true)) r13)]) (.shal k354_1 .skip)) (.seq (.shal k354_2 (.block 0 (.loop (.shal k354_3 (.seq (.block 1 (.shal k354_4 (.seq (.ops [m d20 r0,
 m d21 r3,
 o d22 (.idxs r20 r21),
 o d23 (.bin .lt r22 (.c (.int .u8 (.ofNat 97)))),
 m d24 r23,
 .g .h1 .h8 false d25 (.op (.mv r0)),
 .g .h1 .h8 false d26 (.op (.mv r3)),
 .g .h1 .h8 false d27 (.op (.idxs r25 r26)),
 .g .h1 .h8 false d28 (.op (.bin .gt r27 (.c (.int .u8 (.ofNat 122))))),
 o d29 (.pick r24 (.c (.bool true)) r28)]) (.shal k354_5 .skip)))) (.shal k354_6 .skip)))))) (.shal k354_7 .skip))))
def z354 : List Rs := [.t .h0 .h2]
def f354 : AF := .mk x354 z354
def k355_0 : KF := fun c i x r h => (fun (x0 x1 : AV) =>
 tR (o_box 9 (.c x1) .nil h) fun v2 h3 =>
 tT (c 431 [x0,(.fn 432 [v2])] h3) fun v4 h5 =>
 tR (maxV false [v4,(pi 0)] h5) fun v6 h7 =>
 tR (b_ge v4 (pi 0) h7) fun v8 h9 =>
 .ret (T22 v6 v8) h9) (y0 r) (y1 r)
def x355 : AC := (.shal k355_0 .skip)
def z355 : List Rs := [.t .h0 .h4,.t .h0 .h5]
def f355 : AF := .mk x355 z355
def k356_5 : KF := fun c i x r h => (fun (x0 x1 x2 x3 x4 x5 x6 x7 x8 x9 : AV) =>
 ifR x9 (tT (c 438 [x0,x1,x2,x4] h) fun v10 h11 =>
 ifR v10 (.ret T5 h11) (.nm (T172 x0 x1 x2 x3 x4 x5 x6 x7 x8) h11)) (.nm (T172 x0 x1 x2 x3 x4 x5 x6 x7 x8) h)) (y0 r) (y1 r) (y2 r) (y3 r) (y4 r) (y10 r) (y11 r) (y12 r) (y13 r) (y75 r)
def k356_6 : KF := fun c i x r h => (fun (x0 x1 x2 x3 x4 x5 x6 x7 x8 x9 : AV) =>
 ifR x9 (tT (c 439 [x0,x1,x2,x8,x4] h) fun v10 h11 =>
 .ex 1 (T172 x0 v10 x2 x3 x4 x5 x6 x7 x8) h11) (.nm (T172 x0 x1 x2 x3 x4 x5 x6 x7 x8) h)) (y0 r) (y1 r) (y2 r) (y3 r) (y4 r) (y10 r) (y11 r) (y12 r) (y13 r) (y97 r)
def k356_9 : KF := fun c i x r h => (fun (x0 x1 x2 x3 x4 x5 x6 x7 x8 x9 x10 : AV) =>
 ifR x10 (tR (b_ge x7 x9 h) fun v11 h12 =>
 tT (c 356 [x0,x1,x6,x3,x4] h12) fun v13 h14 =>
 tR (b_add x6 (pi 1) h14) fun v15 h16 =>
 .nm (T169 x0 v15 x2 x3 x4 v11 x5) h16) (tR (b_ge x8 x9 h) fun v17 h18 =>
 tR (b_add x6 (pi 1) h18) fun v19 h20 =>
 tT (c 356 [x0,v19,x2,x3,x4] h20) fun v21 h22 =>
 .nm (T169 x0 x1 x6 x3 x4 v17 x5) h22)) (y0 r) (y1 r) (y2 r) (y3 r) (y4 r) (y11 r) (y16 r) (y18 r) (y19 r) (y20 r) (y125 r)
def k356_8 : KF := fun c i x r h => (fun (x0 x1 x2 x3 x4 x5 x6 x7 x8 x9 : AV) =>
 tR (b_lt x7 x8 h) fun v10 h11 =>
 x (T174 x0 x1 x2 x3 x4 x5 x6 x7 x8 x9 v10) h11) (y0 r) (y1 r) (y2 r) (y3 r) (y4 r) (y11 r) (y16 r) (y18 r) (y19 r) (y20 r)
def k356_7 : KF := fun c i x r h => (fun (x0 x1 x2 x3 x4 x5 x6 : AV) =>
 tT (c 440 [x0,x1,x2,x6,x4] h) fun v7 h8 =>
 tR (o_ext 0 (.c v7) .nil h8) fun v9 h10 =>
 tR (o_ext 1 (.c v7) .nil h10) fun v11 h12 =>
 tR (b_sub v9 x1 h12) fun v13 h14 =>
 tR (b_sub x2 v9 h14) fun v15 h16 =>
 tR (b_quo x5 (pi 8) h16) fun v17 h18 =>
 x (T173 x0 x1 x2 x3 x4 v11 v9 v13 v15 v17) h18) (y0 r) (y1 r) (y2 r) (y3 r) (y4 r) (y12 r) (y13 r)
def k356_4 : KF := fun c i x r h => (fun (x0 x1 x2 x3 x4 x5 x6 x7 x8 x9 : AV) =>
 tR (b_eq x9 (pi 2) h) fun v10 h11 =>
 ifR v10 (tT (c 437 [x0,x1,x2,x4] h11) fun v12 h13 =>
 tR (b_sub x2 (pi 1) h13) fun v14 h15 =>
 tR (b_sub x8 x1 h15) fun v16 h17 =>
 tR (b_sub v14 v16 h17) fun v18 h19 =>
 x (T171 x0 x1 x2 x3 x4 x5 x6 x7 v18 (pi 1)) h19) (x (T171 x0 x1 x2 x3 x4 x5 x6 x7 x8 x9) h11)) (y0 r) (y1 r) (y2 r) (y3 r) (y4 r) (y10 r) (y11 r) (y12 r) (y13 r) (y14 r)
def k356_3 : KF := fun c i x r h => (fun (x0 x1 x2 x3 x4 x5 x6 x7 : AV) =>
 tT (c 436 [x0,x1,x2,x4] h) fun v8 h9 =>
 tR (o_ext 0 (.c v8) .nil h9) fun v10 h11 =>
 tR (o_ext 1 (.c v8) .nil h11) fun v12 h13 =>
 x (T171 x0 x1 x2 x3 x4 x5 x6 x7 v10 v12) h13) (y0 r) (y1 r) (y2 r) (y3 r) (y4 r) (y10 r) (y11 r) (y12 r)
def k356_2 : KF := fun c i x r h => (fun (x0 x1 x2 x3 x4 x5 x6 x7 : AV) =>
 tR (u_not x5 h) fun v8 h9 =>
 ifR v8 (tT (c 435 [x0,x1,x2,x4] h9) fun v10 h11 =>
 tR (b_sub x3 (pi 1) h11) fun v12 h13 =>
 x (T170 x0 x1 x2 v12 x4 x5 x6 x7) h13) (x (T170 x0 x1 x2 x3 x4 x5 x6 x7) h9)) (y0 r) (y1 r) (y2 r) (y3 r) (y4 r) (y10 r) (y11 r) (y12 r)
def k356_1 : KF := fun c i x r h => (fun (x0 x1 x2 x3 x4 x5 x6 : AV) =>
 tR (b_sub x2 x1 h) fun v7 h8 =>
 tR (b_le v7 (pi 12) h8) fun v9 h10 =>
 ifR v9 (tT (c 433 [x0,x1,x2,x4] h10) fun v11 h12 =>
 .ret T5 h12) (tR (b_eq x3 (pi 0) h10) fun v13 h14 =>
 ifR v13 (tT (c 434 [x0,x1,x2,x4] h14) fun v15 h16 =>
 .ret T5 h16) (x (T170 x0 x1 x2 x3 x4 x5 x6 v7) h14))) (y0 r) (y1 r) (y2 r) (y3 r) (y4 r) (y10 r) (y11 r)
def k356_0 : KF := fun c i x r h => (fun (x0 x1 x2 x3 x4 : AV) =>
 x (T169 x0 x1 x2 x3 x4 (.bool true) (.bool true)) h) (y0 r) (y1 r) (y2 r) (y3 r) (y4 r)
def x356 : AC := (.shal k356_0 (.block 0 (.loop (.block 1 (.shal k356_1 (.shal k356_2 (.shal k356_3 (.shal k356_4 (.seq (.seq (.ops [m d68 r10,
 m d69 r68,
 .g .h4 .h5 true d70 (.op (.mv r11)),
 o d71 (.pick r69 r70 (.c (.bool false))),
 m d72 r71,
 .g .h4 .h8 true d73 (.op (.mv r14)),
 .g .h4 .h8 true d74 (.op (.bin .eq r73 a1)),
 o d75 (.pick r72 r74 (.c (.bool false)))]) (.shal k356_5 .skip)) (.seq (.seq (.drw [q 0 (m d81 r1),
 q 0 (o d82 (.bin .gt r81 a0)),
 q 0 (m d83 r82),
 q 0 (.g .h5 .h3 true d84 (.op (.mv r4))),
 q 0 (.g .h5 .h3 true d85 (.op (.mv r0))),
 q 0 (.g .h5 .h3 true d86 (.op (.mv r1))),
 q 0 (.g .h5 .h3 true d87 (.op (.bin .sub r86 a1))),
 q 0 (.g .h5 .h3 true d88 (.op (.ixs 2 r85 r87))),
 q 0 (.g .h5 .h3 true d89 (.op (.ldn 2 r88))),
 q 0 (.g .h5 .h3 true d90 (.op (.mv r0))),
 q 0 (.g .h5 .h3 true d91 (.op (.mv r13))),
 q 0 (.g .h5 .h3 true d92 (.op (.ixs 2 r90 r91))),
 q 0 (.g .h5 .h3 true d93 (.op (.ldn 2 r92))),
 w (.g .h5 .h3 true d94 (.calld r84 [r89,r93])),
 q 0 (.g .h5 .h3 true d95 (.op (.bin .lt r94 a0))),
 q 0 (.g .h5 .h3 true d96 (.op (.un .not r95))),
 q 0 (o d97 (.pick r83 r96 (.c (.bool false))))]) (.shal k356_6 .skip)) (.shal k356_7 (.shal k356_8 (.shal k356_9 .skip)))))))))))))
def z356 : List Rs := []
def f356 : AF := .mk x356 z356
def k383_2 : KF := fun c i x r h => (fun (x0 x1 x2 x3 : AV) =>
 tR (b_lt x3 x2 h) fun v4 h5 =>
 ifR v4 (tR (ix 2 x0 x3 h5) fun v6 h7 =>
 tR (o_ldn 2 (.c v6) .nil h7) fun v8 h9 =>
 tT (AV.onFn x1 (fun f l => c f (List.append [v8] l) h9) (.err 202)) fun v10 h11 =>
 ifR v10 (.ret (T1 x3) h11) (tR (b_add x3 (pi 1) h11) fun v12 h13 =>
 .nm (T160 x0 x1 x2 v12) h13)) (.ex 0 (T160 x0 x1 x2 x3) h5)) (y0 r) (y1 r) (y7 r) (y8 r)
def k383_1 : KF := fun c i x r h => (fun (x0 x1 : AV) =>
 tR (len x0 h) fun v2 h3 =>
 x (T160 x0 x1 v2 (pi 0)) h3) (y0 r) (y1 r)
def k383_3 : KF := fun c i x r h => .ret (T1 (ni 0)) h
def k383_0 : KF := fun c i x r h => (fun (x0 x1 : AV) =>
 x (T7 x0 x1) h) (y0 r) (y1 r)
def x383 : AC := (.shal k383_0 (.seq (.shal k383_1 (.block 0 (.loop (.shal k383_2 .skip)))) (.shal k383_3 .skip)))
def z383 : List Rs := [.t .h0 .h4]
def f383 : AF := .mk x383 z383
def k408_0 : KF := fun c i x r h => (fun (x0 x1 : AV) =>
 tR (o_box 271 (.c x0) .nil h) fun v2 h3 =>
 tR (fa 0 v2 h3) fun v4 h5 =>
 tR (ld v4 h5) fun v6 h7 =>
 tR (ld x1 h7) fun v8 h9 =>
 tR (b_seq v6 v8 h9) fun v10 h11 =>
 .ret (T21 v10) h11) (y0 r) (y1 r)
def x408 : AC := (.shal k408_0 .skip)
def z408 : List Rs := [.t .h0 .h3]
def f408 : AF := .mk x408 z408
def k411_2 : KF := fun c i x r h => (fun (x0 x1 x2 x3 : AV) =>
 tR (b_lt x3 x2 h) fun v4 h5 =>
 ifR v4 (tR (ix 11 x0 x3 h5) fun v6 h7 =>
 tR (o_ldn 11 (.c v6) .nil h7) fun v8 h9 =>
 tT (AV.onFn x1 (fun f l => c f (List.append [v8] l) h9) (.err 202)) fun v10 h11 =>
 ifR v10 (.ret (T1 x3) h11) (tR (b_add x3 (pi 1) h11) fun v12 h13 =>
 .nm (T160 x0 x1 x2 v12) h13)) (.ex 0 (T160 x0 x1 x2 x3) h5)) (y0 r) (y1 r) (y7 r) (y8 r)
def k411_1 : KF := fun c i x r h => (fun (x0 x1 : AV) =>
 tR (len x0 h) fun v2 h3 =>
 x (T160 x0 x1 v2 (pi 0)) h3) (y0 r) (y1 r)
def k411_3 : KF := fun c i x r h => .ret (T1 (ni 0)) h
def k411_0 : KF := fun c i x r h => (fun (x0 x1 : AV) =>
 x (T7 x0 x1) h) (y0 r) (y1 r)
def x411 : AC := (.shal k411_0 (.seq (.shal k411_1 (.block 0 (.loop (.shal k411_2 .skip)))) (.shal k411_3 .skip)))
def z411 : List Rs := [.t .h0 .h4]
def f411 : AF := .mk x411 z411
def k417_1 : KF := fun c i x r h => (fun (x0 : AV) =>
 x T5 h) (y1 r)
def k417_2 : KF := fun c i x r h => (fun (x0 : AV) =>
 tR (ld x0 h) fun v1 h2 =>
 .ret (T1 v1) h2) (y2 r)
def k417_0 : KF := fun c i x r h => (fun (x0 x1 : AV) =>
 tR (o_box 39 (.c x0) .nil h) fun v2 h3 =>
 x (T20 x1) h3) (y0 r) (y1 r)
def p417_0 : List GI := [o d2 (.box 39 r0),m d4 (.c .nils)]
def p417_1 : List GI := [m d6 r1]
def p417_2 : List GI := [o d4 (.ld1 r1),o d5 (.rngm r4)]
def p417_3 : List GI := [.o d6 (.nxt false r5),o d7 (.ext 0 r6)]
def p417_4 : List GI := [o d8 (.ent r5),o d9 (.ext 0 r8),m d3 r9]
def p417_5 : List GI := [m d11 r3]
def p417_6 : List GI := [m d5 r7]
def p417_7 : List GI := [o d8 (.ld1 r2),m d9 r5,o d10 (.bslice 3 1 1 [(pi 0)] [.mk 0 1 r9]),o d11 (.app 3 1 r8 r10),o .no (.st1 r2 r11)]
def p417_8 : List GI := [o d12 (.ld1 r2),m d4 r12]
def p417 : PK := (.coll 337 p417_0 p417_1 p417_2 p417_3 p417_4 p417_5 p417_6 p417_7 p417_8)
def x417 : AC := (.shal k417_0 (.seq (.shal k417_1 (.block 0 (.bad 402))) (.shal k417_2 .skip)))
def z417 : List Rs := [.t .h0 .h4]
def f417 : AF := .prim p417 x417 z417
def k418_4 : KF := fun c i x r h => (fun (x0 x1 x2 x3 x4 x5 x6 x7 x8 : AV) =>
 ifR x8 (tT (c 505 [x0,x1,x2] h) fun v9 h10 =>
 ifR v9 (.ret T5 h10) (.nm (T178 x0 x1 x2 x3 x4 x5 x6 x7) h10)) (.nm (T178 x0 x1 x2 x3 x4 x5 x6 x7) h)) (y0 r) (y1 r) (y2 r) (y3 r) (y8 r) (y9 r) (y10 r) (y11 r) (y68 r)
def k418_5 : KF := fun c i x r h => (fun (x0 x1 x2 x3 x4 x5 x6 x7 x8 : AV) =>
 ifR x8 (tT (c 507 [x0,x1,x2,x7] h) fun v9 h10 =>
 .ex 1 (T178 x0 v9 x2 x3 x4 x5 x6 x7) h10) (.nm (T178 x0 x1 x2 x3 x4 x5 x6 x7) h)) (y0 r) (y1 r) (y2 r) (y3 r) (y8 r) (y9 r) (y10 r) (y11 r) (y87 r)
def k418_8 : KF := fun c i x r h => (fun (x0 x1 x2 x3 x4 x5 x6 x7 x8 x9 : AV) =>
 ifR x9 (tR (b_ge x6 x8 h) fun v10 h11 =>
 tT (c 418 [x0,x1,x5,x3] h11) fun v12 h13 =>
 tR (b_add x5 (pi 1) h13) fun v14 h15 =>
 .nm (T175 x0 v14 x2 x3 v10 x4) h15) (tR (b_ge x7 x8 h) fun v16 h17 =>
 tR (b_add x5 (pi 1) h17) fun v18 h19 =>
 tT (c 418 [x0,v18,x2,x3] h19) fun v20 h21 =>
 .nm (T175 x0 x1 x5 x3 v16 x4) h21)) (y0 r) (y1 r) (y2 r) (y3 r) (y9 r) (y14 r) (y16 r) (y17 r) (y18 r) (y113 r)
def k418_7 : KF := fun c i x r h => (fun (x0 x1 x2 x3 x4 x5 x6 x7 x8 : AV) =>
 tR (b_lt x6 x7 h) fun v9 h10 =>
 x (T180 x0 x1 x2 x3 x4 x5 x6 x7 x8 v9) h10) (y0 r) (y1 r) (y2 r) (y3 r) (y9 r) (y14 r) (y16 r) (y17 r) (y18 r)
def k418_6 : KF := fun c i x r h => (fun (x0 x1 x2 x3 x4 x5 : AV) =>
 tT (c 508 [x0,x1,x2,x5] h) fun v6 h7 =>
 tR (o_ext 0 (.c v6) .nil h7) fun v8 h9 =>
 tR (o_ext 1 (.c v6) .nil h9) fun v10 h11 =>
 tR (b_sub v8 x1 h11) fun v12 h13 =>
 tR (b_sub x2 v8 h13) fun v14 h15 =>
 tR (b_quo x4 (pi 8) h15) fun v16 h17 =>
 x (T179 x0 x1 x2 x3 v10 v8 v12 v14 v16) h17) (y0 r) (y1 r) (y2 r) (y3 r) (y10 r) (y11 r)
def k418_3 : KF := fun c i x r h => (fun (x0 x1 x2 x3 x4 x5 x6 : AV) =>
 tT (c 503 [x0,x1,x2] h) fun v7 h8 =>
 tR (o_ext 0 (.c v7) .nil h8) fun v9 h10 =>
 tR (o_ext 1 (.c v7) .nil h10) fun v11 h12 =>
 tR (b_eq v11 (pi 2) h12) fun v13 h14 =>
 ifR v13 (tT (c 504 [x0,x1,x2] h14) fun v15 h16 =>
 tR (b_sub x2 (pi 1) h16) fun v17 h18 =>
 tR (b_sub v9 x1 h18) fun v19 h20 =>
 tR (b_sub v17 v19 h20) fun v21 h22 =>
 x (T177 x0 x1 x2 x3 x4 x5 x6 v21 (pi 1)) h22) (x (T177 x0 x1 x2 x3 x4 x5 x6 v9 v11) h14)) (y0 r) (y1 r) (y2 r) (y3 r) (y8 r) (y9 r) (y10 r)
def k418_2 : KF := fun c i x r h => (fun (x0 x1 x2 x3 x4 x5 x6 : AV) =>
 tR (u_not x4 h) fun v7 h8 =>
 ifR v7 (tT (c 502 [x0,x1,x2] h8) fun v9 h10 =>
 tR (b_sub x3 (pi 1) h10) fun v11 h12 =>
 x (T176 x0 x1 x2 v11 x4 x5 x6) h12) (x (T176 x0 x1 x2 x3 x4 x5 x6) h8)) (y0 r) (y1 r) (y2 r) (y3 r) (y8 r) (y9 r) (y10 r)
def k418_1 : KF := fun c i x r h => (fun (x0 x1 x2 x3 x4 x5 : AV) =>
 tR (b_sub x2 x1 h) fun v6 h7 =>
 tR (b_le v6 (pi 12) h7) fun v8 h9 =>
 ifR v8 (tT (c 500 [x0,x1,x2] h9) fun v10 h11 =>
 .ret T5 h11) (tR (b_eq x3 (pi 0) h9) fun v12 h13 =>
 ifR v12 (tT (c 501 [x0,x1,x2] h13) fun v14 h15 =>
 .ret T5 h15) (x (T176 x0 x1 x2 x3 x4 x5 v6) h13))) (y0 r) (y1 r) (y2 r) (y3 r) (y8 r) (y9 r)
def k418_0 : KF := fun c i x r h => (fun (x0 x1 x2 x3 : AV) =>
 x (T175 x0 x1 x2 x3 (.bool true) (.bool true)) h) (y0 r) (y1 r) (y2 r) (y3 r)
def x418 : AC := (.shal k418_0 (.block 0 (.loop (.block 1 (.shal k418_1 (.shal k418_2 (.shal k418_3 (.seq (.seq (.ops [m d61 r8,
 m d62 r61,
 .g .h3 .he true d63 (.op (.mv r9)),
 o d64 (.pick r62 r63 (.c (.bool false))),
 m d65 r64,
 .g .h4 .h1 true d66 (.op (.mv r12)),
 .g .h4 .h1 true d67 (.op (.bin .eq r66 a1)),
 o d68 (.pick r65 r67 (.c (.bool false)))]) (.shal k418_4 .skip)) (.seq (.seq (.drw [q 0 (m d73 r1),
 q 0 (o d74 (.bin .gt r73 a0)),
 q 0 (m d75 r74),
 q 0 (.g .h4 .hb true d76 (.op (.mv r0))),
 q 0 (.g .h4 .hb true d77 (.op (.mv r1))),
 q 0 (.g .h4 .hb true d78 (.op (.bin .sub r77 a1))),
 q 0 (.g .h4 .hb true d79 (.op (.ixs 1 r76 r78))),
 q 0 (.g .h4 .hb true d80 (.op (.ld1 r79))),
 q 0 (.g .h4 .hb true d81 (.op (.mv r0))),
 q 0 (.g .h4 .hb true d82 (.op (.mv r11))),
 q 0 (.g .h4 .hb true d83 (.op (.ixs 1 r81 r82))),
 q 0 (.g .h4 .hb true d84 (.op (.ld1 r83))),
 w (.g .h4 .hb true d85 (.call 506 [r80,r84])),
 q 0 (.g .h4 .hb true d86 (.op (.un .not r85))),
 q 0 (o d87 (.pick r75 r86 (.c (.bool false))))]) (.shal k418_5 .skip)) (.shal k418_6 (.shal k418_7 (.shal k418_8 .skip))))))))))))
def z418 : List Rs := []
def f418 : AF := .mk x418 z418
def k430_3 : KF := fun c i x r h => (fun (x0 : AV) =>
 ifR x0 (.ret (T14 (.bool true)) h) (.nm T5 h)) (y4 r)
def k430_2 : KF := fun c i x r h => (fun (x0 : AV) =>
 tR (b_seq x0 (.str [116,97,98,108,101]) h) fun v1 h2 =>
 ifR v1 (x (T1 v1) h2) (tR (b_seq x0 (.str [102,105,108,116,101,114]) h2) fun v3 h4 =>
 ifR v3 (x (T1 v3) h4) (tR (b_seq x0 (.str [112,114,111,106,101,99,116]) h4) fun v5 h6 =>
 ifR v5 (x (T1 v5) h6) (tR (b_seq x0 (.str [106,111,105,110]) h6) fun v7 h8 =>
 ifR v7 (x (T1 v7) h8) (tR (b_seq x0 (.str [117,110,105,111,110]) h8) fun v9 h10 =>
 ifR v9 (x (T1 v9) h10) (tR (b_seq x0 (.str [100,105,115,116,105,110,99,116]) h10) fun v11 h12 =>
 ifR v11 (x (T1 v11) h12) (tR (b_seq x0 (.str [103,114,111,117,112]) h12) fun v13 h14 =>
 ifR v13 (x (T1 v13) h14) (tR (b_seq x0 (.str [99,111,117,110,116]) h14) fun v15 h16 =>
 ifR v15 (x (T1 v15) h16) (tR (b_seq x0 (.str [115,117,109]) h16) fun v17 h18 =>
 ifR v17 (x (T1 v17) h18) (tR (b_seq x0 (.str [109,105,110]) h18) fun v19 h20 =>
 ifR v19 (x (T1 v19) h20) (tR (b_seq x0 (.str [109,97,120]) h20) fun v21 h22 =>
 ifR v21 (x (T1 v21) h22) (tR (b_seq x0 (.str [97,100,100]) h22) fun v23 h24 =>
 ifR v23 (x (T1 v23) h24) (tR (b_seq x0 (.str [115,117,98]) h24) fun v25 h26 =>
 ifR v25 (x (T1 v25) h26) (tR (b_seq x0 (.str [109,117,108]) h26) fun v27 h28 =>
 ifR v27 (x (T1 v27) h28) (tR (b_seq x0 (.str [110,101,103]) h28) fun v29 h30 =>
 ifR v29 (x (T1 v29) h30) (tR (b_seq x0 (.str [101,113]) h30) fun v31 h32 =>
 ifR v31 (x (T1 v31) h32) (tR (b_seq x0 (.str [108,116]) h32) fun v33 h34 =>
 ifR v33 (x (T1 v33) h34) (tR (b_seq x0 (.str [97,110,100]) h34) fun v35 h36 =>
 ifR v35 (x (T1 v35) h36) (tR (b_seq x0 (.str [111,114]) h36) fun v37 h38 =>
 ifR v37 (x (T1 v37) h38) (tR (b_seq x0 (.str [110,111,116]) h38) fun v39 h40 =>
 ifR v39 (x (T1 v39) h40) (tR (b_seq x0 (.str [99,97,116]) h40) fun v41 h42 =>
 ifR v41 (x (T1 v41) h42) (tR (b_seq x0 (.str [108,101,110]) h42) fun v43 h44 =>
 ifR v43 (x (T1 v43) h44) (tR (b_seq x0 (.str [105,102]) h44) fun v45 h46 =>
 x (T1 v45) h46))))))))))))))))))))))) (y3 r)
def k430_1 : KF := fun c i x r h => (fun (x0 : AV) =>
 x (T21 x0) h) (y0 r)
def k430_4 : KF := fun c i x r h => .ret (T14 (.bool false)) h
def k430_0 : KF := fun c i x r h => (fun (x0 : AV) =>
 x (T13 x0) h) (y0 r)
def x430 : AC := (.shal k430_0 (.seq (.shal k430_1 (.block 0 (.shal k430_2 (.shal k430_3 .skip)))) (.shal k430_4 .skip)))
def z430 : List Rs := [.t .h0 .h2]
def f430 : AF := .mk x430 z430
def k431_2 : KF := fun c i x r h => (fun (x0 x1 x2 x3 : AV) =>
 tR (b_lt x3 x2 h) fun v4 h5 =>
 ifR v4 (tR (ix 2 x0 x3 h5) fun v6 h7 =>
 tR (o_ldn 2 (.c v6) .nil h7) fun v8 h9 =>
 tT (AV.onFn x1 (fun f l => c f (List.append [v8] l) h9) (.err 202)) fun v10 h11 =>
 ifR v10 (.ret (T1 x3) h11) (tR (b_add x3 (pi 1) h11) fun v12 h13 =>
 .nm (T160 x0 x1 x2 v12) h13)) (.ex 0 (T160 x0 x1 x2 x3) h5)) (y0 r) (y1 r) (y7 r) (y8 r)
def k431_1 : KF := fun c i x r h => (fun (x0 x1 : AV) =>
 tR (len x0 h) fun v2 h3 =>
 x (T160 x0 x1 v2 (pi 0)) h3) (y0 r) (y1 r)
def k431_3 : KF := fun c i x r h => .ret (T1 (ni 0)) h
def k431_0 : KF := fun c i x r h => (fun (x0 x1 : AV) =>
 x (T7 x0 x1) h) (y0 r) (y1 r)
def x431 : AC := (.shal k431_0 (.seq (.shal k431_1 (.block 0 (.loop (.shal k431_2 .skip)))) (.shal k431_3 .skip)))
def z431 : List Rs := [.t .h0 .h4]
def f431 : AF := .mk x431 z431
def k432_0 : KF := fun c i x r h => (fun (x0 x1 : AV) =>
 tR (o_box 65 (.c x0) .nil h) fun v2 h3 =>
 tR (fa 0 v2 h3) fun v4 h5 =>
 tR (ld v4 h5) fun v6 h7 =>
 tR (ld x1 h7) fun v8 h9 =>
 tR (b_seq v6 v8 h9) fun v10 h11 =>
 .ret (T21 v10) h11) (y0 r) (y1 r)
def x432 : AC := (.shal k432_0 .skip)
def z432 : List Rs := [.t .h0 .h3]
def f432 : AF := .mk x432 z432
def k433_3 : KF := fun c i x r h => (fun (x0 x1 x2 x3 x4 x5 x6 : AV) =>
 ifR x6 (.nm (T175 x0 x1 x2 x3 x4 x5) h) (.ex 2 (T175 x0 x1 x2 x3 x4 x5) h)) (y0 r) (y1 r) (y2 r) (y3 r) (y8 r) (y9 r) (y34 r)
def k433_4 : KF := fun c i x r h => (fun (x0 x1 x2 x3 x4 x5 : AV) =>
 tR (b_sub x5 (pi 1) h) fun v6 h7 =>
 .nm (T175 x0 x1 x2 x3 x4 v6) h7) (y0 r) (y1 r) (y2 r) (y3 r) (y8 r) (y9 r)
def k433_2 : KF := fun c i x r h => (fun (x0 x1 x2 x3 x4 : AV) =>
 x (T175 x0 x1 x2 x3 x4 x4) h) (y0 r) (y1 r) (y2 r) (y3 r) (y8 r)
def k433_5 : KF := fun c i x r h => (fun (x0 x1 x2 x3 x4 : AV) =>
 tR (b_add x4 (pi 1) h) fun v5 h6 =>
 .nm (T181 x0 x1 x2 x3 v5) h6) (y0 r) (y1 r) (y2 r) (y3 r) (y8 r)
def k433_1 : KF := fun c i x r h => (fun (x0 x1 x2 x3 x4 : AV) =>
 tR (b_lt x4 x2 h) fun v5 h6 =>
 ifR v5 (x (T181 x0 x1 x2 x3 x4) h6) (.ex 0 T5 h6)) (y0 r) (y1 r) (y2 r) (y3 r) (y8 r)
def k433_0 : KF := fun c i x r h => (fun (x0 x1 x2 x3 : AV) =>
 tR (b_add x1 (pi 1) h) fun v4 h5 =>
 x (T181 x0 x1 x2 x3 v4) h5) (y0 r) (y1 r) (y2 r) (y3 r)
def x433 : AC := (.shal k433_0 (.block 0 (.loop (.shal k433_1 (.seq (.block 1 (.shal k433_2 (.block 2 (.loop (.seq (.seq (.drw [q 0 (m d18 r9),
 q 0 (m d19 r1),
 q 0 (o d20 (.bin .gt r18 r19)),
 q 0 (m d21 r20),
 q 0 (.g .h1 .h5 true d22 (.op (.mv r3))),
 q 0 (.g .h1 .h5 true d23 (.op (.mv r0))),
 q 0 (.g .h1 .h5 true d24 (.op (.mv r9))),
 q 0 (.g .h1 .h5 true d25 (.op (.ixs 2 r23 r24))),
 q 0 (.g .h1 .h5 true d26 (.op (.ldn 2 r25))),
 q 0 (.g .h1 .h5 true d27 (.op (.mv r0))),
 q 0 (.g .h1 .h5 true d28 (.op (.mv r9))),
 q 0 (.g .h1 .h5 true d29 (.op (.bin .sub r28 a1))),
 q 0 (.g .h1 .h5 true d30 (.op (.ixs 2 r27 r29))),
 q 0 (.g .h1 .h5 true d31 (.op (.ldn 2 r30))),
 w (.g .h1 .h5 true d32 (.calld r22 [r26,r31])),
 q 0 (.g .h1 .h5 true d33 (.op (.bin .lt r32 a0))),
 q 0 (o d34 (.pick r21 r33 (.c (.bool false))))]) (.shal k433_3 .skip)) (.seq (.block 3 (.drw [q 0 (m d37 r0),
 q 0 (m d38 r9),
 q 0 (m d42 r0),
 q 0 (m d43 r9),
 q 0 (o d44 (.bin .sub r43 a1)),
 q 0 (o d45 (.ixs 2 r42 r44)),
 q 0 (o d46 (.ldn 2 r45)),
 q 0 (m d47 r0),
 q 0 (m d48 r9),
 q 0 (o d49 (.ixs 2 r47 r48)),
 q 0 (o d50 (.ldn 2 r49)),
 q 0 (o d51 (.ixs 2 r37 r38)),
 w (o .no (.stn 2 r51 r46)),
 q 1 (m d39 r0),
 q 1 (m d40 r9),
 q 1 (o d41 (.bin .sub r40 a1)),
 q 0 (o d52 (.ixs 2 r39 r41)),
 w (o .no (.stn 2 r52 r50))])) (.shal k433_4 .skip))))))) (.shal k433_5 .skip))))))
def z433 : List Rs := []
def f433 : AF := .mk x433 z433
def k500_3 : KF := fun c i x r h => (fun (x0 x1 x2 x3 x4 x5 : AV) =>
 ifR x5 (.nm (T140 x0 x1 x2 x3 x4) h) (.ex 2 (T140 x0 x1 x2 x3 x4) h)) (y0 r) (y1 r) (y2 r) (y6 r) (y7 r) (y30 r)
def k500_4 : KF := fun c i x r h => (fun (x0 x1 x2 x3 x4 : AV) =>
 tR (b_sub x4 (pi 1) h) fun v5 h6 =>
 .nm (T140 x0 x1 x2 x3 v5) h6) (y0 r) (y1 r) (y2 r) (y6 r) (y7 r)
def k500_2 : KF := fun c i x r h => (fun (x0 x1 x2 x3 : AV) =>
 x (T140 x0 x1 x2 x3 x3) h) (y0 r) (y1 r) (y2 r) (y6 r)
def k500_5 : KF := fun c i x r h => (fun (x0 x1 x2 x3 : AV) =>
 tR (b_add x3 (pi 1) h) fun v4 h5 =>
 .nm (T96 x0 x1 x2 v4) h5) (y0 r) (y1 r) (y2 r) (y6 r)
def k500_1 : KF := fun c i x r h => (fun (x0 x1 x2 x3 : AV) =>
 tR (b_lt x3 x2 h) fun v4 h5 =>
 ifR v4 (x (T96 x0 x1 x2 x3) h5) (.ex 0 T5 h5)) (y0 r) (y1 r) (y2 r) (y6 r)
def k500_0 : KF := fun c i x r h => (fun (x0 x1 x2 : AV) =>
 tR (b_add x1 (pi 1) h) fun v3 h4 =>
 x (T96 x0 x1 x2 v3) h4) (y0 r) (y1 r) (y2 r)
def x500 : AC := (.shal k500_0 (.block 0 (.loop (.shal k500_1 (.seq (.block 1 (.shal k500_2 (.block 2 (.loop (.seq (.seq (.drw [q 0 (m d16 r7),
 q 0 (m d17 r1),
 q 0 (o d18 (.bin .gt r16 r17)),
 q 0 (m d19 r18),
 q 0 (.g .h1 .h3 true d20 (.op (.mv r0))),
 q 0 (.g .h1 .h3 true d21 (.op (.mv r7))),
 q 0 (.g .h1 .h3 true d22 (.op (.ixs 1 r20 r21))),
 q 0 (.g .h1 .h3 true d23 (.op (.ld1 r22))),
 q 0 (.g .h1 .h3 true d24 (.op (.mv r0))),
 q 0 (.g .h1 .h3 true d25 (.op (.mv r7))),
 q 0 (.g .h1 .h3 true d26 (.op (.bin .sub r25 a1))),
 q 0 (.g .h1 .h3 true d27 (.op (.ixs 1 r24 r26))),
 q 0 (.g .h1 .h3 true d28 (.op (.ld1 r27))),
 w (.g .h1 .h3 true d29 (.call 506 [r23,r28])),
 q 0 (o d30 (.pick r19 r29 (.c (.bool false))))]) (.shal k500_3 .skip)) (.seq (.block 3 (.drw [q 0 (m d33 r0),
 q 0 (m d34 r7),
 q 0 (m d38 r0),
 q 0 (m d39 r7),
 q 0 (o d40 (.bin .sub r39 a1)),
 q 0 (o d41 (.ixs 1 r38 r40)),
 q 0 (o d42 (.ld1 r41)),
 q 0 (m d43 r0),
 q 0 (m d44 r7),
 q 0 (o d45 (.ixs 1 r43 r44)),
 q 0 (o d46 (.ld1 r45)),
 q 0 (o d47 (.ixs 1 r33 r34)),
 w (o .no (.st1 r47 r42)),
 q 1 (m d35 r0),
 q 1 (m d36 r7),
 q 1 (o d37 (.bin .sub r36 a1)),
 q 0 (o d48 (.ixs 1 r35 r37)),
 w (o .no (.st1 r48 r46))])) (.shal k500_4 .skip))))))) (.shal k500_5 .skip))))))
def z500 : List Rs := []
def f500 : AF := .mk x500 z500
def k638_0 : KF := fun c i x r h => (fun (x0 x1 x2 x3 x4 : AV) =>
 ifR x4 (tT (c 639 [x0,x1,x2,x3] h) fun v5 h6 =>
 .nm T5 h6) (.nm T5 h)) (y0 r) (y1 r) (y2 r) (y3 r) (y4 r)
def x638 : AC := (.seq (.drw [q 0 (m d19 r3),
 w (o d20 (.bslice 9 1 1 [(.str [])] [.mk 0 1 r19])),
 q 1 (m d12 r0),
 q 1 (m d13 r1),
 q 1 (o d14 (.nilc r12)),
 q 1 (o d15 (.fad 0 r14)),
 q 1 (o d16 (.ixa 5 3 r15 r13)),
 q 1 (o d17 (.fad 2 r16)),
 q 1 (o d18 (.ld1 r17)),
 w (o d21 (.app 9 1 r18 r20)),
 q 2 (m d10 r0),
 q 2 (m d11 r1),
 q 2 (o d22 (.nilc r10)),
 q 2 (o d23 (.fad 0 r22)),
 q 0 (o d24 (.ixa 5 3 r23 r11)),
 q 0 (o d25 (.fad 2 r24)),
 w (o .no (.st1 r25 r21))]) (.shal k638_0 .skip))
def z638 : List Rs := []
def f638 : AF := .mk x638 z638
def k639_0 : KF := fun c i x r h => (fun (x0 x1 x2 x3 : AV) =>
 tR (nic x0 h) fun v4 h5 =>
 tR (fa 15 v4 h5) fun v6 h7 =>
 tR (ld v6 h7) fun v8 h9 =>
 tR (o_build [(pi 0),(pi 0),(.str []),(pi 0)] [.mk 0 1 (.c (pi 1)),.mk 1 1 (.c x1),.mk 2 1 (.c x3),.mk 3 1 (.c x2)] .nil h9) fun v10 h11 =>
 tR (o_bslice 137 4 1 [(pi 0),(pi 0),(.str []),(pi 0)] [.mk 0 4 (.c v10)] .nil h11) fun v12 h13 =>
 tR (appV 137 4 v8 v12 h13) fun v14 h15 =>
 tR (nic x0 h15) fun v16 h17 =>
 tR (fa 15 v16 h17) fun v18 h19 =>
 tR (sto v18 v14 h19) fun v20 h21 =>
 .nm T5 h21) (y0 r) (y1 r) (y2 r) (y3 r)
def x639 : AC := (.shal k639_0 .skip)
def z639 : List Rs := []
def f639 : AF := .mk x639 z639
def k641_0 : KF := fun c i x r h => (fun (x0 x1 x2 x3 : AV) =>
 tR (o_build [(pi 0),(.str []),.nils] [.mk 0 1 (.c x2),.mk 1 1 (.c x3),.mk 2 1 (.c .nils)] .nil h) fun v4 h5 =>
 tR (nic x0 h5) fun v6 h7 =>
 tR (fa 0 v6 h7) fun v8 h9 =>
 tR (o_ixa 5 3 (.c v8) (.c x1) .nil h9) fun v10 h11 =>
 tR (o_stn 3 (.c v10) (.c v4) .nil h11) fun v12 h13 =>
 .nm T5 h13) (y0 r) (y1 r) (y2 r) (y3 r)
def x641 : AC := (.shal k641_0 .skip)
def z641 : List Rs := []
def f641 : AF := .mk x641 z641
def k642_0 : KF := fun c i x r h => (fun (x0 x1 x2 x3 : AV) =>
 tR (nic x0 h) fun v4 h5 =>
 tR (fa 15 v4 h5) fun v6 h7 =>
 tR (ld v6 h7) fun v8 h9 =>
 tR (o_build [(pi 0),(pi 0),(.str []),(pi 0)] [.mk 0 1 (.c (pi 2)),.mk 1 1 (.c x1),.mk 2 1 (.c x3),.mk 3 1 (.c x2)] .nil h9) fun v10 h11 =>
 tR (o_bslice 137 4 1 [(pi 0),(pi 0),(.str []),(pi 0)] [.mk 0 4 (.c v10)] .nil h11) fun v12 h13 =>
 tR (appV 137 4 v8 v12 h13) fun v14 h15 =>
 tR (nic x0 h15) fun v16 h17 =>
 tR (fa 15 v16 h17) fun v18 h19 =>
 tR (sto v18 v14 h19) fun v20 h21 =>
 .nm T5 h21) (y0 r) (y1 r) (y2 r) (y3 r)
def x642 : AC := (.shal k642_0 .skip)
def z642 : List Rs := []
def f642 : AF := .mk x642 z642
def row0 (k j : Nat) : F1 := (.mk .none .none .none f3 (f4 k j) f5 f6 f7 f8 f9 f10 f11 f12 f13 f14 f15)
def row1 : F1 := (.mk f16 f17 f18 f19 f20 f21 f22 f23 f24 f25 f26 f27 .none f29 f30 .none)
def row2 : F1 := (.mk f32 f33 f34 f35 f36 f37 f38 f39 f40 f41 f42 f43 f44 f45 f46 f47)
def row3 : F1 := (.mk .none .none .none .none .none .none f54 f55 f56 f57 f58 .none f60 .none f62 f63)
def row4 : F1 := (.mk f64 f65 f66 f67 .none f69 f70 f71 f72 f73 f74 f75 f76 f77 f78 .none)
def row5 : F1 := (.mk f80 f81 .none f83 f84 f85 f86 f87 f88 f89 f90 f91 .none .none .none f95)
def row6 : F1 := (.mk f96 .none .none .none .none f101 f102 f103 .none f105 f106 f107 f108 f109 .none f111)
def row7 : F1 := (.mk .none .none f114 f115 .none .none f118 .none f120 f121 f122 f123 f124 f125 .none f127)
def row8 : F1 := (.mk f128 f129 f130 .none f132 f133 .none f135 f136 .none f138 f139 f140 f141 f142 f143)
def row9 : F1 := (.mk f144 f145 f146 f147 f148 f149 f150 f151 f152 .none .none .none f156 .none .none .none)
def row10 : F1 := (.mk .none .none f162 f163 .none f165 f166 f167 f168 f169 f170 .none .none f173 f174 .none)
def row11 : F1 := (.mk .none .none f178 .none f180 f181 f182 .none .none .none .none .none .none .none f190 .none)
def row12 : F1 := (.mk .none f193 .none f195 f196 f197 .none f199 f200 f201 f202 f203 f204 .none f206 f207)
def row13 : F1 := (.mk f208 f209 f210 f211 f212 f213 f214 f215 f216 f217 .none .none f220 f221 .none .none)
def row14 : F1 := (.mk .none .none f226 f227 f228 f229 .none .none .none .none .none .none f236 f237 f238 f239)
def row15 : F1 := (.mk f240 .none f242 .none .none .none f246 .none .none .none .none .none .none .none .none .none)
def row16 : F1 := (.mk f256 .none .none .none .none .none .none f263 .none f265 f266 f267 f268 f269 f270 f271)
def row17 : F1 := (.mk f272 f273 f274 f275 .none f277 .none .none .none .none .none .none .none .none f286 f287)
def row18 : F1 := (.mk .none .none f290 .none .none f293 f294 f295 .none .none .none .none .none .none .none .none)
def row20 : F1 := (.mk .none f321 .none f323 f324 .none .none .none f328 .none .none .none .none .none f334 f335)
def row21 : F1 := (.mk f336 .none .none .none .none .none .none .none f344 .none .none .none .none .none .none .none)
def row22 : F1 := (.mk .none .none f354 f355 f356 .none .none .none .none .none .none .none .none .none .none .none)
def row23 : F1 := (.mk .none .none .none .none .none .none .none .none .none .none .none .none .none .none .none f383)
def row25 : F1 := (.mk .none .none .none .none .none .none .none .none f408 .none .none f411 .none .none .none .none)
def row26 : F1 := (.mk .none f417 f418 .none .none .none .none .none .none .none .none .none .none .none f430 f431)
def row27 : F1 := (.mk f432 f433 .none .none .none .none .none .none .none .none .none .none .none .none .none .none)
def row31 : F1 := (.mk .none .none .none .none f500 .none .none .none .none .none .none .none .none .none .none .none)
def row39 : F1 := (.mk .none .none .none .none .none .none .none .none .none .none .none .none .none .none f638 f639)
def row40 : F1 := (.mk .none f641 f642 .none .none .none .none .none .none .none .none .none .none .none .none .none)
def page0 (k j : Nat) : F2 := .mk (row0 k j) row1 row2 row3 row4 row5 row6 row7 row8 row9 row10 row11 row12 row13 row14 row15
def page1 : F2 := .mk row16 row17 row18 .nil row20 row21 row22 row23 .nil row25 row26 row27 .nil .nil .nil row31
def page2 : F2 := .mk .nil .nil .nil .nil .nil .nil .nil row39 row40 .nil .nil .nil .nil .nil .nil .nil
def pg (k j : Nat) : Pg := .mk (.mk (page0 k j) page1 page2 .nil .nil .nil .nil .nil .nil .nil .nil .nil .nil .nil .nil .nil) [.mk 81 4 53, .mk 73 4 640, .mk 73 3 639, .mk 73 2 638, .mk 58 2 84, .mk 73 1 642, .mk 73 0 641, .mk 58 0 82]
end
end Go.Am.Seat
