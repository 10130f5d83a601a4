/- Code of the abstract machine, written by program. Nothing is asked. -/
import Derived.Test.YtjalgcdbokciaaaGreatDoorHead
set_option linter.all false
namespace Go.Am.Seat
set_option linter.unusedVariables false
set_option maxRecDepth 20000
noncomputable section
def c3_2 : AC := (.seq (.ops [m d39 r10,
 m d40 r9,
 .o d41 (.call 6 [r39,(.c (pi 2)),r40]),
 m d11 r41])
 (.seq (.ops [m d42 r10,
 m d43 r9,
 .o d44 (.call 6 [r42,(.c (pi 1)),r43]),
 m d12 r44])
 (.seq (.ops [m d45 r10,
 m d46 r9,
 .o d47 (.call 6 [r45,(.c (pi 0)),r46]),
 m d13 r47])
 (.seq (.ops [m d48 r3,
 o d49 (.bin .eq r48 (.c (pi 1))),
 m d50 r49,
 .g .h3 .h2 true d51 (.op (.fad 0 r4)),
 .g .h3 .h2 true d52 (.op (.ld1 r51)),
 .g .h3 .h2 true d53 (.op (.bin .eq r52 (.c (pi 12)))),
 o d54 (.pick r50 r53 (.c (.bool false))),
 m d55 r54,
 .g .h3 .h7 true d56 (.op (.mv r5)),
 .g .h3 .h7 true d57 (.op (.bin .eq r56 (.c (pi 0)))),
 o d58 (.pick r55 r57 (.c (.bool false))),
 m d59 r58,
 .g .h3 .hb true d60 (.op (.mv r7)),
 .g .h3 .hb true d61 (.op (.bin .eq r60 (.c (pi 1)))),
 o d62 (.pick r59 r61 (.c (.bool false))),
 m d63 r62,
 .g .h3 .hf true d64 (.op (.mv r8)),
 .g .h3 .hf true d65 (.op (.bin .eq r64 (.c (pi 12)))),
 o d66 (.pick r63 r65 (.c (.bool false))),
 m d67 r66,
 .g .h4 .h3 true d68 (.op (.mv r11)),
 .g .h4 .h3 true d69 (.op (.bin .eq r68 (.c (pi 12)))),
 o d70 (.pick r67 r69 (.c (.bool false))),
 m d71 r70,
 .g .h4 .h7 true d72 (.op (.mv r12)),
 .g .h4 .h7 true d73 (.op (.bin .eq r72 (.c (pi 0)))),
 o d74 (.pick r71 r73 (.c (.bool false))),
 m d75 r74,
 .g .h4 .hb true d76 (.op (.mv r13)),
 .g .h4 .hb true d77 (.op (.bin .eq r76 (.c (pi 1)))),
 o d78 (.pick r75 r77 (.c (.bool false))),
 m d79 r78,
 .g .h4 .hf true d80 (.op (.mv r10)),
 .g .h4 .hf true d81 (.call 8 [r80]),
 .g .h4 .hf true d82 (.op (.bin .eq r81 (.c (pi 1)))),
 o d83 (.pick r79 r82 (.c (.bool false))),
 m d84 r83,
 .g .h5 .h4 true d85 (.call 9 []),
 o d86 (.pick r84 r85 (.c (.bool false))),
 m d0 r86]) .ret))))
def c3_1 : AC := (.seq (.ops [m d28 r1,
 .o d29 (.call 5 [r28,(.c (pi 0)),(.c (.str [120]))]),
 m d27 r29,
 o d30 (.ext 0 r27),
 o d31 (.ext 1 r27),
 o d6 (.alloc 26 3 (.k1 (.mk (pi 0) (pi 0) (.str []) .undef .undef .undef .undef .undef .undef .undef .undef .undef .undef .undef .undef .undef))),
 o .no (.stn 3 r6 r30),
 m d7 r31])
 (.seq (.ops [m d32 r1,
 .o d33 (.call 6 [r32,(.c (pi 9)),(.c (.str [114,117,98,98,105,115,104]))]),
 m d8 r33])
 (.seq (.ops [m d34 r1,
 .o d35 (.call 7 [r34]),
 m d9 r35])
 (.seq (.ops [.o d36 (.call 4 []),
 m d10 r36])
 (.seq (.seq (.ops [m d37 r10,
 o d38 (.bin .peq r37 (.c .nilp))])
 (.cond r38 (.seq (.ops [m d0 (.c (.bool false))])
 .ret)
 .skip))
 c3_2)))))
def c3_0 : AC := (.seq (.ops [m d0 (.c (.bool false))])
 (.seq (.ops [.o d14 (.call 4 []),
 m d1 r14])
 (.seq (.seq (.ops [m d15 r1,
 o d16 (.bin .peq r15 (.c .nilp))])
 (.cond r16 (.seq (.ops [m d0 (.c (.bool false))])
 .ret)
 .skip))
 (.seq (.ops [m d18 r1,
 .o d19 (.call 5 [r18,(.c (pi 5)),(.c (.str [120]))]),
 m d17 r19,
 o d20 (.ext 0 r17),
 o d21 (.ext 1 r17),
 o d2 (.alloc 26 3 (.k1 (.mk (pi 0) (pi 0) (.str []) .undef .undef .undef .undef .undef .undef .undef .undef .undef .undef .undef .undef .undef))),
 o .no (.stn 3 r2 r20),
 m d3 r21])
 (.seq (.ops [m d23 r1,
 .o d24 (.call 5 [r23,(.c (pi 0)),(.c (.str [110,111,32,101,110,116,114,121]))]),
 m d22 r24,
 o d25 (.ext 0 r22),
 o d26 (.ext 1 r22),
 o d4 (.alloc 26 3 (.k1 (.mk (pi 0) (pi 0) (.str []) .undef .undef .undef .undef .undef .undef .undef .undef .undef .undef .undef .undef .undef))),
 o .no (.stn 3 r4 r25),
 m d5 r26])
 c3_1)))))
def b3 : AC := c3_0
def s3 : List Rs := [.t .h0 .h0]
def c4_0 : AC := (.seq (.ops [m d0 (.c .nilp)])
 (.seq (.ops [.o d1 (.call 10 []),
 o d2 (.build [.nilp,(pi 0)] [.mk 0 1 r1]),
 o d3 (.box 36 r2),
 m d0 r3])
 .ret))
def b4 : AC := c4_0
def s4 : List Rs := [.t .h0 .h0]
def c5_1 : AC := (.seq (.ops [m d25 r2,
 o d26 (.conv (.s2b 5) r25),
 .o d27 (.call 11 [r26]),
 m d24 r27,
 o d28 (.ext 0 r24),
 o d29 (.ext 1 r24),
 o d8 (.alloc 40 7 (.k1 (.mk (pi 0) (pi 0) (pi 0) (.str []) (.str []) .nils .nils .undef .undef .undef .undef .undef .undef .undef .undef .undef))),
 o .no (.stn 7 r8 r28),
 m d9 r29])
 (.seq (.seq (.ops [m d30 r9,
 o d31 (.bin .ne r30 (.c (pi 0)))])
 (.cond r31 (.seq (.ops [o d32 (.build [(pi 0),(pi 0),(.str [])] [.mk 0 1 (.c (pi 12))]),
 o .no (.stn 3 r6 r32),
 m d7 (.c (pi 0))])
 .ret)
 .skip))
 (.seq (.drw [q 0 (m d33 r0),
 q 0 (o d34 (.nilc r33)),
 q 0 (o d35 (.fad 0 r34)),
 q 0 (o d36 (.ld1 r35)),
 q 0 (o d37 (.ldn 7 r8)),
 w (.o d38 (.call 12 [r36,r37])),
 w (o .no (.stn 3 r6 r38)),
 q 0 (m d7 (.c (pi 0)))])
 .ret)))
def c5_0 : AC := (.seq (.ops [o d6 (.alloc 26 3 (.k1 (.mk (pi 0) (pi 0) (.str []) .undef .undef .undef .undef .undef .undef .undef .undef .undef .undef .undef .undef .undef))),
 m d7 (.c (pi 0))])
 (.seq (.seq (.ops [m d10 r1,
 m d11 r0,
 o d12 (.nilc r11),
 o d13 (.fad 1 r12),
 o d14 (.ld1 r13),
 o d15 (.bin .ne r10 r14)])
 (.cond r15 (.seq (.ops [o d16 (.build [(pi 0),(pi 0),(.str [])] []),
 o .no (.stn 3 r6 r16),
 m d7 (.c (pi 1))])
 .ret)
 .skip))
 (.seq (.ops [m d17 r0,
 o d18 (.nilc r17),
 o d19 (.fad 1 r18),
 o d20 (.ld1 r19),
 o d21 (.bin .add r20 (.c (pi 1))),
 o d22 (.nilc r17),
 o d23 (.fad 1 r22),
 o .no (.st1 r23 r21)])
 c5_1)))
def b5 : AC := c5_0
def s5 : List Rs := [.agg 3 .h0 .h6,.t .h0 .h7]
def c6_1 : AC := (.cond r26 (.seq (.ops [m d6 (.c (pi 12))])
 .ret)
 .skip)
def c6_3 : AC := (.seq (.ops [m d6 (.c (pi 0))])
 .ret)
def c6_2 : AC := (.seq (.ops [m d28 r2,
 o d29 (.slcs r28 (.some (.c (pi 8))) .none),
 o d30 (.conv (.s2b 5) r29),
 .o d31 (.call 15 [r30]),
 m d27 r31,
 o d32 (.ext 0 r27),
 o d33 (.ext 1 r27),
 m d7 r32,
 m d8 r33])
 (.seq (.seq (.ops [m d34 r8,
 o d35 (.bin .ne r34 (.c (pi 0)))])
 (.cond r35 (.seq (.ops [m d6 (.c (pi 12))])
 .ret)
 .skip))
 (.seq (.ops [m d36 r0,
 m d37 r0,
 m d38 r7,
 m d39 r1,
 o d40 (.nilc r36),
 o d41 (.fad 0 r40),
 o .no (.st1 r41 r38),
 o d42 (.nilc r37),
 o d43 (.fad 1 r42),
 o .no (.st1 r43 r39)])
 c6_3)))
def c6_0 : AC := (.seq (.ops [m d6 (.c (pi 0))])
 (.seq (.seq (.ops [m d9 r1,
 m d10 r0,
 o d11 (.nilc r10),
 o d12 (.fad 1 r11),
 o d13 (.ld1 r12),
 o d14 (.bin .lt r9 r13)])
 (.cond r14 (.seq (.ops [m d6 (.c (pi 1))])
 .ret)
 .skip))
 (.seq (.seq (.ops [m d15 r2,
 o d16 (.lent r15),
 o d17 (.bin .lt r16 (.c (pi 8))),
 m d18 r17,
 .g .h1 .h2 false d19 (.op (.mv r2)),
 .g .h1 .h2 false d20 (.op (.slcs r19 .none (.some (.c (pi 8))))),
 .g .h1 .h2 false d21 (.op (.conv (.s2b 5) r20)),
 .g .h1 .h2 false d22 (.call 13 [r21]),
 .g .h1 .h2 false d23 (.call 14 [r22]),
 .g .h1 .h2 false d24 (.op (.mv r1)),
 .g .h1 .h2 false d25 (.op (.bin .ne r23 r24)),
 o d26 (.pick r18 (.c (.bool true)) r25)]) c6_1) c6_2)))
def b6 : AC := c6_0
def s6 : List Rs := [.t .h0 .h6]
def c7_0 : AC := (.seq (.ops [m d2 (.c (.str []))])
 (.seq (.ops [.o d4 (.call 16 []),
 m d3 r4])
 (.seq (.ops [m d5 r3,
 m d6 r0,
 o d7 (.nilc r6),
 o d8 (.fad 1 r7),
 o d9 (.ld1 r8),
 .o d10 (.call 17 [r5,r9])])
 (.seq (.drw [q 0 (m d11 r3),
 w (.o d12 (.call 18 [r11])),
 q 1 (m d14 r0),
 q 1 (o d15 (.nilc r14)),
 q 1 (o d16 (.fad 0 r15)),
 q 1 (o d17 (.ld1 r16)),
 w (.o d18 (.call 19 [r17])),
 q 1 (o d13 (.conv .b2s r12)),
 q 0 (o d19 (.conv .b2s r18)),
 q 0 (o d20 (.bin .cat r13 r19)),
 q 0 (m d2 r20)]) .ret))))
def b7 : AC := c7_0
def s7 : List Rs := [.t .h0 .h2]
def c8_0 : AC := (.seq (.ops [m d2 (.c (pi 0))])
 (.seq (.ops [m d3 r0,
 o d4 (.nilc r3),
 o d5 (.fad 1 r4),
 o d6 (.ld1 r5),
 m d2 r6])
 .ret))
def b8 : AC := c8_0
def s8 : List Rs := [.t .h0 .h2]
def c9_1 : AC := (.seq (.ops [m d16 r1,
 .o d17 (.call 23 []),
 .o d18 (.call 22 [(.c (.str [116])),r17]),
 .o d19 (.call 21 [r18,(.c (pi 0)),(.c (pi 1))]),
 .o d20 (.call 20 [r19]),
 o d21 (.conv .b2s r20),
 .o d22 (.call 5 [r16,(.c (pi 0)),r21]),
 m d15 r22,
 o d23 (.ext 0 r15),
 o d24 (.ext 1 r15),
 o d3 (.alloc 26 3 (.k1 (.mk (pi 0) (pi 0) (.str []) .undef .undef .undef .undef .undef .undef .undef .undef .undef .undef .undef .undef .undef))),
 o .no (.stn 3 r3 r23),
 m d4 r24])
 (.seq (.ops [m d25 r2,
 m d26 r1,
 .o d27 (.call 7 [r26]),
 .o d28 (.call 6 [r25,(.c (pi 1)),r27]),
 m d5 r28])
 (.seq (.ops [m d29 r2,
 .o d30 (.call 24 [r29]),
 m d6 r30])
 (.seq (.ops [o d31 (.ldn 3 r3),
 o d32 (.build [(pi 0),(pi 0),(.str [])] []),
 o d33 (.bin (.aeq [.i,.i,.s]) r31 r32),
 m d34 r33,
 .g .h2 .h2 true d35 (.op (.mv r4)),
 .g .h2 .h2 true d36 (.op (.bin .eq r35 (.c (pi 0)))),
 o d37 (.pick r34 r36 (.c (.bool false))),
 m d38 r37,
 .g .h2 .h6 true d39 (.op (.mv r5)),
 .g .h2 .h6 true d40 (.op (.bin .eq r39 (.c (pi 0)))),
 o d41 (.pick r38 r40 (.c (.bool false))),
 m d42 r41,
 .g .h2 .ha true d43 (.op (.mv r2)),
 .g .h2 .ha true d44 (.call 8 [r43]),
 .g .h2 .ha true d45 (.op (.bin .eq r44 (.c (pi 1)))),
 o d46 (.pick r42 r45 (.c (.bool false))),
 m d47 r46,
 .g .h2 .hf true d48 (.op (.mv r6)),
 .g .h2 .hf true d49 (.op (.bin .pne r48 (.c .nilp))),
 o d50 (.pick r47 r49 (.c (.bool false))),
 m d51 r50,
 .g .h3 .h3 true d52 (.op (.mv r6)),
 .g .h3 .h3 true d53 (.call 26 [r52]),
 .g .h3 .h3 true d54 (.op (.bslice 9 1 1 [(.str [])] [.mk 0 1 (.c (.str [116]))])),
 .g .h3 .h3 true d55 (.call 25 [r53,r54]),
 o d56 (.pick r51 r55 (.c (.bool false))),
 m d0 r56]) .ret))))
def c9_0 : AC := (.seq (.ops [m d0 (.c (.bool false))])
 (.seq (.ops [.o d7 (.call 4 []),
 m d1 r7])
 (.seq (.ops [.o d8 (.call 4 []),
 m d2 r8])
 (.seq (.seq (.ops [m d9 r1,
 o d10 (.bin .peq r9 (.c .nilp)),
 m d11 r10,
 .g .h0 .hb false d12 (.op (.mv r2)),
 .g .h0 .hb false d13 (.op (.bin .peq r12 (.c .nilp))),
 o d14 (.pick r11 (.c (.bool true)) r13)])
 (.cond r14 (.seq (.ops [m d0 (.c (.bool false))])
 .ret)
 .skip))
 c9_1))))
def b9 : AC := c9_0
def s9 : List Rs := [.t .h0 .h0]
def c10_0 : AC := (.seq (.ops [m d0 (.c .nilp)])
 (.seq (.ops [.o d1 (.call 27 []),
 o d2 (.mkmap),
 .o d3 (.call 28 []),
 o d4 (.build [.nilp,.nils,.nilm,.nilp] [.mk 0 1 r1,.mk 2 1 r2,.mk 3 1 r3]),
 o d5 (.box 68 r4),
 m d0 r5])
 .ret))
def b10 : AC := c10_0
def s10 : List Rs := [.t .h0 .h0]
def c11_3 : AC := (.ops [m d30 r6,
 o d31 (.bin .sub r30 (.c (pi 1))),
 m d6 r31])
def c11_2 : AC := (.seq (.seq (.ops [m d28 r6,
 o d29 (.bin .gt r28 (.c (pi 0)))])
 (.cond r29 .skip
 (.exit 0)))
 (.seq (.block 1 (.seq (.ops [m d32 r4,
 .o d33 (.call 29 [r32,(.c (pi 65535))]),
 o d34 (.build [(.str []),(pi 0)] [.mk 0 1 r33]),
 o d7 (.alloc 71 2 (.k1 (.mk (.str []) (pi 0) .undef .undef .undef .undef .undef .undef .undef .undef .undef .undef .undef .undef .undef .undef))),
 o .no (.stn 2 r7 r34)])
 (.seq (.ops [m d35 r4,
 .o d36 (.call 14 [r35]),
 o d37 (.fad 1 r7),
 o .no (.st1 r37 r36)])
 (.ops [o d38 (.fad 5 r5),
 o d39 (.ld1 r38),
 o d40 (.ldn 2 r7),
 o d41 (.bslice 71 2 1 [(.str []),(pi 0)] [.mk 0 2 r40]),
 o d42 (.app 71 2 r39 r41),
 o d43 (.fad 5 r5),
 o .no (.st1 r43 r42)]))))
 c11_3))
def c11_1 : AC := (.seq (.ops [m d26 r4,
 .o d27 (.call 30 [r26]),
 m d6 r27])
 (.block 0 (.loop c11_2)))
def c11_6 : AC := (.ops [m d48 r8,
 o d49 (.bin .sub r48 (.c (pi 1))),
 m d8 r49])
def c11_5 : AC := (.seq (.seq (.ops [m d46 r8,
 o d47 (.bin .gt r46 (.c (pi 0)))])
 (.cond r47 .skip
 (.exit 2)))
 (.seq (.block 3 (.drw [q 0 (m d52 r4),
 w (.o d53 (.call 31 [r52])),
 w (o d54 (.bslice 75 3 1 [(.str []),.nils,(.bool false)] [.mk 0 3 r53])),
 q 2 (o d50 (.fad 6 r5)),
 q 2 (o d51 (.ld1 r50)),
 w (o d55 (.app 75 3 r51 r54)),
 q 0 (o d56 (.fad 6 r5)),
 w (o .no (.st1 r56 r55))])) c11_6))
def c11_4 : AC := (.seq (.ops [m d44 r4,
 .o d45 (.call 30 [r44]),
 m d8 r45])
 (.block 2 (.loop c11_5)))
def c11_8 : AC := (.cond r75 (.seq (.ops [o d76 (.build [(pi 0),(pi 0),(pi 0),(.str []),(.str []),.nils,.nils] []),
 o .no (.stn 7 r2 r76),
 m d3 (.c (pi 12))])
 .ret)
 .skip)
def c11_7 : AC := (.seq (.ops [m d58 r4,
 .o d59 (.call 32 [r58]),
 m d57 r59,
 o d60 (.ext 0 r57),
 o d61 (.ext 1 r57),
 m d9 r60,
 m d10 r61])
 (.seq (.ops [m d62 r9,
 o d63 (.bin .ne r62 (.c (pi 0))),
 m d64 r63,
 .g .h4 .h0 false d65 (.op (.ldn 7 r5)),
 .g .h4 .h0 false d66 (.call 33 [r65]),
 .g .h4 .h0 false d67 (.op (.un .not r66)),
 o d68 (.pick r64 (.c (.bool true)) r67),
 m d69 r68,
 .g .h4 .h5 false d70 (.op (.ldn 7 r5)),
 .g .h4 .h5 false d71 (.call 20 [r70]),
 .g .h4 .h5 false d72 (.op (.mv r0)),
 .g .h4 .h5 false d73 (.call 34 [r71,r72]),
 .g .h4 .h5 false d74 (.op (.un .not r73)),
 o d75 (.pick r69 (.c (.bool true)) r74)]) c11_8))
def c11_9 : AC := (.seq (.ops [o d77 (.ldn 7 r5),
 o .no (.stn 7 r2 r77),
 m d3 (.c (pi 0))])
 .ret)
def c11_0 : AC := (.seq (.ops [o d2 (.alloc 40 7 (.k1 (.mk (pi 0) (pi 0) (pi 0) (.str []) (.str []) .nils .nils .undef .undef .undef .undef .undef .undef .undef .undef .undef))),
 m d3 (.c (pi 0))])
 (.seq (.ops [m d11 r0,
 .o d12 (.call 13 [r11]),
 m d4 r12])
 (.seq (.ops [m d13 r4,
 .o d14 (.call 14 [r13]),
 m d15 r4,
 .o d16 (.call 14 [r15]),
 m d17 r4,
 .o d18 (.call 14 [r17]),
 o d19 (.build [(pi 0),(pi 0),(pi 0),(.str []),(.str []),.nils,.nils] [.mk 0 1 r14,.mk 1 1 r16,.mk 2 1 r18]),
 o d5 (.alloc 40 7 (.k1 (.mk (pi 0) (pi 0) (pi 0) (.str []) (.str []) .nils .nils .undef .undef .undef .undef .undef .undef .undef .undef .undef))),
 o .no (.stn 7 r5 r19)])
 (.seq (.ops [m d20 r4,
 .o d21 (.call 29 [r20,(.c (pi 65535))]),
 o d22 (.fad 3 r5),
 o .no (.st1 r22 r21)])
 (.seq (.ops [m d23 r4,
 .o d24 (.call 29 [r23,(.c (pi 65535))]),
 o d25 (.fad 4 r5),
 o .no (.st1 r25 r24)])
 (.seq c11_1 (.seq c11_4 (.seq c11_7 c11_9))))))))
def b11 : AC := c11_0
def s11 : List Rs := [.agg 7 .h0 .h2,.t .h0 .h3]
def c12_2 : AC := (.seq (.ops [o d41 (.ldn 3 r6),
 o .no (.stn 3 r4 r41)])
 .ret)
def c12_1 : AC := (.seq (.seq (.ops [m d19 r5])
 (.block 0 (.seq (.ops [o d21 (.bin .eq r19 (.c (pi 1))),
 m d20 r21])
 (.cond r20 (.seq (.ops [m d22 r0,
 o d23 (.ldn 7 r3),
 .o d24 (.call 36 [r22,r23]),
 o .no (.stn 3 r6 r24)])
 (.drw [q 0 (m d25 r0),
 q 0 (o d26 (.nilc r25)),
 q 0 (o d27 (.fad 3 r26)),
 q 0 (o d28 (.ld1 r27)),
 q 0 (o d29 (.fad 0 r3)),
 q 0 (o d30 (.ld1 r29)),
 q 0 (o d31 (.fad 1 r3)),
 q 0 (o d32 (.ld1 r31)),
 q 0 (o d33 (.ldn 3 r6)),
 w (.o d34 (.call 37 [r28,r30,r32,r33]))]))
 (.seq (.ops [o d36 (.bin .eq r19 (.c (pi 3))),
 m d35 r36])
 (.cond r35 (.ops [o d37 (.build [(pi 0),(pi 0),(.str [])] [.mk 0 1 (.c (pi 28))]),
 o .no (.stn 3 r6 r37)])
 (.seq (.ops [o d39 (.bin .eq r19 (.c (pi 0))),
 m d38 r39])
 (.cond r38 (.ops [o d40 (.build [(pi 0),(pi 0),(.str [])] [.mk 0 1 (.c (pi 1))]),
 o .no (.stn 3 r6 r40)])
 .skip))))))))
 c12_2)
def c12_0 : AC := (.seq (.ops [o d3 (.box 40 r1),
 o d4 (.alloc 26 3 (.k1 (.mk (pi 0) (pi 0) (.str []) .undef .undef .undef .undef .undef .undef .undef .undef .undef .undef .undef .undef .undef)))])
 (.seq (.drw [q 0 (m d8 r0),
 q 0 (o d9 (.nilc r8)),
 q 0 (o d10 (.fad 3 r9)),
 q 0 (o d11 (.ld1 r10)),
 q 0 (o d12 (.fad 0 r3)),
 q 0 (o d13 (.ld1 r12)),
 q 0 (o d14 (.fad 1 r3)),
 q 0 (o d15 (.ld1 r14)),
 w (.o d16 (.call 35 [r11,r13,r15])),
 q 0 (m d7 r16),
 q 0 (o d17 (.ext 0 r7)),
 q 0 (o d18 (.ext 1 r7)),
 q 0 (m d5 r17),
 n (o d6 (.alloc 26 3 (.k1 (.mk (pi 0) (pi 0) (.str []) .undef .undef .undef .undef .undef .undef .undef .undef .undef .undef .undef .undef .undef)))),
 w (o .no (.stn 3 r6 r18))])
 c12_1))
def b12 : AC := c12_0
def s12 : List Rs := [.agg 3 .h0 .h4]
def c13_0 : AC := (.seq (.ops [m d2 (.c .nilp)])
 (.seq (.ops [m d3 r0,
 .o d4 (.call 38 [r3]),
 o d5 (.build [.nils,(pi 0),(pi 0),(pi 0)] [.mk 0 1 r4]),
 o d6 (.box 86 r5),
 m d2 r6])
 .ret))
def b13 : AC := c13_0
def s13 : List Rs := [.t .h0 .h2]
def c14_0 : AC := (.seq (.ops [m d2 (.c (pi 0))])
 (.seq (.ops [m d3 r0,
 .o d4 (.call 39 [r3,(.c (pi 8))]),
 o d5 (.conv (.toInt .i64) r4),
 m d2 r5])
 .ret))
def b14 : AC := c14_0
def s14 : List Rs := [.t .h0 .h2]
def c15_2 : AC := (.cond r46 (.seq (.ops [m d2 (.c .nilp),
 m d3 (.c (pi 12))])
 .ret)
 .skip)
def c15_7 : AC := (.ops [o d80 (.bin .add r60 (.c (pi 1))),
 m d60 r80])
def c15_6 : AC := (.seq (.block 1 (.seq (.ops [o d62 (.ixs 11 r58 r60),
 o d63 (.ldn 11 r62),
 o d11 (.alloc 103 11 (.k1 (.mk (.str []) (.str []) (pi 0) (.str []) .nils .nils .nils .nils .nils .nils .nils .undef .undef .undef .undef .undef))),
 o .no (.stn 11 r11 r63)])
 (.seq (.ops [m d65 r5,
 o d66 (.fad 1 r11),
 o d67 (.ld1 r66),
 .o d68 (.call 45 [r65,r67]),
 m d64 r68,
 o d69 (.ext 0 r64),
 o d70 (.ext 1 r64),
 m d12 r69,
 m d13 r70])
 (.seq (.seq (.ops [m d71 r13,
 o d72 (.bin .ne r71 (.c (pi 0)))])
 (.cond r72 (.seq (.ops [m d2 (.c .nilp),
 m d3 (.c (pi 12))])
 .ret)
 .skip))
 (.drw [q 0 (m d73 r5),
 q 0 (o d74 (.nilc r73)),
 q 0 (o d75 (.fad 2 r74)),
 q 0 (o d76 (.ld1 r75)),
 q 0 (o d77 (.fad 0 r11)),
 q 0 (o d78 (.ld1 r77)),
 q 0 (m d79 r12),
 w (o .no (.mup (.one .s) r76 r78 r79))])))))
 c15_7)
def c15_5 : AC := (.seq (.ops [o d61 (.bin .lt r60 r59)])
 (.seq (.cond r61 .skip
 (.exit 0))
 c15_6))
def c15_4 : AC := (.seq (.ops [m d54 r5,
 o d55 (.nilc r54),
 o d56 (.fad 0 r55),
 o d57 (.ld1 r56),
 .o d58 (.call 44 [r57]),
 o d59 (.len r58),
 m d60 (.c (pi 0))])
 (.block 0 (.loop c15_5)))
def c15_8 : AC := (.seq (.seq (.ops [m d81 r5,
 .o d82 (.call 19 [r81]),
 m d83 r0,
 .o d84 (.call 34 [r82,r83]),
 o d85 (.un .not r84)])
 (.cond r85 (.seq (.ops [m d2 (.c .nilp),
 m d3 (.c (pi 12))])
 .ret)
 .skip))
 (.seq (.ops [m d86 r5,
 m d2 r86,
 m d3 (.c (pi 0))])
 .ret))
def c15_3 : AC := (.seq (.seq (.ops [m d48 r4,
 .o d49 (.call 32 [r48]),
 m d47 r49,
 o d50 (.ext 0 r47),
 o d51 (.ext 1 r47),
 m d8 r50,
 m d9 r51])
 (.seq (.ops [m d52 r8,
 o d53 (.bin .ne r52 (.c (pi 0)))])
 (.cond r53 (.seq (.ops [m d2 (.c .nilp),
 m d3 (.c (pi 12))])
 .ret)
 .skip)))
 (.seq c15_4 c15_8))
def c15_1 : AC := (.seq (.ops [m d27 r5,
 m d28 r4,
 .o d29 (.call 41 [r28]),
 .o d30 (.call 42 [r29]),
 m d26 r30,
 o d31 (.ext 0 r26),
 o d32 (.ext 1 r26),
 o d33 (.nilc r27),
 o d34 (.fad 3 r33),
 o .no (.st1 r34 r31),
 m d7 r32])
 (.seq (.seq (.ops [m d35 r6,
 o d36 (.bin .ne r35 (.c (pi 0))),
 m d37 r36,
 .g .h2 .h5 false d38 (.op (.mv r7)),
 .g .h2 .h5 false d39 (.op (.bin .ne r38 (.c (pi 0)))),
 o d40 (.pick r37 (.c (.bool true)) r39),
 m d41 r40,
 .g .h2 .h9 false d42 (.op (.mv r5)),
 .g .h2 .h9 false d43 (.op (.mv r4)),
 .g .h2 .h9 false d44 (.call 43 [r42,r43]),
 .g .h2 .h9 false d45 (.op (.un .not r44)),
 o d46 (.pick r41 (.c (.bool true)) r45)]) c15_2) c15_3))
def c15_0 : AC := (.seq (.ops [m d2 (.c .nilp),
 m d3 (.c (pi 0))])
 (.seq (.ops [m d14 r0,
 .o d15 (.call 13 [r14]),
 m d4 r15])
 (.seq (.ops [.o d16 (.call 10 []),
 m d5 r16])
 (.seq (.ops [m d6 (.c (pi 0)),
 m d7 (.c (pi 0))])
 (.seq (.ops [m d18 r5,
 m d19 r4,
 .o d20 (.call 41 [r19]),
 .o d21 (.call 40 [r20]),
 m d17 r21,
 o d22 (.ext 0 r17),
 o d23 (.ext 1 r17),
 o d24 (.nilc r18),
 o d25 (.fad 0 r24),
 o .no (.st1 r25 r22),
 m d6 r23])
 c15_1)))))
def b15 : AC := c15_0
def s15 : List Rs := [.t .h0 .h2,.t .h0 .h3]
def c16_0 : AC := (.seq (.ops [m d0 (.c .nilp)])
 (.seq (.ops [o d1 (.build [.nils] []),
 o d2 (.box 108 r1),
 m d0 r2])
 .ret))
def b16 : AC := c16_0
def s16 : List Rs := [.t .h0 .h0]
def c17_0 : AC := (.ops [m d4 r0,
 m d5 r1,
 o d6 (.conv (.toInt .u64) r5),
 .o d7 (.call 46 [r4,r6,(.c (pi 8))])])
def b17 : AC := c17_0
def s17 : List Rs := []
def c18_0 : AC := (.seq (.ops [m d2 (.c .nils)])
 (.seq (.ops [m d3 r0,
 o d4 (.nilc r3),
 o d5 (.fad 0 r4),
 o d6 (.ld1 r5),
 .o d7 (.call 38 [r6]),
 m d2 r7])
 .ret))
def b18 : AC := c18_0
def s18 : List Rs := [.t .h0 .h2]
def c19_2 : AC := (.seq (.ops [o d27 (.bin .lt r26 r25)])
 (.seq (.cond r27 .skip
 (.exit 0))
 (.seq (.block 1 (.seq (.ops [o d28 (.ixs 3 r24 r26),
 o d29 (.ldn 3 r28),
 o d5 (.alloc 114 3 (.k1 (.mk (.str []) .nils .nils .undef .undef .undef .undef .undef .undef .undef .undef .undef .undef .undef .undef .undef))),
 o .no (.stn 3 r5 r29)])
 (.ops [m d30 r3,
 o d31 (.fad 2 r5),
 o d32 (.ld1 r31),
 .o d33 (.call 50 [r30,r32])])))
 (.ops [o d34 (.bin .add r26 (.c (pi 1))),
 m d26 r34]))))
def c19_1 : AC := (.seq (.ops [m d21 r0,
 o d22 (.nilc r21),
 o d23 (.fad 1 r22),
 o d24 (.ld1 r23),
 o d25 (.len r24),
 m d26 (.c (pi 0))])
 (.block 0 (.loop c19_2)))
def c19_3 : AC := (.seq (.ops [m d35 r3,
 .o d36 (.call 18 [r35]),
 m d2 r36])
 .ret)
def c19_0 : AC := (.seq (.ops [m d2 (.c .nils)])
 (.seq (.ops [.o d6 (.call 16 []),
 m d3 r6])
 (.seq (.ops [m d7 r3,
 m d8 r0,
 o d9 (.nilc r8),
 o d10 (.fad 0 r9),
 o d11 (.ld1 r10),
 .o d12 (.call 48 [r11]),
 .o d13 (.call 47 [r7,r12])])
 (.seq (.ops [m d14 r3,
 m d15 r0,
 o d16 (.nilc r15),
 o d17 (.fad 3 r16),
 o d18 (.ld1 r17),
 .o d19 (.call 49 [r18]),
 .o d20 (.call 47 [r14,r19])])
 (.seq c19_1 c19_3)))))
def b19 : AC := c19_0
def s19 : List Rs := [.t .h0 .h2]
def c20_3 : AC := (.seq (.ops [o d44 (.bin .lt r43 r42)])
 (.seq (.cond r44 .skip
 (.exit 0))
 (.seq (.block 1 (.seq (.ops [o d45 (.ixs 2 r41 r43),
 o d46 (.ldn 2 r45),
 o d5 (.alloc 71 2 (.k1 (.mk (.str []) (pi 0) .undef .undef .undef .undef .undef .undef .undef .undef .undef .undef .undef .undef .undef .undef))),
 o .no (.stn 2 r5 r46)])
 (.seq (.ops [m d47 r3,
 o d48 (.fad 0 r5),
 o d49 (.ld1 r48),
 .o d50 (.call 51 [r47,r49])])
 (.ops [m d51 r3,
 o d52 (.fad 1 r5),
 o d53 (.ld1 r52),
 .o d54 (.call 17 [r51,r53])]))))
 (.ops [o d55 (.bin .add r43 (.c (pi 1))),
 m d43 r55]))))
def c20_2 : AC := (.seq (.ops [o d40 (.fad 5 r1),
 o d41 (.ld1 r40),
 o d42 (.len r41),
 m d43 (.c (pi 0))])
 (.block 0 (.loop c20_3)))
def c20_9 : AC := (.seq (.ops [o d81 (.bin .lt r80 r79)])
 (.seq (.cond r81 .skip
 (.exit 4))
 (.seq (.block 5 (.seq (.ops [o d82 (.ixs 3 r78 r80),
 o d83 (.ldn 3 r82),
 o d9 (.alloc 119 3 (.k1 (.mk (pi 0) (pi 0) (.str []) .undef .undef .undef .undef .undef .undef .undef .undef .undef .undef .undef .undef .undef))),
 o .no (.stn 3 r9 r83)])
 (.seq (.ops [m d84 r3,
 o d85 (.fad 0 r9),
 o d86 (.ld1 r85),
 .o d87 (.call 17 [r84,r86])])
 (.seq (.ops [m d88 r3,
 o d89 (.fad 1 r9),
 o d90 (.ld1 r89),
 .o d91 (.call 17 [r88,r90])])
 (.ops [m d92 r3,
 o d93 (.fad 2 r9),
 o d94 (.ld1 r93),
 .o d95 (.call 51 [r92,r94])])))))
 (.ops [o d96 (.bin .add r80 (.c (pi 1))),
 m d80 r96]))))
def c20_8 : AC := (.seq (.ops [o d77 (.fad 1 r7),
 o d78 (.ld1 r77),
 o d79 (.len r78),
 m d80 (.c (pi 0))])
 (.block 4 (.loop c20_9)))
def c20_10 : AC := (.seq (.ops [m d10 (.c (pi 0))])
 (.seq (.seq (.ops [o d97 (.fad 2 r7),
 o d98 (.ld1 r97)])
 (.cond r98 (.ops [m d10 (.c (pi 1))])
 .skip))
 (.ops [m d99 r3,
 m d100 r10,
 .o d101 (.call 52 [r99,r100])])))
def c20_7 : AC := (.seq (.ops [o d66 (.ixs 3 r62 r64),
 o d67 (.ldn 3 r66),
 o d7 (.alloc 75 3 (.k1 (.mk (.str []) .nils (.bool false) .undef .undef .undef .undef .undef .undef .undef .undef .undef .undef .undef .undef .undef))),
 o .no (.stn 3 r7 r67)])
 (.seq (.ops [m d68 r3,
 o d69 (.fad 0 r7),
 o d70 (.ld1 r69),
 .o d71 (.call 51 [r68,r70])])
 (.seq (.ops [m d72 r3,
 o d73 (.fad 1 r7),
 o d74 (.ld1 r73),
 o d75 (.len r74),
 .o d76 (.call 52 [r72,r75])])
 (.seq c20_8 c20_10))))
def c20_11 : AC := (.ops [o d102 (.bin .add r64 (.c (pi 1))),
 m d64 r102])
def c20_6 : AC := (.seq (.ops [o d65 (.bin .lt r64 r63)])
 (.seq (.cond r65 .skip
 (.exit 2))
 (.seq (.block 3 c20_7) c20_11)))
def c20_5 : AC := (.seq (.ops [o d61 (.fad 6 r1),
 o d62 (.ld1 r61),
 o d63 (.len r62),
 m d64 (.c (pi 0))])
 (.block 2 (.loop c20_6)))
def c20_12 : AC := (.seq (.ops [m d103 r3,
 .o d104 (.call 18 [r103]),
 m d2 r104])
 .ret)
def c20_4 : AC := (.seq (.ops [m d56 r3,
 o d57 (.fad 6 r1),
 o d58 (.ld1 r57),
 o d59 (.len r58),
 .o d60 (.call 52 [r56,r59])])
 (.seq c20_5 c20_12))
def c20_1 : AC := (.seq (.ops [m d27 r3,
 o d28 (.fad 3 r1),
 o d29 (.ld1 r28),
 .o d30 (.call 51 [r27,r29])])
 (.seq (.ops [m d31 r3,
 o d32 (.fad 4 r1),
 o d33 (.ld1 r32),
 .o d34 (.call 51 [r31,r33])])
 (.seq (.ops [m d35 r3,
 o d36 (.fad 5 r1),
 o d37 (.ld1 r36),
 o d38 (.len r37),
 .o d39 (.call 52 [r35,r38])])
 (.seq c20_2 c20_4))))
def c20_0 : AC := (.seq (.ops [o d1 (.box 40 r0),
 m d2 (.c .nils)])
 (.seq (.seq (.ops [o d11 (.ldn 7 r1),
 .o d12 (.call 33 [r11]),
 o d13 (.un .not r12)])
 (.cond r13 (.seq (.ops [m d2 (.c .nils)])
 .ret)
 .skip))
 (.seq (.ops [.o d14 (.call 16 []),
 m d3 r14])
 (.seq (.ops [m d15 r3,
 o d16 (.fad 0 r1),
 o d17 (.ld1 r16),
 .o d18 (.call 17 [r15,r17])])
 (.seq (.ops [m d19 r3,
 o d20 (.fad 1 r1),
 o d21 (.ld1 r20),
 .o d22 (.call 17 [r19,r21])])
 (.seq (.ops [m d23 r3,
 o d24 (.fad 2 r1),
 o d25 (.ld1 r24),
 .o d26 (.call 17 [r23,r25])])
 c20_1))))))
def b20 : AC := c20_0
def s20 : List Rs := [.t .h0 .h2]
def c21_0 : AC := (.seq (.ops [o d3 (.box 40 r0),
 o d6 (.alloc 40 7 (.k1 (.mk (pi 0) (pi 0) (pi 0) (.str []) (.str []) .nils .nils .undef .undef .undef .undef .undef .undef .undef .undef .undef)))])
 (.seq (.ops [m d7 r1,
 o d8 (.fad 0 r3),
 o .no (.st1 r8 r7)])
 (.seq (.ops [m d9 r2,
 o d10 (.fad 1 r3),
 o .no (.st1 r10 r9)])
 (.seq (.ops [o d11 (.ldn 7 r3),
 o .no (.stn 7 r6 r11)])
 .ret))))
def b21 : AC := c21_0
def s21 : List Rs := [.agg 7 .h0 .h6]
def c22_0 : AC := (.seq (.ops [o d4 (.alloc 40 7 (.k1 (.mk (pi 0) (pi 0) (pi 0) (.str []) (.str []) .nils .nils .undef .undef .undef .undef .undef .undef .undef .undef .undef)))])
 (.seq (.ops [m d5 r0,
 o d6 (.bslice 71 2 0 [] []),
 m d7 r1,
 o d8 (.app 71 2 r6 r7),
 o d9 (.build [(pi 0),(pi 0),(pi 0),(.str []),(.str []),.nils,.nils] [.mk 2 1 (.c (pi 1)),.mk 3 1 r5,.mk 5 1 r8]),
 o .no (.stn 7 r4 r9)])
 .ret))
def b22 : AC := c22_0
def s22 : List Rs := [.agg 7 .h0 .h4]
def c23_0 : AC := (.seq (.ops [m d0 (.c .nils)])
 (.seq (.ops [o d1 (.build [(.str []),(pi 0)] [.mk 0 1 (.c (.str [97])),.mk 1 1 (.c (pi 1))]),
 o d2 (.build [(.str []),(pi 0)] [.mk 0 1 (.c (.str [98])),.mk 1 1 (.c (pi 1))]),
 o d3 (.build [(.str []),(pi 0)] [.mk 0 1 (.c (.str [115])),.mk 1 1 (.c (pi 2))]),
 o d4 (.bslice 71 2 3 [(.str []),(pi 0),(.str []),(pi 0),(.str []),(pi 0)] [.mk 0 2 r1,.mk 2 2 r2,.mk 4 2 r3]),
 m d0 r4])
 .ret))
def b23 : AC := c23_0
def s23 : List Rs := [.t .h0 .h0]
def c24_0 : AC := (.seq (.ops [m d2 (.c .nilp)])
 (.seq (.ops [m d6 r0,
 o d7 (.nilc r6),
 o d8 (.fad 0 r7),
 o d9 (.ld1 r8),
 .o d10 (.call 19 [r9]),
 .o d11 (.call 15 [r10]),
 m d5 r11,
 o d12 (.ext 0 r5),
 o d13 (.ext 1 r5),
 m d3 r12,
 m d4 r13])
 (.seq (.ops [m d14 r3,
 m d2 r14])
 .ret)))
def b24 : AC := c24_0
def s24 : List Rs := [.t .h0 .h2]
def c25_2 : AC := (.seq (.seq (.ops [m d11 r5,
 m d12 r0,
 o d13 (.len r12),
 o d14 (.bin .lt r11 r13)])
 (.cond r14 .skip
 (.exit 0)))
 (.seq (.block 1 (.seq (.drw [q 0 (m d17 r0),
 q 0 (m d18 r5),
 q 0 (o d19 (.ixs 1 r17 r18)),
 q 0 (o d20 (.ld1 r19)),
 q 0 (m d21 r1),
 q 0 (m d22 r5),
 q 0 (o d23 (.ixs 1 r21 r22)),
 q 0 (o d24 (.ld1 r23)),
 q 0 (o d25 (.bin .sne r20 r24))])
 (.cond r25 (.seq (.ops [m d4 (.c (.bool false))])
 .ret)
 .skip)))
 (.ops [m d15 r5,
 o d16 (.bin .add r15 (.c (pi 1))),
 m d5 r16])))
def c25_1 : AC := (.seq (.ops [m d5 (.c (pi 0))])
 (.block 0 (.loop c25_2)))
def c25_3 : AC := (.seq (.ops [m d4 (.c (.bool true))])
 .ret)
def c25_0 : AC := (.seq (.ops [m d4 (.c (.bool false))])
 (.seq (.seq (.ops [m d6 r0,
 o d7 (.len r6),
 m d8 r1,
 o d9 (.len r8),
 o d10 (.bin .ne r7 r9)])
 (.cond r10 (.seq (.ops [m d4 (.c (.bool false))])
 .ret)
 .skip))
 (.seq c25_1 c25_3)))
def b25 : AC := c25_0
def s25 : List Rs := [.t .h0 .h4]
def c26_2 : AC := (.seq (.ops [o d13 (.bin .lt r12 r11)])
 (.seq (.cond r13 .skip
 (.exit 0))
 (.seq (.block 1 (.seq (.ops [o d14 (.ixs 2 r10 r12),
 o d15 (.ldn 2 r14),
 o d5 (.alloc 123 2 (.k1 (.mk (.str []) .nils .undef .undef .undef .undef .undef .undef .undef .undef .undef .undef .undef .undef .undef .undef))),
 o .no (.stn 2 r5 r15)])
 (.ops [m d16 r3,
 o d17 (.fad 0 r5),
 o d18 (.ld1 r17),
 o d19 (.bslice 9 1 1 [(.str [])] [.mk 0 1 r18]),
 o d20 (.app 9 1 r16 r19),
 m d3 r20])))
 (.ops [o d21 (.bin .add r12 (.c (pi 1))),
 m d12 r21]))))
def c26_1 : AC := (.seq (.ops [m d6 r0,
 o d7 (.nilc r6),
 o d8 (.fad 0 r7),
 o d9 (.ld1 r8),
 .o d10 (.call 53 [r9]),
 o d11 (.len r10),
 m d12 (.c (pi 0))])
 (.block 0 (.loop c26_2)))
def c26_3 : AC := (.seq (.ops [m d22 r3,
 m d2 r22])
 .ret)
def c26_0 : AC := (.seq (.ops [m d2 (.c .nils)])
 (.seq (.ops [m d3 (.c .nils)])
 (.seq c26_1 c26_3)))
def b26 : AC := c26_0
def s26 : List Rs := [.t .h0 .h2]
def c27_0 : AC := (.seq (.ops [m d0 (.c .nilp)])
 (.seq (.ops [o d1 (.build [.nils,.nils] []),
 o d2 (.box 125 r1),
 m d0 r2])
 .ret))
def b27 : AC := c27_0
def s27 : List Rs := [.t .h0 .h0]
def c28_0 : AC := (.seq (.ops [m d0 (.c .nilp)])
 (.seq (.ops [o d1 (.build [(pi 0),(pi 0),(pi 0),(.str []),(pi 0),(pi 0),(pi 0),(.str []),(pi 0),(pi 0),(pi 0),(.str []),(pi 0),(pi 0),(pi 0),(.str []),(pi 0),(pi 0),(pi 0),(.str []),(pi 0),(pi 0),(pi 0),(.str []),(pi 0),(pi 0),(pi 0),(.str []),(pi 0),(pi 0),(pi 0),(.str []),(pi 0),(pi 0),(pi 0),(.str []),(pi 0),(pi 0),(pi 0),(.str []),(pi 0),(pi 0),(pi 0),(.str []),(pi 0),(pi 0),(pi 0),(.str []),(pi 0),(pi 0),(pi 0),(.str []),(pi 0),(pi 0),(pi 0),(.str []),(pi 0),(pi 0),(pi 0),(.str []),(pi 0),(pi 0),(pi 0),(.str [])] []),
 o d2 (.box 130 r1),
 m d0 r2])
 .ret))
def b28 : AC := c28_0
def s28 : List Rs := [.t .h0 .h0]
def c29_1 : AC := (.cond r23 (.ops [m d24 r0,
 m d25 r5,
 .o d26 (.call 55 [r24,(.c (pi 3)),r25])])
 .skip)
def c29_2 : AC := (.seq (.ops [m d27 r0,
 m d28 r6,
 .o d29 (.call 56 [r27,r28]),
 o d30 (.conv .b2s r29),
 m d4 r30])
 .ret)
def c29_0 : AC := (.seq (.ops [m d4 (.c (.str []))])
 (.seq (.ops [m d7 r0,
 o d8 (.nilc r7),
 o d9 (.fad 1 r8),
 o d10 (.ld1 r9),
 m d5 r10])
 (.seq (.ops [m d11 r0,
 .o d12 (.call 54 [r11]),
 m d6 r12])
 (.seq (.seq (.ops [m d13 r0,
 o d14 (.nilc r13),
 o d15 (.fad 2 r14),
 o d16 (.ld1 r15),
 o d17 (.bin .eq r16 (.c (pi 0))),
 m d18 r17,
 .g .h1 .h2 true d19 (.op (.mv r6)),
 .g .h1 .h2 true d20 (.op (.mv r1)),
 .g .h1 .h2 true d21 (.op (.max false [r20,(.c (pi 0))])),
 .g .h1 .h2 true d22 (.op (.bin .gt r19 r21)),
 o d23 (.pick r18 r22 (.c (.bool false)))]) c29_1) c29_2))))
def b29 : AC := c29_0
def s29 : List Rs := [.t .h0 .h4]
def c30_0 : AC := (.seq (.ops [m d2 (.c (pi 0))])
 (.seq (.ops [m d3 r0,
 .o d4 (.call 39 [r3,(.c (pi 1))]),
 o d5 (.conv (.toInt .i64) r4),
 m d2 r5])
 .ret))
def b30 : AC := c30_0
def s30 : List Rs := [.t .h0 .h2]
def c32_2 : AC := (.seq (.ops [m d2 (.c (pi 0)),
 m d3 (.c (pi 0))])
 .ret)
def c32_1 : AC := (.seq (.block 0 (.seq (.ops [m d5 r0,
 o d6 (.nilc r5),
 o d7 (.fad 2 r6),
 o d8 (.ld1 r7),
 o d9 (.bin .ne r8 (.c (pi 0))),
 m d4 r9])
 (.cond r4 (.seq (.drw [q 0 (m d10 r0),
 q 0 (o d11 (.nilc r10)),
 q 0 (o d12 (.fad 2 r11)),
 q 0 (o d13 (.ld1 r12)),
 q 0 (m d14 r0),
 q 0 (o d15 (.nilc r14)),
 q 0 (o d16 (.fad 3 r15)),
 q 0 (o d17 (.ld1 r16)),
 q 0 (m d2 r13),
 q 0 (m d3 r17)])
 .ret)
 (.seq (.drw [q 0 (m d19 r0),
 q 0 (o d20 (.nilc r19)),
 q 0 (o d21 (.fad 1 r20)),
 q 0 (o d22 (.ld1 r21)),
 q 0 (m d23 r0),
 q 0 (o d24 (.nilc r23)),
 q 0 (o d25 (.fad 0 r24)),
 q 0 (o d26 (.ld1 r25)),
 q 0 (o d27 (.len r26)),
 q 0 (o d28 (.bin .lt r22 r27)),
 q 0 (m d18 r28)])
 (.cond r18 (.seq (.drw [q 0 (m d29 r0),
 q 0 (o d30 (.nilc r29)),
 q 0 (o d31 (.fad 1 r30)),
 q 0 (o d32 (.ld1 r31)),
 q 0 (m d2 (.c (pi 11))),
 q 0 (m d3 r32)])
 .ret)
 .skip)))))
 c32_2)
def c32_0 : AC := (.seq (.ops [m d2 (.c (pi 0)),
 m d3 (.c (pi 0))])
 c32_1)
def b32 : AC := c32_0
def s32 : List Rs := [.t .h0 .h2,.t .h0 .h3]
def c33_1 : AC := (.cond r36 (.seq (.ops [m d2 (.c (.bool false))])
 .ret)
 .skip)
def c33_5 : AC := (.cond r55 (.seq (.ops [m d2 (.c (.bool false))])
 .ret)
 .skip)
def c33_4 : AC := (.seq (.ops [o d42 (.ixs 2 r38 r40),
 o d43 (.ldn 2 r42),
 o d4 (.alloc 71 2 (.k1 (.mk (.str []) (pi 0) .undef .undef .undef .undef .undef .undef .undef .undef .undef .undef .undef .undef .undef .undef))),
 o .no (.stn 2 r4 r43)])
 (.seq (.ops [o d44 (.fad 1 r4),
 o d45 (.ld1 r44),
 o d46 (.bslice 3 1 1 [(pi 0)] [.mk 0 1 r45]),
 .o d47 (.call 57 [r46]),
 o d48 (.un .not r47),
 m d49 r48,
 .g .h3 .h1 false d50 (.op (.fad 0 r4)),
 .g .h3 .h1 false d51 (.op (.ld1 r50)),
 .g .h3 .h1 false d52 (.op (.bslice 9 1 1 [(.str [])] [.mk 0 1 r51])),
 .g .h3 .h1 false d53 (.call 58 [r52]),
 .g .h3 .h1 false d54 (.op (.un .not r53)),
 o d55 (.pick r49 (.c (.bool true)) r54)]) c33_5))
def c33_6 : AC := (.ops [o d56 (.bin .add r40 (.c (pi 1))),
 m d40 r56])
def c33_3 : AC := (.seq (.ops [o d41 (.bin .lt r40 r39)])
 (.seq (.cond r41 .skip
 (.exit 0))
 (.seq (.block 1 c33_4) c33_6)))
def c33_2 : AC := (.seq (.ops [o d37 (.fad 5 r1),
 o d38 (.ld1 r37),
 o d39 (.len r38),
 m d40 (.c (pi 0))])
 (.block 0 (.loop c33_3)))
def c33_10 : AC := (.cond r74 (.seq (.ops [m d2 (.c (.bool false))])
 .ret)
 .skip)
def c33_9 : AC := (.seq (.ops [o d62 (.ixs 3 r58 r60),
 o d63 (.ldn 3 r62),
 o d6 (.alloc 75 3 (.k1 (.mk (.str []) .nils (.bool false) .undef .undef .undef .undef .undef .undef .undef .undef .undef .undef .undef .undef .undef))),
 o .no (.stn 3 r6 r63)])
 (.seq (.ops [o d64 (.fad 0 r6),
 o d65 (.ld1 r64),
 o d66 (.bslice 9 1 1 [(.str [])] [.mk 0 1 r65]),
 .o d67 (.call 58 [r66]),
 o d68 (.un .not r67),
 m d69 r68,
 .g .h4 .h5 false d70 (.op (.fad 1 r6)),
 .g .h4 .h5 false d71 (.op (.ld1 r70)),
 .g .h4 .h5 false d72 (.call 59 [r71]),
 .g .h4 .h5 false d73 (.op (.un .not r72)),
 o d74 (.pick r69 (.c (.bool true)) r73)]) c33_10))
def c33_11 : AC := (.ops [o d75 (.bin .add r60 (.c (pi 1))),
 m d60 r75])
def c33_8 : AC := (.seq (.ops [o d61 (.bin .lt r60 r59)])
 (.seq (.cond r61 .skip
 (.exit 2))
 (.seq (.block 3 c33_9) c33_11)))
def c33_7 : AC := (.seq (.ops [o d57 (.fad 6 r1),
 o d58 (.ld1 r57),
 o d59 (.len r58),
 m d60 (.c (pi 0))])
 (.block 2 (.loop c33_8)))
def c33_12 : AC := (.seq (.ops [m d2 (.c (.bool true))])
 .ret)
def c33_0 : AC := (.seq (.ops [o d1 (.box 40 r0),
 m d2 (.c (.bool false))])
 (.seq (.seq (.ops [o d7 (.fad 0 r1),
 o d8 (.ld1 r7),
 o d9 (.fad 1 r1),
 o d10 (.ld1 r9),
 o d11 (.fad 2 r1),
 o d12 (.ld1 r11),
 o d13 (.bslice 3 1 3 [(pi 0),(pi 0),(pi 0)] [.mk 0 1 r8,.mk 1 1 r10,.mk 2 1 r12]),
 .o d14 (.call 57 [r13]),
 o d15 (.un .not r14),
 m d16 r15,
 .g .h1 .h0 false d17 (.op (.fad 3 r1)),
 .g .h1 .h0 false d18 (.op (.ld1 r17)),
 .g .h1 .h0 false d19 (.op (.fad 4 r1)),
 .g .h1 .h0 false d20 (.op (.ld1 r19)),
 .g .h1 .h0 false d21 (.op (.bslice 9 1 2 [(.str []),(.str [])] [.mk 0 1 r18,.mk 1 1 r20])),
 .g .h1 .h0 false d22 (.call 58 [r21]),
 .g .h1 .h0 false d23 (.op (.un .not r22)),
 o d24 (.pick r16 (.c (.bool true)) r23),
 m d25 r24,
 .g .h1 .h9 false d26 (.op (.fad 5 r1)),
 .g .h1 .h9 false d27 (.op (.ld1 r26)),
 .g .h1 .h9 false d28 (.op (.len r27)),
 .g .h1 .h9 false d29 (.op (.bin .gt r28 (.c (pi 255)))),
 o d30 (.pick r25 (.c (.bool true)) r29),
 m d31 r30,
 .g .h1 .hf false d32 (.op (.fad 6 r1)),
 .g .h1 .hf false d33 (.op (.ld1 r32)),
 .g .h1 .hf false d34 (.op (.len r33)),
 .g .h1 .hf false d35 (.op (.bin .gt r34 (.c (pi 255)))),
 o d36 (.pick r31 (.c (.bool true)) r35)]) c33_1) (.seq c33_2 (.seq c33_7 c33_12))))
def b33 : AC := c33_0
def s33 : List Rs := [.t .h0 .h2]
def c34_0 : AC := (.seq (.ops [m d4 (.c (.bool false))])
 (.seq (.ops [m d5 r0,
 o d6 (.conv .b2s r5),
 m d7 r1,
 o d8 (.conv .b2s r7),
 o d9 (.bin .seq r6 r8),
 m d4 r9])
 .ret))
def b34 : AC := c34_0
def s34 : List Rs := [.t .h0 .h4]
def c35_1 : AC := (.cond r8 (.seq (.ops [o d23 (.build [(pi 0),(pi 0),(.str [])] []),
 m d6 (.c (pi 0)),
 o .no (.stn 3 r7 r23)])
 .ret)
 (.seq (.ops [m d25 r2,
 m d26 r0,
 m d27 r1,
 o d28 (.nilc r26),
 o d29 (.fad 0 r28),
 o d30 (.ixa 16 4 r29 r27),
 o d31 (.fad 0 r30),
 o d32 (.ld1 r31),
 o d33 (.bin .gt r25 r32),
 m d24 r33])
 (.cond r24 (.seq (.ops [o d34 (.build [(pi 0),(pi 0),(.str [])] []),
 m d6 (.c (pi 1)),
 o .no (.stn 3 r7 r34)])
 .ret)
 (.seq (.ops [m d36 r2,
 m d37 r0,
 m d38 r1,
 o d39 (.nilc r37),
 o d40 (.fad 0 r39),
 o d41 (.ixa 16 4 r40 r38),
 o d42 (.fad 0 r41),
 o d43 (.ld1 r42),
 o d44 (.bin .eq r36 r43),
 m d35 r44])
 (.cond r35 (.seq (.drw [q 0 (m d45 r0),
 q 0 (m d46 r1),
 q 0 (o d47 (.nilc r45)),
 q 0 (o d48 (.fad 0 r47)),
 q 0 (o d49 (.ixa 16 4 r48 r46)),
 q 0 (o d50 (.fad 1 r49)),
 q 0 (o d51 (.ldn 3 r50)),
 q 0 (m d6 (.c (pi 2))),
 w (o .no (.stn 3 r7 r51))])
 .ret)
 .skip)))))
def c35_2 : AC := (.seq (.ops [o d52 (.build [(pi 0),(pi 0),(.str [])] []),
 m d6 (.c (pi 3)),
 o .no (.stn 3 r7 r52)])
 .ret)
def c35_0 : AC := (.seq (.ops [m d6 (.c (pi 0)),
 o d7 (.alloc 26 3 (.k1 (.mk (pi 0) (pi 0) (.str []) .undef .undef .undef .undef .undef .undef .undef .undef .undef .undef .undef .undef .undef)))])
 (.seq (.block 0 (.seq (.ops [m d9 r1,
 o d10 (.bin .lt r9 (.c (pi 0))),
 m d11 r10,
 .g .h0 .hb false d12 (.op (.mv r1)),
 .g .h0 .hb false d13 (.op (.bin .ge r12 (.c (pi 16)))),
 o d14 (.pick r11 (.c (.bool true)) r13),
 m d15 r14,
 .g .h0 .hf false d16 (.op (.mv r2)),
 .g .h0 .hf false d17 (.op (.bin .lt r16 (.c (pi 1)))),
 o d18 (.pick r15 (.c (.bool true)) r17),
 m d19 r18,
 .g .h1 .h3 false d20 (.op (.mv r2)),
 .g .h1 .h3 false d21 (.op (.bin .gt r20 (.c (pi 1073741824)))),
 o d22 (.pick r19 (.c (.bool true)) r21),
 m d8 r22]) c35_1)) c35_2))
def b35 : AC := c35_0
def s35 : List Rs := [.t .h0 .h6,.agg 3 .h0 .h7]
def c36_4 : AC := (.seq (.ops [m d30 r5,
 o d31 (.build [(pi 0),(pi 0),(.str [])] [.mk 0 1 r30]),
 o .no (.stn 3 r4 r31)])
 .ret)
def c36_3 : AC := (.seq (.drw [q 0 (m d13 r0),
 q 0 (o d14 (.nilc r13)),
 q 0 (o d15 (.fad 0 r14)),
 q 0 (o d16 (.ld1 r15)),
 q 0 (o d17 (.fad 3 r3)),
 q 0 (o d18 (.ld1 r17)),
 q 0 (o d19 (.fad 5 r3)),
 q 0 (o d20 (.ld1 r19)),
 w (.o d21 (.call 60 [r16,r18,r20])),
 q 0 (m d5 r21)])
 (.seq (.seq (.ops [m d22 r5,
 o d23 (.bin .eq r22 (.c (pi 0)))])
 (.cond r23 (.ops [m d24 r0,
 o d25 (.fad 3 r3),
 o d26 (.ld1 r25),
 o d27 (.fad 5 r3),
 o d28 (.ld1 r27),
 .o d29 (.call 61 [r24,r26,r28])])
 .skip))
 c36_4))
def c36_6 : AC := (.cond r32 (.seq (.drw [q 0 (m d35 r0),
 q 0 (o d36 (.nilc r35)),
 q 0 (o d37 (.fad 0 r36)),
 q 0 (o d38 (.ld1 r37)),
 q 0 (o d39 (.fad 3 r3)),
 q 0 (o d40 (.ld1 r39)),
 w (.o d41 (.call 62 [r38,r40])),
 q 0 (m d34 r41),
 q 0 (o d42 (.ext 0 r34)),
 q 0 (o d43 (.ext 1 r34)),
 q 0 (m d6 r42),
 q 0 (m d7 r43)])
 (.seq (.seq (.ops [m d44 r6,
 o d45 (.bin .eq r44 (.c (pi 0)))])
 (.cond r45 (.ops [m d46 r0,
 m d47 r0,
 o d48 (.nilc r47),
 o d49 (.fad 1 r48),
 o d50 (.ld1 r49),
 o d51 (.mkf 64 [r3]),
 .o d52 (.call 63 [r50,r51]),
 o d53 (.nilc r46),
 o d54 (.fad 1 r53),
 o .no (.st1 r54 r52)])
 .skip))
 (.seq (.ops [m d55 r6,
 m d56 r7,
 o d57 (.build [(pi 0),(pi 0),(.str [])] [.mk 0 1 r55,.mk 2 1 r56]),
 o .no (.stn 3 r4 r57)])
 .ret)))
 (.seq (.ops [o d59 (.bin .eq r10 (.c (pi 3))),
 m d58 r59])
 (.cond r58 (.seq (.ops [m d60 r0,
 o d61 (.fad 3 r3),
 o d62 (.ld1 r61),
 o d63 (.fad 4 r3),
 o d64 (.ld1 r63),
 .o d65 (.call 65 [r60,r62,r64]),
 o .no (.stn 3 r4 r65)])
 .ret)
 (.seq (.ops [o d67 (.bin .eq r10 (.c (pi 4))),
 m d66 r67])
 (.cond r66 (.seq (.drw [q 0 (m d68 r0),
 q 0 (o d69 (.nilc r68)),
 q 0 (o d70 (.fad 0 r69)),
 q 0 (o d71 (.ld1 r70)),
 q 0 (o d72 (.fad 3 r3)),
 q 0 (o d73 (.ld1 r72)),
 w (.o d74 (.call 66 [r71,r73])),
 q 0 (m d8 r74)])
 (.seq (.seq (.ops [m d75 r8,
 o d76 (.bin .eq r75 (.c (pi 0)))])
 (.cond r76 (.drw [q 0 (m d77 r0),
 q 0 (o d78 (.nilc r77)),
 q 0 (o d79 (.fad 2 r78)),
 q 0 (o d80 (.ld1 r79)),
 q 0 (o d81 (.fad 3 r3)),
 q 0 (o d82 (.ld1 r81)),
 w (o .no (.del (.one .s) r80 r82))])
 .skip))
 (.seq (.ops [m d83 r8,
 o d84 (.build [(pi 0),(pi 0),(.str [])] [.mk 0 1 r83]),
 o .no (.stn 3 r4 r84)])
 .ret)))
 (.seq (.ops [o d86 (.bin .eq r10 (.c (pi 5))),
 m d85 r86])
 (.cond r85 (.seq (.ops [m d87 r0,
 o d88 (.fad 6 r3),
 o d89 (.ld1 r88),
 .o d90 (.call 67 [r87,r89]),
 o .no (.stn 3 r4 r90)])
 .ret)
 .skip)))))))
def c36_5 : AC := (.seq (.ops [o d33 (.bin .eq r10 (.c (pi 2))),
 m d32 r33])
 c36_6)
def c36_2 : AC := (.seq (.ops [o d12 (.bin .eq r10 (.c (pi 1))),
 m d11 r12])
 (.cond r11 c36_3 c36_5))
def c36_1 : AC := (.seq (.ops [o d9 (.fad 2 r3),
 o d10 (.ld1 r9)])
 (.block 0 c36_2))
def c36_7 : AC := (.seq (.ops [o d91 (.build [(pi 0),(pi 0),(.str [])] [.mk 0 1 (.c (pi 12))]),
 o .no (.stn 3 r4 r91)])
 .ret)
def c36_0 : AC := (.seq (.ops [o d3 (.box 40 r1),
 o d4 (.alloc 26 3 (.k1 (.mk (pi 0) (pi 0) (.str []) .undef .undef .undef .undef .undef .undef .undef .undef .undef .undef .undef .undef .undef)))])
 (.seq c36_1 c36_7))
def b36 : AC := c36_0
def s36 : List Rs := [.agg 3 .h0 .h4]
def c37_1 : AC := (.seq (.drw [q 0 (m d20 r0),
 q 0 (m d21 r1),
 q 0 (m d22 r2),
 q 0 (o d23 (.ldn 3 r7)),
 q 0 (o d24 (.build [(pi 0),(pi 0),(pi 0),(.str [])] [.mk 0 1 r22,.mk 1 3 r23])),
 q 0 (o d25 (.nilc r20)),
 q 0 (o d26 (.fad 0 r25)),
 q 0 (o d27 (.ixa 16 4 r26 r21)),
 w (o .no (.stn 4 r27 r24))])
 (.seq (.ops [m d8 (.c (pi 0))])
 .ret))
def c37_0 : AC := (.seq (.ops [o d7 (.box 26 r3),
 m d8 (.c (pi 0))])
 (.seq (.seq (.ops [m d12 r0,
 m d13 r1,
 m d14 r2,
 .o d15 (.call 35 [r12,r13,r14]),
 m d11 r15,
 o d16 (.ext 0 r11),
 o d17 (.ext 1 r11),
 o d10 (.alloc 26 3 (.k1 (.mk (pi 0) (pi 0) (.str []) .undef .undef .undef .undef .undef .undef .undef .undef .undef .undef .undef .undef .undef))),
 m d9 r16,
 o .no (.stn 3 r10 r17)])
 (.seq (.ops [m d18 r9,
 o d19 (.bin .ne r18 (.c (pi 1)))])
 (.cond r19 (.seq (.ops [m d8 (.c (pi 1))])
 .ret)
 .skip)))
 c37_1))
def b37 : AC := c37_0
def s37 : List Rs := [.t .h0 .h8]
def c38_0 : AC := (.seq (.ops [m d2 (.c .nils)])
 (.seq (.seq (.ops [m d3 r0,
 o d4 (.bin (.isnil .s) r3 (.c .nils))])
 (.cond r4 (.seq (.ops [m d2 (.c .nils)])
 .ret)
 .skip))
 (.seq (.ops [o d5 (.bslice 5 1 0 [] []),
 m d6 r0,
 o d7 (.app 5 1 r5 r6),
 m d2 r7])
 .ret)))
def b38 : AC := c38_0
def s38 : List Rs := [.t .h0 .h2]
def c39_2 : AC := (.seq (.seq (.ops [m d13 r7,
 o d14 (.bin .gt r13 (.c (pi 0)))])
 (.cond r14 (.seq (.ops [m d15 r7,
 o d16 (.bin .sub r15 (.c (pi 1))),
 m d7 r16])
 (.seq (.ops [m d17 r5,
 o d18 (.bin .shl r17 (.c (.int .u64 (.ofNat 8)))),
 m d19 r6,
 m d20 r7,
 o d21 (.ixs 1 r19 r20),
 o d22 (.ld1 r21),
 o d23 (.conv (.toInt .u64) r22),
 o d24 (.bin .or r18 r23),
 m d5 r24])
 (.goto 0)))
 .skip))
 (.seq (.ops [m d25 r5,
 m d4 r25])
 .ret))
def c39_1 : AC := (.seq (.ops [m d5 (.c (.int .u64 (.ofNat 0)))])
 (.seq (.ops [m d8 r0,
 m d9 r1,
 .o d10 (.call 56 [r8,r9]),
 m d6 r10])
 (.seq (.ops [m d11 r6,
 o d12 (.len r11),
 m d7 r12])
 (.seq (.label 0) c39_2))))
def c39_0 : AC := (.seq (.ops [m d4 (.c (.int .u64 (.ofNat 0)))])
 (.scope c39_1))
def b39 : AC := c39_0
def s39 : List Rs := [.t .h0 .h4]
def c40_5 : AC := (.seq (.seq (.ops [m d31 r9,
 o d32 (.bin .gt r31 (.c (pi 0)))])
 (.cond r32 .skip
 (.exit 2)))
 (.seq (.block 3 (.seq (.ops [m d35 r4,
 .o d36 (.call 29 [r35,(.c (pi 12))]),
 o d37 (.build [(.str []),(pi 0)] [.mk 0 1 r36]),
 o d10 (.alloc 71 2 (.k1 (.mk (.str []) (pi 0) .undef .undef .undef .undef .undef .undef .undef .undef .undef .undef .undef .undef .undef .undef))),
 o .no (.stn 2 r10 r37)])
 (.seq (.ops [m d38 r4,
 .o d39 (.call 30 [r38]),
 o d40 (.fad 1 r10),
 o .no (.st1 r40 r39)])
 (.ops [m d41 r8,
 o d42 (.ldn 2 r10),
 o d43 (.bslice 71 2 1 [(.str []),(pi 0)] [.mk 0 2 r42]),
 o d44 (.app 71 2 r41 r43),
 m d8 r44]))))
 (.ops [m d33 r9,
 o d34 (.bin .sub r33 (.c (pi 1))),
 m d9 r34])))
def c40_4 : AC := (.seq (.ops [m d29 r4,
 .o d30 (.call 30 [r29]),
 m d9 r30])
 (.block 2 (.loop c40_5)))
def c40_6 : AC := (.seq (.ops [m d45 r5,
 m d46 r7,
 m d47 r8,
 .o d48 (.call 60 [r45,r46,r47]),
 o d49 (.bin .ne r48 (.c (pi 0)))])
 (.cond r49 (.seq (.ops [m d2 (.c .nilp),
 m d3 (.c (pi 12))])
 .ret)
 .skip))
def c40_3 : AC := (.seq (.ops [m d27 r4,
 .o d28 (.call 29 [r27,(.c (pi 12))]),
 m d7 r28])
 (.seq (.ops [m d8 (.c .nils)])
 (.seq c40_4 c40_6)))
def c40_7 : AC := (.ops [m d25 r6,
 o d26 (.bin .sub r25 (.c (pi 1))),
 m d6 r26])
def c40_2 : AC := (.seq (.seq (.ops [m d23 r6,
 o d24 (.bin .gt r23 (.c (pi 0)))])
 (.cond r24 .skip
 (.exit 0)))
 (.seq (.block 1 c40_3) c40_7))
def c40_1 : AC := (.seq (.ops [m d21 r4,
 .o d22 (.call 30 [r21]),
 m d6 r22])
 (.block 0 (.loop c40_2)))
def c40_11 : AC := (.ops [m d54 r11,
 o d55 (.bin .sub r54 (.c (pi 1))),
 m d11 r55])
def c40_10 : AC := (.seq (.block 5 (.seq (.ops [m d56 r4,
 .o d57 (.call 29 [r56,(.c (pi 12))]),
 m d12 r57])
 (.seq (.ops [m d59 r5,
 m d60 r12,
 m d61 r4,
 .o d62 (.call 29 [r61,(.c (pi 600))]),
 .o d63 (.call 68 [r59,r60,r62]),
 m d58 r63,
 o d64 (.ext 0 r58),
 o d65 (.ext 1 r58),
 o d66 (.ext 2 r58),
 m d13 r64,
 m d14 r65,
 m d15 r66])
 (.seq (.ops [m d67 r13,
 o d68 (.bin .ne r67 (.c (pi 0)))])
 (.cond r68 (.seq (.ops [m d2 (.c .nilp),
 m d3 (.c (pi 12))])
 .ret)
 .skip)))))
 c40_11)
def c40_9 : AC := (.seq (.seq (.ops [m d52 r11,
 o d53 (.bin .gt r52 (.c (pi 0)))])
 (.cond r53 .skip
 (.exit 4)))
 c40_10)
def c40_8 : AC := (.seq (.ops [m d50 r4,
 .o d51 (.call 30 [r50]),
 m d11 r51])
 (.block 4 (.loop c40_9)))
def c40_13 : AC := (.cond r82 (.seq (.ops [m d2 (.c .nilp),
 m d3 (.c (pi 12))])
 .ret)
 .skip)
def c40_12 : AC := (.seq (.ops [m d70 r4,
 .o d71 (.call 32 [r70]),
 m d69 r71,
 o d72 (.ext 0 r69),
 o d73 (.ext 1 r69),
 m d16 r72,
 m d17 r73])
 (.seq (.ops [m d74 r16,
 o d75 (.bin .ne r74 (.c (pi 0))),
 m d76 r75,
 .g .h4 .hc false d77 (.op (.mv r5)),
 .g .h4 .hc false d78 (.call 48 [r77]),
 .g .h4 .hc false d79 (.op (.mv r0)),
 .g .h4 .hc false d80 (.call 34 [r78,r79]),
 .g .h4 .hc false d81 (.op (.un .not r80)),
 o d82 (.pick r76 (.c (.bool true)) r81)]) c40_13))
def c40_14 : AC := (.seq (.ops [m d83 r5,
 m d2 r83,
 m d3 (.c (pi 0))])
 .ret)
def c40_0 : AC := (.seq (.ops [m d2 (.c .nilp),
 m d3 (.c (pi 0))])
 (.seq (.ops [m d18 r0,
 .o d19 (.call 13 [r18]),
 m d4 r19])
 (.seq (.ops [.o d20 (.call 27 []),
 m d5 r20])
 (.seq c40_1 (.seq c40_8 (.seq c40_12 c40_14))))))
def b40 : AC := c40_0
def s40 : List Rs := [.t .h0 .h2,.t .h0 .h3]
def c41_2 : AC := (.cond r13 .skip
 (.exit 0))
def c41_3 : AC := (.seq (.block 1 (.ops [m d16 r3,
 m d17 r0,
 .o d18 (.call 30 [r17]),
 o d19 (.conv (.toInt .u8) r18),
 o d20 (.bslice 5 1 1 [(.int .u8 (.ofNat 0))] [.mk 0 1 r19]),
 o d21 (.app 5 1 r16 r20),
 m d3 r21]))
 (.ops [m d14 r4,
 o d15 (.bin .sub r14 (.c (pi 1))),
 m d4 r15]))
def c41_1 : AC := (.seq (.ops [m d5 r0,
 .o d6 (.call 14 [r5]),
 m d4 r6])
 (.block 0 (.loop (.seq (.seq (.ops [m d7 r4,
 o d8 (.bin .gt r7 (.c (pi 0))),
 m d9 r8,
 .g .h0 .h9 true d10 (.op (.mv r0)),
 .g .h0 .h9 true d11 (.call 69 [r10]),
 .g .h0 .h9 true d12 (.op (.un .not r11)),
 o d13 (.pick r9 r12 (.c (.bool false)))]) c41_2) c41_3))))
def c41_4 : AC := (.seq (.ops [m d22 r3,
 m d2 r22])
 .ret)
def c41_0 : AC := (.seq (.ops [m d2 (.c .nils)])
 (.seq (.ops [m d3 (.c .nils)])
 (.seq c41_1 c41_4)))
def b41 : AC := c41_0
def s41 : List Rs := [.t .h0 .h2]
def c42_4 : AC := (.cond r47 (.seq (.ops [m d2 (.c .nilp),
 m d3 (.c (pi 12))])
 .ret)
 .skip)
def c42_5 : AC := (.drw [q 0 (m d48 r5),
 q 0 (m d49 r6),
 q 0 (o d50 (.ldn 4 r7)),
 q 0 (o d51 (.nilc r48)),
 q 0 (o d52 (.fad 0 r51)),
 q 0 (o d53 (.ixa 16 4 r52 r49)),
 w (o .no (.stn 4 r53 r50))])
def c42_3 : AC := (.seq (.ops [m d15 r13,
 m d6 r15])
 (.seq (.ops [m d16 r4,
 .o d17 (.call 14 [r16]),
 o d18 (.build [(pi 0),(pi 0),(pi 0),(.str [])] [.mk 0 1 r17]),
 o d7 (.alloc 127 4 (.k1 (.mk (pi 0) (pi 0) (pi 0) (.str []) .undef .undef .undef .undef .undef .undef .undef .undef .undef .undef .undef .undef))),
 o .no (.stn 4 r7 r18)])
 (.seq (.ops [m d19 r4,
 .o d20 (.call 14 [r19]),
 m d21 r4,
 .o d22 (.call 14 [r21]),
 o d23 (.build [(pi 0),(pi 0),(.str [])] [.mk 0 1 r20,.mk 1 1 r22]),
 o d24 (.fad 1 r7),
 o .no (.stn 3 r24 r23)])
 (.seq (.ops [m d25 r4,
 .o d26 (.call 70 [r25]),
 o d27 (.fad 1 r7),
 o d28 (.fad 2 r27),
 o .no (.st1 r28 r26)])
 (.seq (.seq (.ops [o d29 (.fad 0 r7),
 o d30 (.ld1 r29),
 o d31 (.bin .lt r30 (.c (pi 0))),
 m d32 r31,
 .g .h2 .h0 false d33 (.op (.fad 0 r7)),
 .g .h2 .h0 false d34 (.op (.ld1 r33)),
 .g .h2 .h0 false d35 (.op (.bin .gt r34 (.c (pi 1073741824)))),
 o d36 (.pick r32 (.c (.bool true)) r35),
 m d37 r36,
 .g .h2 .h5 false d38 (.op (.fad 0 r7)),
 .g .h2 .h5 false d39 (.op (.ld1 r38)),
 .g .h2 .h5 false d40 (.op (.bin .eq r39 (.c (pi 0)))),
 .g .h2 .h5 false d41 (.op (.mv r40)),
 .g .h2 .h9 true d42 (.op (.fad 1 r7)),
 .g .h2 .h9 true d43 (.op (.ldn 3 r42)),
 .g .h2 .h9 true d44 (.op (.build [(pi 0),(pi 0),(.str [])] [])),
 .g .h2 .h9 true d45 (.op (.bin (.ane [.i,.i,.s]) r43 r44)),
 .g .h2 .h5 false d46 (.op (.pick r41 r45 (.c (.bool false)))),
 o d47 (.pick r37 (.c (.bool true)) r46)]) c42_4) c42_5)))))
def c42_6 : AC := (.ops [o d54 (.bin .add r13 (.c (pi 1))),
 m d13 r54])
def c42_2 : AC := (.seq (.ops [o d14 (.bin .lt r13 (.c (pi 16)))])
 (.seq (.cond r14 .skip
 (.exit 0))
 (.seq (.block 1 c42_3) c42_6)))
def c42_1 : AC := (.seq (.ops [m d13 (.c (pi 0))])
 (.block 0 (.loop c42_2)))
def c42_8 : AC := (.cond r68 (.seq (.ops [m d2 (.c .nilp),
 m d3 (.c (pi 12))])
 .ret)
 .skip)
def c42_7 : AC := (.seq (.ops [m d56 r4,
 .o d57 (.call 32 [r56]),
 m d55 r57,
 o d58 (.ext 0 r55),
 o d59 (.ext 1 r55),
 m d8 r58,
 m d9 r59])
 (.seq (.ops [m d60 r8,
 o d61 (.bin .ne r60 (.c (pi 0))),
 m d62 r61,
 .g .h3 .he false d63 (.op (.mv r5)),
 .g .h3 .he false d64 (.call 49 [r63]),
 .g .h3 .he false d65 (.op (.mv r0)),
 .g .h3 .he false d66 (.call 34 [r64,r65]),
 .g .h3 .he false d67 (.op (.un .not r66)),
 o d68 (.pick r62 (.c (.bool true)) r67)]) c42_8))
def c42_9 : AC := (.seq (.ops [m d69 r5,
 m d2 r69,
 m d3 (.c (pi 0))])
 .ret)
def c42_0 : AC := (.seq (.ops [m d2 (.c .nilp),
 m d3 (.c (pi 0))])
 (.seq (.ops [m d10 r0,
 .o d11 (.call 13 [r10]),
 m d4 r11])
 (.seq (.ops [.o d12 (.call 28 []),
 m d5 r12])
 (.seq c42_1 (.seq c42_7 c42_9)))))
def b42 : AC := c42_0
def s42 : List Rs := [.t .h0 .h2,.t .h0 .h3]
def c43_5 : AC := (.cond r44 (.seq (.ops [m d4 (.c (.bool false))])
 .ret)
 .skip)
def c43_4 : AC := (.seq (.ops [o d28 (.fad 2 r7),
 o d29 (.ld1 r28),
 .o d30 (.call 72 [r29]),
 m d27 r30,
 o d31 (.ext 0 r27),
 o d32 (.ext 1 r27),
 m d8 r31,
 m d9 r32])
 (.seq (.seq (.ops [m d33 r9,
 o d34 (.un .not r33),
 m d35 r34,
 .g .h2 .h3 false d36 (.op (.mv r8)),
 .g .h2 .h3 false d37 (.op (.bin .gt r36 (.c (pi 64)))),
 o d38 (.pick r35 (.c (.bool true)) r37),
 m d39 r38,
 .g .h2 .h7 false d40 (.op (.ldn 3 r7)),
 .g .h2 .h7 false d41 (.op (.bslice 114 3 1 [(.str []),.nils,.nils] [.mk 0 3 r40])),
 .g .h2 .h7 false d42 (.call 73 [r41]),
 .g .h2 .h7 false d43 (.op (.un .not r42)),
 o d44 (.pick r39 (.c (.bool true)) r43)]) c43_5) (.drw [q 0 (o d50 (.ldn 3 r7)),
 w (o d51 (.bslice 114 3 1 [(.str []),.nils,.nils] [.mk 0 3 r50])),
 q 1 (m d46 r0),
 q 1 (o d47 (.nilc r46)),
 q 1 (o d48 (.fad 1 r47)),
 q 1 (o d49 (.ld1 r48)),
 w (o d52 (.app 114 3 r49 r51)),
 q 2 (m d45 r0),
 q 0 (o d53 (.nilc r45)),
 q 0 (o d54 (.fad 1 r53)),
 w (o .no (.st1 r54 r52))])))
def c43_3 : AC := (.seq (.ops [o d18 (.ixs 2 r14 r16),
 o d19 (.ldn 2 r18),
 o d6 (.alloc 123 2 (.k1 (.mk (.str []) .nils .undef .undef .undef .undef .undef .undef .undef .undef .undef .undef .undef .undef .undef .undef))),
 o .no (.stn 2 r6 r19)])
 (.seq (.drw [q 0 (m d24 r1),
 w (.o d25 (.call 71 [r24])),
 q 1 (o d20 (.fad 0 r6)),
 q 1 (o d21 (.ld1 r20)),
 q 1 (o d22 (.fad 1 r6)),
 q 1 (o d23 (.ld1 r22)),
 q 0 (o d26 (.build [(.str []),.nils,.nils] [.mk 0 1 r21,.mk 1 1 r23,.mk 2 1 r25])),
 n (o d7 (.alloc 114 3 (.k1 (.mk (.str []) .nils .nils .undef .undef .undef .undef .undef .undef .undef .undef .undef .undef .undef .undef .undef)))),
 w (o .no (.stn 3 r7 r26))]) c43_4))
def c43_6 : AC := (.ops [o d55 (.bin .add r16 (.c (pi 1))),
 m d16 r55])
def c43_2 : AC := (.seq (.ops [o d17 (.bin .lt r16 r15)])
 (.seq (.cond r17 .skip
 (.exit 0))
 (.seq (.block 1 c43_3) c43_6)))
def c43_1 : AC := (.seq (.ops [m d10 r0,
 o d11 (.nilc r10),
 o d12 (.fad 0 r11),
 o d13 (.ld1 r12),
 .o d14 (.call 53 [r13]),
 o d15 (.len r14),
 m d16 (.c (pi 0))])
 (.block 0 (.loop c43_2)))
def c43_7 : AC := (.seq (.ops [m d4 (.c (.bool true))])
 .ret)
def c43_0 : AC := (.seq (.ops [m d4 (.c (.bool false))])
 (.seq c43_1 c43_7))
def b43 : AC := c43_0
def s43 : List Rs := [.t .h0 .h4]
def c44_4 : AC := (.ops [o d31 (.bin .add r11 (.c (pi 1))),
 m d11 r31])
def c44_3 : AC := (.seq (.block 1 (.seq (.ops [o d13 (.ixs 11 r9 r11),
 o d14 (.ldn 11 r13),
 o d5 (.alloc 103 11 (.k1 (.mk (.str []) (.str []) (pi 0) (.str []) .nils .nils .nils .nils .nils .nils .nils .undef .undef .undef .undef .undef))),
 o .no (.stn 11 r5 r14)])
 (.seq (.ops [o d16 (.fad 1 r5),
 o d17 (.ld1 r16),
 .o d18 (.call 74 [r17]),
 m d15 r18,
 o d19 (.ext 0 r15),
 o d20 (.ext 1 r15),
 o d21 (.ext 2 r15),
 o d22 (.fad 2 r5),
 o .no (.stn 8 r22 r19)])
 (.seq (.ops [o d23 (.fad 10 r5),
 o d24 (.ld1 r23),
 .o d25 (.call 75 [r24]),
 o d26 (.fad 10 r5),
 o .no (.st1 r26 r25)])
 (.ops [m d27 r3,
 o d28 (.ldn 11 r5),
 o d29 (.bslice 103 11 1 [(.str []),(.str []),(pi 0),(.str []),.nils,.nils,.nils,.nils,.nils,.nils,.nils] [.mk 0 11 r28]),
 o d30 (.app 103 11 r27 r29),
 m d3 r30])))))
 c44_4)
def c44_2 : AC := (.seq (.ops [o d12 (.bin .lt r11 r10)])
 (.seq (.cond r12 .skip
 (.exit 0))
 c44_3))
def c44_1 : AC := (.seq (.ops [m d6 r0,
 o d7 (.nilc r6),
 o d8 (.fad 1 r7),
 o d9 (.ld1 r8),
 o d10 (.len r9),
 m d11 (.c (pi 0))])
 (.block 0 (.loop c44_2)))
def c44_5 : AC := (.seq (.ops [m d32 r3,
 m d2 r32])
 .ret)
def c44_0 : AC := (.seq (.ops [m d2 (.c .nils)])
 (.seq (.ops [m d3 (.c .nils)])
 (.seq c44_1 c44_5)))
def b44 : AC := c44_0
def s44 : List Rs := [.t .h0 .h2]
def c46_1 : AC := (.seq (.seq (.ops [m d8 r6,
 o d9 (.bin .eq r8 (.c (pi 0)))])
 (.cond r9 .ret
 .skip))
 (.seq (.ops [m d10 r0,
 m d11 r0,
 o d12 (.nilc r11),
 o d13 (.fad 0 r12),
 o d14 (.ld1 r13),
 m d15 r1,
 o d16 (.conv (.toInt .u8) r15),
 o d17 (.bslice 5 1 1 [(.int .u8 (.ofNat 0))] [.mk 0 1 r16]),
 o d18 (.app 5 1 r14 r17),
 o d19 (.nilc r10),
 o d20 (.fad 0 r19),
 o .no (.st1 r20 r18)])
 (.seq (.ops [m d21 r1,
 o d22 (.bin .shr r21 (.c (.int .u64 (.ofNat 8)))),
 m d1 r22])
 (.seq (.ops [m d23 r6,
 o d24 (.bin .sub r23 (.c (pi 1))),
 m d6 r24])
 (.goto 0)))))
def c46_0 : AC := (.seq (.ops [m d7 r2,
 m d6 r7])
 (.seq (.label 0) c46_1))
def b46 : AC := (.scope c46_0)
def s46 : List Rs := []
def c47_1 : AC := (.seq (.ops [o d13 (.bin .lt r12 r11)])
 (.seq (.cond r13 .skip
 (.exit 0))
 (.seq (.block 1 (.seq (.ops [o d14 (.ixs 1 r10 r12),
 o d15 (.ld1 r14),
 m d5 r15])
 (.ops [m d16 r0,
 m d17 r5,
 o d18 (.conv (.toInt .i64) r17),
 .o d19 (.call 52 [r16,r18])])))
 (.ops [o d20 (.bin .add r12 (.c (pi 1))),
 m d12 r20]))))
def c47_0 : AC := (.seq (.ops [m d6 r0,
 m d7 r1,
 o d8 (.len r7),
 .o d9 (.call 17 [r6,r8])])
 (.seq (.ops [m d10 r1,
 o d11 (.len r10),
 m d12 (.c (pi 0))])
 (.block 0 (.loop c47_1))))
def b47 : AC := c47_0
def s47 : List Rs := []
def c48_4 : AC := (.seq (.ops [o d40 (.bin .lt r39 r38)])
 (.seq (.cond r40 .skip
 (.exit 2))
 (.seq (.block 3 (.seq (.ops [o d41 (.ixs 2 r37 r39),
 o d42 (.ldn 2 r41),
 o d7 (.alloc 71 2 (.k1 (.mk (.str []) (pi 0) .undef .undef .undef .undef .undef .undef .undef .undef .undef .undef .undef .undef .undef .undef))),
 o .no (.stn 2 r7 r42)])
 (.seq (.ops [m d43 r3,
 o d44 (.fad 0 r7),
 o d45 (.ld1 r44),
 .o d46 (.call 51 [r43,r45])])
 (.ops [m d47 r3,
 o d48 (.fad 1 r7),
 o d49 (.ld1 r48),
 .o d50 (.call 52 [r47,r49])]))))
 (.ops [o d51 (.bin .add r39 (.c (pi 1))),
 m d39 r51]))))
def c48_3 : AC := (.seq (.ops [o d25 (.ixs 2 r21 r23),
 o d26 (.ldn 2 r25),
 o d5 (.alloc 123 2 (.k1 (.mk (.str []) .nils .undef .undef .undef .undef .undef .undef .undef .undef .undef .undef .undef .undef .undef .undef))),
 o .no (.stn 2 r5 r26)])
 (.seq (.ops [m d27 r3,
 o d28 (.fad 0 r5),
 o d29 (.ld1 r28),
 .o d30 (.call 51 [r27,r29])])
 (.seq (.ops [m d31 r3,
 o d32 (.fad 1 r5),
 o d33 (.ld1 r32),
 o d34 (.len r33),
 .o d35 (.call 52 [r31,r34])])
 (.seq (.ops [o d36 (.fad 1 r5),
 o d37 (.ld1 r36),
 o d38 (.len r37),
 m d39 (.c (pi 0))])
 (.block 2 (.loop c48_4))))))
def c48_5 : AC := (.ops [o d52 (.bin .add r23 (.c (pi 1))),
 m d23 r52])
def c48_2 : AC := (.seq (.ops [o d24 (.bin .lt r23 r22)])
 (.seq (.cond r24 .skip
 (.exit 0))
 (.seq (.block 1 c48_3) c48_5)))
def c48_1 : AC := (.seq (.ops [m d18 r0,
 o d19 (.nilc r18),
 o d20 (.fad 0 r19),
 o d21 (.ld1 r20),
 o d22 (.len r21),
 m d23 (.c (pi 0))])
 (.block 0 (.loop c48_2)))
def c48_8 : AC := (.seq (.ops [o d66 (.bin .lt r65 r64)])
 (.seq (.cond r66 .skip
 (.exit 4))
 (.seq (.block 5 (.seq (.ops [o d67 (.ixs 11 r63 r65),
 o d68 (.ldn 11 r67),
 o d9 (.alloc 103 11 (.k1 (.mk (.str []) (.str []) (pi 0) (.str []) .nils .nils .nils .nils .nils .nils .nils .undef .undef .undef .undef .undef))),
 o .no (.stn 11 r9 r68)])
 (.seq (.ops [m d69 r3,
 o d70 (.fad 0 r9),
 o d71 (.ld1 r70),
 .o d72 (.call 51 [r69,r71])])
 (.ops [m d73 r3,
 o d74 (.fad 1 r9),
 o d75 (.ld1 r74),
 .o d76 (.call 51 [r73,r75])]))))
 (.ops [o d77 (.bin .add r65 (.c (pi 1))),
 m d65 r77]))))
def c48_7 : AC := (.seq (.ops [m d60 r0,
 o d61 (.nilc r60),
 o d62 (.fad 1 r61),
 o d63 (.ld1 r62),
 o d64 (.len r63),
 m d65 (.c (pi 0))])
 (.block 4 (.loop c48_8)))
def c48_9 : AC := (.seq (.ops [m d78 r3,
 .o d79 (.call 18 [r78]),
 m d2 r79])
 .ret)
def c48_6 : AC := (.seq (.ops [m d53 r3,
 m d54 r0,
 o d55 (.nilc r54),
 o d56 (.fad 1 r55),
 o d57 (.ld1 r56),
 o d58 (.len r57),
 .o d59 (.call 52 [r53,r58])])
 (.seq c48_7 c48_9))
def c48_0 : AC := (.seq (.ops [m d2 (.c .nils)])
 (.seq (.ops [.o d10 (.call 16 []),
 m d3 r10])
 (.seq (.ops [m d11 r3,
 m d12 r0,
 o d13 (.nilc r12),
 o d14 (.fad 0 r13),
 o d15 (.ld1 r14),
 o d16 (.len r15),
 .o d17 (.call 52 [r11,r16])])
 (.seq c48_1 c48_6))))
def b48 : AC := c48_0
def s48 : List Rs := [.t .h0 .h2]
def c49_4 : AC := (.ops [o d33 (.bin .add r11 (.c (pi 1))),
 m d11 r33])
def c49_3 : AC := (.seq (.block 1 (.seq (.ops [o d13 (.idxa 16 4 true r10 r11),
 o d5 (.alloc 127 4 (.k1 (.mk (pi 0) (pi 0) (pi 0) (.str []) .undef .undef .undef .undef .undef .undef .undef .undef .undef .undef .undef .undef))),
 o .no (.stn 4 r5 r13)])
 (.seq (.ops [m d14 r3,
 o d15 (.fad 0 r5),
 o d16 (.ld1 r15),
 .o d17 (.call 17 [r14,r16])])
 (.seq (.ops [m d18 r3,
 o d19 (.fad 1 r5),
 o d20 (.fad 0 r19),
 o d21 (.ld1 r20),
 .o d22 (.call 17 [r18,r21])])
 (.seq (.ops [m d23 r3,
 o d24 (.fad 1 r5),
 o d25 (.fad 1 r24),
 o d26 (.ld1 r25),
 .o d27 (.call 17 [r23,r26])])
 (.ops [m d28 r3,
 o d29 (.fad 1 r5),
 o d30 (.fad 2 r29),
 o d31 (.ld1 r30),
 .o d32 (.call 78 [r28,r31])]))))))
 c49_4)
def c49_2 : AC := (.seq (.ops [o d12 (.bin .lt r11 (.c (pi 16)))])
 (.seq (.cond r12 .skip
 (.exit 0))
 c49_3))
def c49_1 : AC := (.seq (.ops [m d7 r0,
 o d8 (.nilc r7),
 o d9 (.fad 0 r8),
 o d10 (.ldn 64 r9),
 m d11 (.c (pi 0))])
 (.block 0 (.loop c49_2)))
def c49_5 : AC := (.seq (.ops [m d34 r3,
 .o d35 (.call 18 [r34]),
 m d2 r35])
 .ret)
def c49_0 : AC := (.seq (.ops [m d2 (.c .nils)])
 (.seq (.ops [.o d6 (.call 16 []),
 m d3 r6])
 (.seq c49_1 c49_5)))
def b49 : AC := c49_0
def s49 : List Rs := [.t .h0 .h2]
def c50_1 : AC := (.seq (.ops [o d14 (.bin .lt r13 r12)])
 (.seq (.cond r14 .skip
 (.exit 0))
 (.seq (.block 1 (.seq (.ops [o d15 (.ixs 2 r11 r13),
 o d16 (.ldn 2 r15),
 o d5 (.alloc 165 2 (.k1 (.mk .nils (.cplx .f64 0 0) .undef .undef .undef .undef .undef .undef .undef .undef .undef .undef .undef .undef .undef .undef))),
 o .no (.stn 2 r5 r16)])
 (.seq (.ops [o d17 (.ldn 2 r5),
 o d18 (.bslice 165 2 1 [.nils,(.cplx .f64 0 0)] [.mk 0 2 r17]),
 .o d19 (.call 79 [r18]),
 m d6 r19])
 (.ops [m d20 r0,
 m d21 r6,
 o d22 (.conv .b2s r21),
 .o d23 (.call 51 [r20,r22])]))))
 (.ops [o d24 (.bin .add r13 (.c (pi 1))),
 m d13 r24]))))
def c50_0 : AC := (.seq (.ops [m d7 r0,
 m d8 r1,
 o d9 (.len r8),
 .o d10 (.call 17 [r7,r9])])
 (.seq (.ops [m d11 r1,
 o d12 (.len r11),
 m d13 (.c (pi 0))])
 (.block 0 (.loop c50_1))))
def b50 : AC := c50_0
def s50 : List Rs := []
def c51_0 : AC := (.seq (.ops [m d4 r0,
 m d5 r1,
 o d6 (.lent r5),
 .o d7 (.call 80 [r4,r6])])
 (.ops [m d8 r0,
 m d9 r0,
 o d10 (.nilc r9),
 o d11 (.fad 0 r10),
 o d12 (.ld1 r11),
 m d13 r1,
 o d14 (.apps 5 r12 r13),
 o d15 (.nilc r8),
 o d16 (.fad 0 r15),
 o .no (.st1 r16 r14)]))
def b51 : AC := c51_0
def s51 : List Rs := []
def c52_0 : AC := (.ops [m d4 r0,
 m d5 r1,
 o d6 (.conv (.toInt .u64) r5),
 .o d7 (.call 46 [r4,r6,(.c (pi 1))])])
def b52 : AC := c52_0
def s52 : List Rs := []
def c53_3 : AC := (.seq (.ops [o d13 (.ixs 2 r9 r11),
 o d14 (.ldn 2 r13),
 o d5 (.alloc 123 2 (.k1 (.mk (.str []) .nils .undef .undef .undef .undef .undef .undef .undef .undef .undef .undef .undef .undef .undef .undef))),
 o .no (.stn 2 r5 r14)])
 (.drw [q 0 (o d18 (.fad 1 r5)),
 q 0 (o d19 (.ld1 r18)),
 w (.o d20 (.call 75 [r19])),
 q 1 (o d16 (.fad 0 r5)),
 q 1 (o d17 (.ld1 r16)),
 q 0 (o d21 (.build [(.str []),.nils] [.mk 0 1 r17,.mk 1 1 r20])),
 w (o d22 (.bslice 123 2 1 [(.str []),.nils] [.mk 0 2 r21])),
 q 2 (m d15 r3),
 w (o d23 (.app 123 2 r15 r22)),
 q 0 (m d3 r23)]))
def c53_4 : AC := (.ops [o d24 (.bin .add r11 (.c (pi 1))),
 m d11 r24])
def c53_2 : AC := (.seq (.ops [o d12 (.bin .lt r11 r10)])
 (.seq (.cond r12 .skip
 (.exit 0))
 (.seq (.block 1 c53_3) c53_4)))
def c53_1 : AC := (.seq (.ops [m d6 r0,
 o d7 (.nilc r6),
 o d8 (.fad 0 r7),
 o d9 (.ld1 r8),
 o d10 (.len r9),
 m d11 (.c (pi 0))])
 (.block 0 (.loop c53_2)))
def c53_5 : AC := (.seq (.ops [m d25 r3,
 m d2 r25])
 .ret)
def c53_0 : AC := (.seq (.ops [m d2 (.c .nils)])
 (.seq (.ops [m d3 (.c .nils)])
 (.seq c53_1 c53_5)))
def b53 : AC := c53_0
def s53 : List Rs := [.t .h0 .h2]
def c54_0 : AC := (.seq (.ops [m d2 (.c (pi 0))])
 (.seq (.ops [m d3 r0,
 .o d4 (.call 39 [r3,(.c (pi 2))]),
 o d5 (.conv (.toInt .i64) r4),
 m d2 r5])
 .ret))
def b54 : AC := c54_0
def s54 : List Rs := [.t .h0 .h2]
def c55_0 : AC := (.seq (.ops [m d6 r0,
 o d7 (.nilc r6),
 o d8 (.fad 2 r7),
 o d9 (.ld1 r8),
 o d10 (.bin .eq r9 (.c (pi 0)))])
 (.cond r10 (.ops [m d11 r0,
 m d12 r0,
 m d13 r1,
 m d14 r2,
 o d15 (.nilc r11),
 o d16 (.fad 2 r15),
 o .no (.st1 r16 r13),
 o d17 (.nilc r12),
 o d18 (.fad 3 r17),
 o .no (.st1 r18 r14)])
 .skip))
def b55 : AC := c55_0
def s55 : List Rs := []
def c56_3 : AC := (.seq (.drw [q 0 (m d37 r0),
 q 0 (o d38 (.nilc r37)),
 q 0 (o d39 (.fad 0 r38)),
 q 0 (o d40 (.ld1 r39)),
 q 0 (m d41 r0),
 q 0 (o d42 (.nilc r41)),
 q 0 (o d43 (.fad 1 r42)),
 q 0 (o d44 (.ld1 r43)),
 q 0 (m d45 r1),
 q 0 (o d46 (.bin .sub r44 r45)),
 q 0 (m d47 r0),
 q 0 (o d48 (.nilc r47)),
 q 0 (o d49 (.fad 1 r48)),
 q 0 (o d50 (.ld1 r49)),
 q 0 (o d51 (.slc 1 r40 (.some r46) (.some r50) .none)),
 q 0 (m d4 r51)])
 .ret)
def c56_2 : AC := (.seq (.ops [m d29 r0,
 o d30 (.nilc r29),
 o d31 (.fad 1 r30),
 o d32 (.ld1 r31),
 m d33 r1,
 o d34 (.bin .add r32 r33),
 o d35 (.nilc r29),
 o d36 (.fad 1 r35),
 o .no (.st1 r36 r34)])
 c56_3)
def c56_1 : AC := (.seq (.seq (.drw [q 0 (m d10 r1),
 q 0 (m d11 r0),
 q 0 (o d12 (.nilc r11)),
 q 0 (o d13 (.fad 0 r12)),
 q 0 (o d14 (.ld1 r13)),
 q 0 (o d15 (.len r14)),
 q 0 (m d16 r0),
 q 0 (o d17 (.nilc r16)),
 q 0 (o d18 (.fad 1 r17)),
 q 0 (o d19 (.ld1 r18)),
 q 0 (o d20 (.bin .sub r15 r19)),
 q 0 (o d21 (.bin .gt r10 r20))])
 (.cond r21 (.seq (.ops [m d22 r0,
 m d23 r0,
 o d24 (.nilc r23),
 o d25 (.fad 0 r24),
 o d26 (.ld1 r25),
 o d27 (.len r26),
 .o d28 (.call 55 [r22,(.c (pi 10)),r27])])
 (.seq (.ops [m d4 (.c .nils)])
 .ret))
 .skip))
 c56_2)
def c56_0 : AC := (.seq (.ops [m d4 (.c .nils)])
 (.seq (.seq (.ops [m d5 r0,
 o d6 (.nilc r5),
 o d7 (.fad 2 r6),
 o d8 (.ld1 r7),
 o d9 (.bin .ne r8 (.c (pi 0)))])
 (.cond r9 (.seq (.ops [m d4 (.c .nils)])
 .ret)
 .skip))
 c56_1))
def b56 : AC := c56_0
def s56 : List Rs := [.t .h0 .h4]
def c57_3 : AC := (.ops [o d17 (.bin .add r7 (.c (pi 1))),
 m d7 r17])
def c57_2 : AC := (.seq (.ops [o d8 (.bin .lt r7 r6)])
 (.seq (.cond r8 .skip
 (.exit 0))
 (.seq (.block 1 (.seq (.ops [o d9 (.ixs 1 r5 r7),
 o d10 (.ld1 r9),
 m d4 r10])
 (.seq (.ops [m d11 r4,
 o d12 (.bin .lt r11 (.c (ni 2147483647))),
 m d13 r12,
 .g .h0 .hd false d14 (.op (.mv r4)),
 .g .h0 .hd false d15 (.op (.bin .gt r14 (.c (pi 2147483647)))),
 o d16 (.pick r13 (.c (.bool true)) r15)])
 (.cond r16 (.seq (.ops [m d2 (.c (.bool false))])
 .ret)
 .skip))))
 c57_3)))
def c57_1 : AC := (.seq (.ops [m d5 r0,
 o d6 (.len r5),
 m d7 (.c (pi 0))])
 (.block 0 (.loop c57_2)))
def c57_4 : AC := (.seq (.ops [m d2 (.c (.bool true))])
 .ret)
def c57_0 : AC := (.seq (.ops [m d2 (.c (.bool false))])
 (.seq c57_1 c57_4))
def b57 : AC := c57_0
def s57 : List Rs := [.t .h0 .h2]
def c58_2 : AC := (.seq (.ops [o d8 (.bin .lt r7 r6)])
 (.seq (.cond r8 .skip
 (.exit 0))
 (.seq (.block 1 (.seq (.ops [o d9 (.ixs 1 r5 r7),
 o d10 (.ld1 r9),
 m d4 r10])
 (.seq (.ops [m d11 r4,
 o d12 (.lent r11),
 o d13 (.bin .gt r12 (.c (pi 65535)))])
 (.cond r13 (.seq (.ops [m d2 (.c (.bool false))])
 .ret)
 .skip))))
 (.ops [o d14 (.bin .add r7 (.c (pi 1))),
 m d7 r14]))))
def c58_1 : AC := (.seq (.ops [m d5 r0,
 o d6 (.len r5),
 m d7 (.c (pi 0))])
 (.block 0 (.loop c58_2)))
def c58_3 : AC := (.seq (.ops [m d2 (.c (.bool true))])
 .ret)
def c58_0 : AC := (.seq (.ops [m d2 (.c (.bool false))])
 (.seq c58_1 c58_3))
def b58 : AC := c58_0
def s58 : List Rs := [.t .h0 .h2]
def c60_1 : AC := (.cond r24 (.ops [m d7 (.c (pi 13))])
 .skip)
def c60_3 : AC := (.seq (.ops [m d41 r0,
 o d42 (.nilc r41),
 o d43 (.fad 0 r42),
 o d44 (.ld1 r43),
 .o d45 (.call 83 [r44,(.c (.fn 84 []))])])
 (.seq (.ops [m d6 (.c (pi 0))])
 .ret))
def c60_2 : AC := (.seq (.seq (.ops [m d25 r7,
 o d26 (.bin .ne r25 (.c (pi 0)))])
 (.cond r26 (.seq (.ops [m d27 r7,
 m d6 r27])
 .ret)
 .skip))
 (.seq (.drw [q 0 (m d34 r2),
 w (.o d35 (.call 75 [r34])),
 q 1 (m d33 r1),
 q 0 (o d36 (.build [(.str []),.nils] [.mk 0 1 r33,.mk 1 1 r35])),
 w (o d37 (.bslice 123 2 1 [(.str []),.nils] [.mk 0 2 r36])),
 q 2 (m d29 r0),
 q 2 (o d30 (.nilc r29)),
 q 2 (o d31 (.fad 0 r30)),
 q 2 (o d32 (.ld1 r31)),
 w (o d38 (.app 123 2 r32 r37)),
 q 3 (m d28 r0),
 q 0 (o d39 (.nilc r28)),
 q 0 (o d40 (.fad 0 r39)),
 w (o .no (.st1 r40 r38))]) c60_3))
def c60_0 : AC := (.seq (.ops [m d6 (.c (pi 0))])
 (.seq (.ops [m d8 r0,
 m d9 r1,
 .o d10 (.call 81 [r8,r9]),
 m d7 r10])
 (.seq (.seq (.ops [m d11 r7,
 o d12 (.bin .eq r11 (.c (pi 0)))])
 (.cond r12 (.ops [m d13 r2,
 .o d14 (.call 82 [r13]),
 m d7 r14])
 .skip))
 (.seq (.seq (.ops [m d15 r7,
 o d16 (.bin .eq r15 (.c (pi 0))),
 m d17 r16,
 .g .h1 .h1 true d18 (.op (.mv r0)),
 .g .h1 .h1 true d19 (.op (.nilc r18)),
 .g .h1 .h1 true d20 (.op (.fad 0 r19)),
 .g .h1 .h1 true d21 (.op (.ld1 r20)),
 .g .h1 .h1 true d22 (.op (.len r21)),
 .g .h1 .h1 true d23 (.op (.bin .ge r22 (.c (pi 6)))),
 o d24 (.pick r17 r23 (.c (.bool false)))]) c60_1) c60_2))))
def b60 : AC := c60_0
def s60 : List Rs := [.t .h0 .h6]
def c61_0 : AC := (.seq (.ops [o d4 (.box 9 r1)])
 (.seq (.ops [m d7 r0,
 o d8 (.nilc r7),
 o d9 (.fad 1 r8),
 o d10 (.ld1 r9),
 o d11 (.mkf 87 [r4]),
 .o d12 (.call 86 [r10,r11]),
 m d6 r12])
 (.seq (.seq (.ops [m d13 r6,
 o d14 (.bin .lt r13 (.c (pi 0)))])
 (.cond r14 (.ops [m d15 r0,
 o d16 (.nilc r15),
 o d17 (.fad 1 r16),
 o d18 (.ld1 r17),
 o d19 (.len r18),
 m d6 r19])
 .skip))
 (.drw [q 0 (m d27 r2),
 w (.o d28 (.call 75 [r27])),
 q 1 (o d26 (.ld1 r4)),
 q 0 (o d29 (.build [(.str []),.nils,.nils] [.mk 0 1 r26,.mk 1 1 r28])),
 w (o d30 (.bslice 114 3 1 [(.str []),.nils,.nils] [.mk 0 3 r29])),
 q 2 (m d21 r0),
 q 2 (o d22 (.nilc r21)),
 q 2 (o d23 (.fad 1 r22)),
 q 2 (o d24 (.ld1 r23)),
 q 2 (m d25 r6),
 w (.o d31 (.call 88 [r24,r25,r30])),
 q 3 (m d20 r0),
 q 0 (o d32 (.nilc r20)),
 q 0 (o d33 (.fad 1 r32)),
 w (o .no (.st1 r33 r31))]))))
def b61 : AC := c61_0
def s61 : List Rs := []
def c69_0 : AC := (.seq (.ops [m d2 (.c (.bool false))])
 (.seq (.ops [m d3 r0,
 o d4 (.nilc r3),
 o d5 (.fad 2 r4),
 o d6 (.ld1 r5),
 o d7 (.bin .ne r6 (.c (pi 0))),
 m d2 r7])
 .ret))
def b69 : AC := c69_0
def s69 : List Rs := [.t .h0 .h2]
def c70_2 : AC := (.cond r16 .skip
 (.exit 0))
def c70_3 : AC := (.block 1 (.seq (.ops [m d17 r0,
 .o d18 (.call 29 [r17,(.c (pi 65535))]),
 m d5 r18])
 (.seq (.seq (.ops [m d19 r5,
 o d20 (.bin .seq r19 (.c (.str [])))])
 (.cond r20 (.ops [m d21 r0,
 .o d22 (.call 105 [r21,(.c (pi 12))])])
 .skip))
 (.ops [m d23 r3,
 m d24 r5,
 o d25 (.apps 5 r23 r24),
 m d3 r25]))))
def c70_1 : AC := (.seq (.ops [m d6 r0,
 .o d7 (.call 14 [r6]),
 m d4 r7])
 (.block 0 (.loop (.seq (.seq (.ops [m d8 r3,
 o d9 (.len r8),
 m d10 r4,
 o d11 (.bin .lt r9 r10),
 m d12 r11,
 .g .h0 .hc true d13 (.op (.mv r0)),
 .g .h0 .hc true d14 (.call 69 [r13]),
 .g .h0 .hc true d15 (.op (.un .not r14)),
 o d16 (.pick r12 r15 (.c (.bool false)))]) c70_2) c70_3))))
def c70_4 : AC := (.seq (.ops [m d26 r3,
 o d27 (.conv .b2s r26),
 m d2 r27])
 .ret)
def c70_0 : AC := (.seq (.ops [m d2 (.c (.str []))])
 (.seq (.ops [m d3 (.c .nils)])
 (.seq c70_1 c70_4)))
def b70 : AC := c70_0
def s70 : List Rs := [.t .h0 .h2]
def c71_2 : AC := (.cond r15 .skip
 (.exit 0))
def c71_4 : AC := (.cond r31 (.seq (.ops [m d32 r0,
 .o d33 (.call 105 [r32,(.c (pi 12))])])
 (.seq (.ops [m d2 (.c .nils)])
 .ret))
 .skip)
def c71_5 : AC := (.ops [m d34 r3,
 m d35 r5,
 o d36 (.app 165 2 r34 r35),
 m d3 r36])
def c71_3 : AC := (.seq (.ops [m d19 r0,
 .o d20 (.call 29 [r19,(.c (pi 65536))]),
 o d21 (.conv (.s2b 5) r20),
 .o d22 (.call 106 [r21]),
 m d18 r22,
 o d23 (.ext 0 r18),
 o d24 (.ext 1 r18),
 m d5 r23,
 m d6 r24])
 (.seq (.seq (.ops [m d25 r6,
 o d26 (.bin .ne r25 (.c (pi 0))),
 m d27 r26,
 .g .h1 .hb false d28 (.op (.mv r5)),
 .g .h1 .hb false d29 (.op (.len r28)),
 .g .h1 .hb false d30 (.op (.bin .ne r29 (.c (pi 1)))),
 o d31 (.pick r27 (.c (.bool true)) r30)]) c71_4) c71_5))
def c71_6 : AC := (.ops [m d16 r4,
 o d17 (.bin .sub r16 (.c (pi 1))),
 m d4 r17])
def c71_1 : AC := (.seq (.ops [m d7 r0,
 .o d8 (.call 14 [r7]),
 m d4 r8])
 (.block 0 (.loop (.seq (.seq (.ops [m d9 r4,
 o d10 (.bin .gt r9 (.c (pi 0))),
 m d11 r10,
 .g .h0 .hb true d12 (.op (.mv r0)),
 .g .h0 .hb true d13 (.call 69 [r12]),
 .g .h0 .hb true d14 (.op (.un .not r13)),
 o d15 (.pick r11 r14 (.c (.bool false)))]) c71_2) (.seq (.block 1 c71_3) c71_6)))))
def c71_7 : AC := (.seq (.ops [m d37 r3,
 m d2 r37])
 .ret)
def c71_0 : AC := (.seq (.ops [m d2 (.c .nils)])
 (.seq (.ops [m d3 (.c .nils)])
 (.seq c71_1 c71_7)))
def b71 : AC := c71_0
def s71 : List Rs := [.t .h0 .h2]
def c72_4 : AC := (.ops [o d27 (.bin .add r12 (.c (pi 1))),
 m d12 r27])
def c72_3 : AC := (.seq (.block 1 (.seq (.ops [o d14 (.ixs 2 r10 r12),
 o d15 (.ldn 2 r14),
 o d6 (.alloc 165 2 (.k1 (.mk .nils (.cplx .f64 0 0) .undef .undef .undef .undef .undef .undef .undef .undef .undef .undef .undef .undef .undef .undef))),
 o .no (.stn 2 r6 r15)])
 (.seq (.ops [m d16 r4,
 o d17 (.fad 1 r6),
 o d18 (.ld1 r17),
 .o d19 (.call 108 [r18]),
 o d20 (.bin .add r16 r19),
 m d4 r20])
 (.seq (.ops [m d21 r4,
 o d22 (.bin .gt r21 (.c (pi 1125899906842624))),
 m d23 r22,
 .g .h1 .h7 false d24 (.op (.mv r4)),
 .g .h1 .h7 false d25 (.op (.bin .lt r24 (.c (ni 1125899906842623)))),
 o d26 (.pick r23 (.c (.bool true)) r25)])
 (.cond r26 (.seq (.ops [m d2 (.c (pi 0)),
 m d3 (.c (.bool false))])
 .ret)
 .skip)))))
 c72_4)
def c72_2 : AC := (.seq (.ops [o d13 (.bin .lt r12 r11)])
 (.seq (.cond r13 .skip
 (.exit 0))
 c72_3))
def c72_1 : AC := (.seq (.ops [m d10 r0,
 o d11 (.len r10),
 m d12 (.c (pi 0))])
 (.block 0 (.loop c72_2)))
def c72_5 : AC := (.seq (.ops [m d28 r4,
 m d2 r28,
 m d3 (.c (.bool true))])
 .ret)
def c72_0 : AC := (.seq (.ops [m d2 (.c (pi 0)),
 m d3 (.c (.bool false))])
 (.seq (.seq (.ops [m d7 r0,
 .o d8 (.call 107 [r7]),
 o d9 (.un .not r8)])
 (.cond r9 (.seq (.ops [m d2 (.c (pi 0)),
 m d3 (.c (.bool false))])
 .ret)
 .skip))
 (.seq (.ops [m d4 (.c (pi 0))])
 (.seq c72_1 c72_5))))
def b72 : AC := c72_0
def s72 : List Rs := [.t .h0 .h2,.t .h0 .h3]
def c73_4 : AC := (.cond r24 (.seq (.ops [m d2 (.c (.bool false))])
 .ret)
 .skip)
def c73_3 : AC := (.seq (.ops [o d13 (.ixs 3 r9 r11),
 o d14 (.ldn 3 r13),
 o d4 (.alloc 114 3 (.k1 (.mk (.str []) .nils .nils .undef .undef .undef .undef .undef .undef .undef .undef .undef .undef .undef .undef .undef))),
 o .no (.stn 3 r4 r14)])
 (.seq (.ops [o d15 (.fad 2 r4),
 o d16 (.ld1 r15),
 .o d17 (.call 111 [r16]),
 o d18 (.un .not r17),
 m d19 r18,
 .g .h1 .h3 false d20 (.op (.fad 2 r4)),
 .g .h1 .h3 false d21 (.op (.ld1 r20)),
 .g .h1 .h3 false d22 (.op (.mkf 113 [r4])),
 .g .h1 .h3 false d23 (.call 112 [r21,r22]),
 o d24 (.pick r19 (.c (.bool true)) r23)]) c73_4))
def c73_5 : AC := (.ops [o d25 (.bin .add r11 (.c (pi 1))),
 m d11 r25])
def c73_2 : AC := (.seq (.ops [o d12 (.bin .lt r11 r10)])
 (.seq (.cond r12 .skip
 (.exit 0))
 (.seq (.block 1 c73_3) c73_5)))
def c73_1 : AC := (.seq (.ops [m d9 r0,
 o d10 (.len r9),
 m d11 (.c (pi 0))])
 (.block 0 (.loop c73_2)))
def c73_6 : AC := (.seq (.ops [m d2 (.c (.bool true))])
 .ret)
def c73_0 : AC := (.seq (.ops [m d2 (.c (.bool false))])
 (.seq (.seq (.ops [m d5 r0,
 .o d6 (.call 110 [r5]),
 .o d7 (.call 109 [r6]),
 o d8 (.bin .ne r7 (.c (pi 0)))])
 (.cond r8 (.seq (.ops [m d2 (.c (.bool false))])
 .ret)
 .skip))
 (.seq c73_1 c73_6)))
def b73 : AC := c73_0
def s73 : List Rs := [.t .h0 .h2]
def c75_0 : AC := (.seq (.ops [m d2 (.c .nils)])
 (.seq (.seq (.ops [m d3 r0,
 o d4 (.bin (.isnil .s) r3 (.c .nils))])
 (.cond r4 (.seq (.ops [m d2 (.c .nils)])
 .ret)
 .skip))
 (.seq (.ops [o d5 (.bslice 71 2 0 [] []),
 m d6 r0,
 o d7 (.app 71 2 r5 r6),
 m d2 r7])
 .ret)))
def b75 : AC := c75_0
def s75 : List Rs := [.t .h0 .h2]
def c78_1 : AC := (.seq (.seq (.ops [m d9 r1,
 o d10 (.lent r9),
 o d11 (.bin .gt r10 (.c (pi 0)))])
 (.cond r11 .skip
 (.exit 0)))
 (.block 1 (.seq (.ops [m d12 r1,
 o d13 (.lent r12),
 o d14 (.max true [r13,(.c (pi 65535))]),
 m d4 r14])
 (.seq (.ops [m d15 r0,
 m d16 r1,
 m d17 r4,
 o d18 (.slcs r16 .none (.some r17)),
 .o d19 (.call 51 [r15,r18])])
 (.ops [m d20 r1,
 m d21 r4,
 o d22 (.slcs r20 (.some r21) .none),
 m d1 r22])))))
def c78_0 : AC := (.seq (.ops [m d5 r0,
 m d6 r1,
 o d7 (.lent r6),
 .o d8 (.call 17 [r5,r7])])
 (.block 0 (.loop c78_1)))
def b78 : AC := c78_0
def s78 : List Rs := []
def c80_0 : AC := (.ops [m d4 r0,
 m d5 r1,
 o d6 (.conv (.toInt .u64) r5),
 .o d7 (.call 46 [r4,r6,(.c (pi 2))])])
def b80 : AC := c80_0
def s80 : List Rs := []
def c81_2 : AC := (.seq (.ops [m d4 (.c (pi 20))])
 .ret)
def c81_3 : AC := (.cond r9 (.seq (.ops [m d4 (.c (pi 21))])
 .ret)
 .skip)
def c81_1 : AC := (.seq (.ops [m d6 r1,
 .o d7 (.call 126 [r6]),
 o d8 (.un .not r7),
 m d5 r8])
 (.cond r5 c81_2 (.seq (.ops [m d10 r0,
 m d11 r1,
 .o d12 (.call 89 [r10,r11]),
 o d13 (.bin .ge r12 (.c (pi 0))),
 m d14 r13,
 .g .h0 .he false d15 (.op (.mv r0)),
 .g .h0 .he false d16 (.op (.mv r1)),
 .g .h0 .he false d17 (.call 93 [r15,r16]),
 .g .h0 .he false d18 (.op (.bin .ge r17 (.c (pi 0)))),
 o d19 (.pick r14 (.c (.bool true)) r18),
 m d9 r19]) c81_3)))
def c81_4 : AC := (.seq (.ops [m d4 (.c (pi 0))])
 .ret)
def c81_0 : AC := (.seq (.ops [m d4 (.c (pi 0))])
 (.seq (.block 0 c81_1) c81_4))
def b81 : AC := c81_0
def s81 : List Rs := [.t .h0 .h4]
def c82_1 : AC := (.cond r14 (.seq (.ops [m d2 (.c (pi 23))])
 .ret)
 .skip)
def c82_5 : AC := (.cond r35 (.seq (.ops [m d2 (.c (pi 20))])
 .ret)
 .skip)
def c82_6 : AC := (.seq (.drw [q 0 (m d37 r0),
 q 0 (m d38 r3),
 q 0 (o d39 (.slc 2 r37 .none (.some r38) .none)),
 q 0 (o d40 (.fad 0 r4)),
 q 0 (o d41 (.ld1 r40)),
 w (.o d42 (.call 127 [r39,r41])),
 q 0 (m d36 r42),
 q 0 (o d43 (.ext 0 r36)),
 q 0 (o d44 (.ext 1 r36)),
 q 0 (m d5 r43),
 q 0 (m d6 r44)])
 (.seq (.ops [m d45 r6])
 (.cond r45 (.seq (.ops [m d2 (.c (pi 21))])
 .ret)
 .skip)))
def c82_4 : AC := (.seq (.ops [m d19 r17,
 o d20 (.ixs 2 r15 r17),
 o d21 (.ldn 2 r20),
 o d4 (.alloc 71 2 (.k1 (.mk (.str []) (pi 0) .undef .undef .undef .undef .undef .undef .undef .undef .undef .undef .undef .undef .undef .undef))),
 m d3 r19,
 o .no (.stn 2 r4 r21)])
 (.seq (.seq (.ops [o d22 (.fad 0 r4),
 o d23 (.ld1 r22),
 .o d24 (.call 126 [r23]),
 o d25 (.un .not r24),
 m d26 r25,
 .g .h1 .ha false d27 (.op (.fad 1 r4)),
 .g .h1 .ha false d28 (.op (.ld1 r27)),
 .g .h1 .ha false d29 (.op (.bin .ne r28 (.c (pi 1)))),
 .g .h1 .ha false d30 (.op (.mv r29)),
 .g .h1 .he true d31 (.op (.fad 1 r4)),
 .g .h1 .he true d32 (.op (.ld1 r31)),
 .g .h1 .he true d33 (.op (.bin .ne r32 (.c (pi 2)))),
 .g .h1 .ha false d34 (.op (.pick r30 r33 (.c (.bool false)))),
 o d35 (.pick r26 (.c (.bool true)) r34)]) c82_5) c82_6))
def c82_7 : AC := (.ops [o d46 (.bin .add r17 (.c (pi 1))),
 m d17 r46])
def c82_3 : AC := (.seq (.ops [o d18 (.bin .lt r17 r16)])
 (.seq (.cond r18 .skip
 (.exit 0))
 (.seq (.block 1 c82_4) c82_7)))
def c82_2 : AC := (.seq (.ops [m d15 r0,
 o d16 (.len r15),
 m d17 (.c (pi 0))])
 (.block 0 (.loop c82_3)))
def c82_8 : AC := (.seq (.ops [m d2 (.c (pi 0))])
 .ret)
def c82_0 : AC := (.seq (.ops [m d2 (.c (pi 0))])
 (.seq (.seq (.ops [m d7 r0,
 o d8 (.len r7),
 o d9 (.bin .eq r8 (.c (pi 0))),
 m d10 r9,
 .g .h0 .ha false d11 (.op (.mv r0)),
 .g .h0 .ha false d12 (.op (.len r11)),
 .g .h0 .ha false d13 (.op (.bin .gt r12 (.c (pi 6)))),
 o d14 (.pick r10 (.c (.bool true)) r13)]) c82_1) (.seq c82_2 c82_8)))
def b82 : AC := c82_0
def s82 : List Rs := [.t .h0 .h2]
def c83_0 : AC := (.seq (.ops [m d5 r0,
 o d6 (.len r5),
 m d4 r6])
 (.ops [m d7 r0,
 m d8 r4,
 m d9 r4,
 o d10 (.conv (.toInt .u64) r9),
 .o d11 (.call 129 [r10]),
 m d12 r1,
 .o d13 (.call 128 [r7,(.c (pi 0)),r8,r11,r12])]))
def b83 : AC := c83_0
def s83 : List Rs := []
def c86_2 : AC := (.seq (.ops [o d9 (.bin .lt r8 r7)])
 (.seq (.cond r9 .skip
 (.exit 0))
 (.seq (.block 1 (.seq (.ops [m d10 r8,
 m d5 r10])
 (.seq (.ops [m d11 r1,
 m d12 r0,
 m d13 r5,
 o d14 (.ixs 3 r12 r13),
 o d15 (.ldn 3 r14),
 .o d16 (.calld r11 [r15])])
 (.cond r16 (.seq (.ops [m d17 r5,
 m d4 r17])
 .ret)
 .skip))))
 (.ops [o d18 (.bin .add r8 (.c (pi 1))),
 m d8 r18]))))
def c86_1 : AC := (.seq (.ops [m d6 r0,
 o d7 (.len r6),
 m d8 (.c (pi 0))])
 (.block 0 (.loop c86_2)))
def c86_3 : AC := (.seq (.ops [m d4 (.c (ni 0))])
 .ret)
def c86_0 : AC := (.seq (.ops [m d4 (.c (pi 0))])
 (.seq c86_1 c86_3))
def b86 : AC := c86_0
def s86 : List Rs := [.t .h0 .h4]
def c88_3 : AC := (.seq (.ops [m d41 r9,
 m d42 r1,
 o d43 (.slc 3 r41 (.some r42) .none .none),
 m d44 r2,
 o d45 (.cpy 3 r43 r44)])
 (.seq (.drw [q 0 (m d46 r9),
 q 0 (m d47 r1),
 q 0 (m d48 r7),
 q 0 (o d49 (.bin .add r47 r48)),
 q 0 (o d50 (.slc 3 r46 (.some r49) .none .none)),
 q 0 (m d51 r0),
 q 0 (m d52 r1),
 q 0 (o d53 (.slc 3 r51 (.some r52) .none .none)),
 w (o d54 (.cpy 3 r50 r53))])
 (.seq (.ops [m d55 r9,
 m d6 r55])
 .ret)))
def c88_2 : AC := (.seq (.ops [m d26 r8,
 m d27 r7,
 o d28 (.bin .add r26 r27),
 m d29 r0,
 o d30 (.cap r29),
 o d31 (.bin .gt r28 r30)])
 (.cond r31 (.seq (.ops [m d32 r0,
 m d33 r1,
 o d34 (.slc 3 r32 .none (.some r33) .none),
 m d35 r8,
 m d36 r7,
 o d37 (.bin .add r35 r36),
 m d38 r1,
 o d39 (.bin .sub r37 r38),
 o .no (.bad 400),
 m d9 r40]) c88_3) .skip))
def c88_6 : AC := (.seq (.ops [m d84 r0,
 m d85 r8,
 o d86 (.slc 3 r84 (.some r85) .none .none),
 m d87 r2,
 o d88 (.cpy 3 r86 r87)])
 (.seq (.ops [m d89 r0,
 m d90 r1,
 o d91 (.slc 3 r89 (.some r90) .none .none),
 m d92 r7,
 .o d93 (.call 132 [r91,r92])])
 (.seq (.ops [m d94 r0,
 m d6 r94])
 .ret)))
def c88_5 : AC := (.seq (.seq (.ops [m d61 r2,
 m d62 r0,
 m d63 r1,
 m d64 r7,
 o d65 (.bin .add r63 r64),
 o d66 (.slc 3 r62 (.some r65) .none .none),
 .o d67 (.call 131 [r61,r66]),
 o d68 (.un .not r67)])
 (.cond r68 (.seq (.drw [q 0 (m d69 r0),
 q 0 (m d70 r1),
 q 0 (m d71 r7),
 q 0 (o d72 (.bin .add r70 r71)),
 q 0 (o d73 (.slc 3 r69 (.some r72) .none .none)),
 q 0 (m d74 r0),
 q 0 (m d75 r1),
 q 0 (o d76 (.slc 3 r74 (.some r75) .none .none)),
 w (o d77 (.cpy 3 r73 r76))])
 (.seq (.ops [m d78 r0,
 m d79 r1,
 o d80 (.slc 3 r78 (.some r79) .none .none),
 m d81 r2,
 o d82 (.cpy 3 r80 r81)])
 (.seq (.ops [m d83 r0,
 m d6 r83])
 .ret)))
 .skip))
 c88_6)
def c88_4 : AC := (.seq (.ops [m d56 r0,
 m d57 r8,
 m d58 r7,
 o d59 (.bin .add r57 r58),
 o d60 (.slc 3 r56 .none (.some r59) .none),
 m d0 r60])
 c88_5)
def c88_1 : AC := (.seq (.seq (.ops [m d20 r1,
 m d21 r8,
 o d22 (.bin .eq r20 r21)])
 (.cond r22 (.seq (.ops [m d23 r0,
 m d24 r2,
 o d25 (.app 114 3 r23 r24),
 m d6 r25])
 .ret)
 .skip))
 (.seq c88_2 c88_4))
def c88_0 : AC := (.seq (.ops [m d6 (.c .nils)])
 (.seq (.ops [m d10 r0,
 m d11 r1,
 o d12 (.slc 3 r10 (.some r11) .none .none)])
 (.seq (.ops [m d13 r2,
 o d14 (.len r13),
 m d7 r14])
 (.seq (.seq (.ops [m d15 r7,
 o d16 (.bin .eq r15 (.c (pi 0)))])
 (.cond r16 (.seq (.ops [m d17 r0,
 m d6 r17])
 .ret)
 .skip))
 (.seq (.ops [m d18 r0,
 o d19 (.len r18),
 m d8 r19])
 c88_1)))))
def b88 : AC := c88_0
def s88 : List Rs := [.t .h0 .h6]
def c89_0 : AC := (.seq (.ops [o d3 (.box 9 r1),
 m d4 (.c (pi 0))])
 (.seq (.ops [m d5 r0,
 o d6 (.nilc r5),
 o d7 (.fad 0 r6),
 o d8 (.ld1 r7),
 o d9 (.mkf 134 [r3]),
 .o d10 (.call 133 [r8,r9]),
 m d4 r10])
 .ret))
def b89 : AC := c89_0
def s89 : List Rs := [.t .h0 .h4]
def c93_0 : AC := (.seq (.ops [o d3 (.box 9 r1),
 m d4 (.c (pi 0))])
 (.seq (.ops [m d5 r0,
 o d6 (.nilc r5),
 o d7 (.fad 1 r6),
 o d8 (.ld1 r7),
 o d9 (.mkf 138 [r3]),
 .o d10 (.call 137 [r8,r9]),
 m d4 r10])
 .ret))
def b93 : AC := c93_0
def s93 : List Rs := [.t .h0 .h4]
def c107_4 : AC := (.cond r50 (.seq (.ops [m d2 (.c (.bool false))])
 .ret)
 .skip)
def c107_3 : AC := (.seq (.ops [m d9 r7,
 o d10 (.ixs 2 r5 r7),
 o d11 (.ldn 2 r10),
 o d4 (.alloc 165 2 (.k1 (.mk .nils (.cplx .f64 0 0) .undef .undef .undef .undef .undef .undef .undef .undef .undef .undef .undef .undef .undef .undef))),
 m d3 r9,
 o .no (.stn 2 r4 r11)])
 (.seq (.drw [q 0 (o d12 (.fad 0 r4)),
 q 0 (o d13 (.ld1 r12)),
 w (.o d14 (.call 154 [r13])),
 q 0 (o d15 (.un .not r14)),
 q 0 (m d16 r15),
 q 0 (.g .h1 .h0 false d17 (.op (.fad 1 r4))),
 q 0 (.g .h1 .h0 false d18 (.op (.ld1 r17))),
 w (.g .h1 .h0 false d19 (.call 155 [r18])),
 q 0 (.g .h1 .h0 false d20 (.op (.un .not r19))),
 q 0 (o d21 (.pick r16 (.c (.bool true)) r20)),
 q 0 (m d22 r21),
 q 0 (.g .h1 .h6 false d23 (.op (.fad 1 r4))),
 q 0 (.g .h1 .h6 false d24 (.op (.ld1 r23))),
 w (o .no (.bad 400)),
 q 0 (o d26 (.pick r22 (.c (.bool true)) r25)),
 q 0 (m d27 r26),
 q 0 (.g .h1 .hb false d28 (.op (.fad 1 r4))),
 q 0 (.g .h1 .hb false d29 (.op (.ld1 r28))),
 w (.g .h1 .hb false d30 (.call 156 [r29])),
 q 1 (.g .h1 .hb false d31 (.op (.fad 1 r4))),
 q 1 (.g .h1 .hb false d32 (.op (.ld1 r31))),
 w (o .no (.bad 400)),
 q 0 (o d34 (.pick r27 (.c (.bool true)) r33)),
 q 0 (m d35 r34),
 q 0 (.g .h2 .h3 false d36 (.op (.mv r3))),
 q 0 (.g .h2 .h3 false d37 (.op (.bin .gt r36 (.c (pi 0))))),
 q 0 (.g .h2 .h3 false d38 (.op (.mv r37))),
 q 0 (.g .h2 .h6 true d39 (.op (.mv r0))),
 q 0 (.g .h2 .h6 true d40 (.op (.mv r3))),
 q 0 (.g .h2 .h6 true d41 (.op (.bin .sub r40 (.c (pi 1))))),
 q 0 (.g .h2 .h6 true d42 (.op (.ixs 2 r39 r41))),
 q 0 (.g .h2 .h6 true d43 (.op (.fad 0 r42))),
 q 0 (.g .h2 .h6 true d44 (.op (.ld1 r43))),
 q 0 (.g .h2 .h6 true d45 (.op (.fad 0 r4))),
 q 0 (.g .h2 .h6 true d46 (.op (.ld1 r45))),
 w (.g .h2 .h6 true d47 (.call 157 [r44,r46])),
 q 0 (.g .h2 .h6 true d48 (.op (.un .not r47))),
 q 0 (.g .h2 .h3 false d49 (.op (.pick r38 r48 (.c (.bool false))))),
 q 0 (o d50 (.pick r35 (.c (.bool true)) r49))]) c107_4))
def c107_5 : AC := (.ops [o d51 (.bin .add r7 (.c (pi 1))),
 m d7 r51])
def c107_2 : AC := (.seq (.ops [o d8 (.bin .lt r7 r6)])
 (.seq (.cond r8 .skip
 (.exit 0))
 (.seq (.block 1 c107_3) c107_5)))
def c107_1 : AC := (.seq (.ops [m d5 r0,
 o d6 (.len r5),
 m d7 (.c (pi 0))])
 (.block 0 (.loop c107_2)))
def c107_6 : AC := (.seq (.ops [m d2 (.c (.bool true))])
 .ret)
def c107_0 : AC := (.seq (.ops [m d2 (.c (.bool false))])
 (.seq c107_1 c107_6))
def b107 : AC := c107_0
def s107 : List Rs := [.t .h0 .h2]
def c109_4 : AC := (.ops [o d28 (.bin .add r8 (.c (pi 1))),
 m d8 r28])
def c109_3 : AC := (.seq (.block 1 (.seq (.ops [m d10 r8,
 o d11 (.ixs 2 r6 r8),
 o d12 (.ldn 2 r11),
 o d4 (.alloc 123 2 (.k1 (.mk (.str []) .nils .undef .undef .undef .undef .undef .undef .undef .undef .undef .undef .undef .undef .undef .undef))),
 m d3 r10,
 o .no (.stn 2 r4 r12)])
 (.seq (.seq (.ops [o d13 (.fad 0 r4),
 o d14 (.ld1 r13),
 .o d15 (.call 126 [r14]),
 o d16 (.un .not r15)])
 (.cond r16 (.seq (.ops [m d2 (.c (pi 20))])
 .ret)
 .skip))
 (.seq (.seq (.ops [m d17 r0,
 m d18 r3,
 o d19 (.slc 2 r17 .none (.some r18) .none),
 o d20 (.mkf 160 [r4]),
 .o d21 (.call 159 [r19,r20])])
 (.cond r21 (.seq (.ops [m d2 (.c (pi 21))])
 .ret)
 .skip))
 (.seq (.ops [o d22 (.fad 1 r4),
 o d23 (.ld1 r22),
 .o d24 (.call 82 [r23]),
 m d5 r24])
 (.seq (.ops [m d25 r5,
 o d26 (.bin .ne r25 (.c (pi 0)))])
 (.cond r26 (.seq (.ops [m d27 r5,
 m d2 r27])
 .ret)
 .skip)))))))
 c109_4)
def c109_2 : AC := (.seq (.ops [o d9 (.bin .lt r8 r7)])
 (.seq (.cond r9 .skip
 (.exit 0))
 c109_3))
def c109_1 : AC := (.seq (.ops [m d6 r0,
 o d7 (.len r6),
 m d8 (.c (pi 0))])
 (.block 0 (.loop c109_2)))
def c109_5 : AC := (.seq (.ops [m d2 (.c (pi 0))])
 .ret)
def c109_0 : AC := (.seq (.ops [m d2 (.c (pi 0))])
 (.seq c109_1 c109_5))
def b109 : AC := c109_0
def s109 : List Rs := [.t .h0 .h2]
def c110_3 : AC := (.seq (.ops [o d10 (.ixs 3 r6 r8),
 o d11 (.ldn 3 r10),
 o d5 (.alloc 114 3 (.k1 (.mk (.str []) .nils .nils .undef .undef .undef .undef .undef .undef .undef .undef .undef .undef .undef .undef .undef))),
 o .no (.stn 3 r5 r11)])
 (.drw [q 0 (o d15 (.fad 1 r5)),
 q 0 (o d16 (.ld1 r15)),
 w (.o d17 (.call 75 [r16])),
 q 1 (o d13 (.fad 0 r5)),
 q 1 (o d14 (.ld1 r13)),
 q 0 (o d18 (.build [(.str []),.nils] [.mk 0 1 r14,.mk 1 1 r17])),
 w (o d19 (.bslice 123 2 1 [(.str []),.nils] [.mk 0 2 r18])),
 q 2 (m d12 r3),
 w (o d20 (.app 123 2 r12 r19)),
 q 0 (m d3 r20)]))
def c110_4 : AC := (.ops [o d21 (.bin .add r8 (.c (pi 1))),
 m d8 r21])
def c110_2 : AC := (.seq (.ops [o d9 (.bin .lt r8 r7)])
 (.seq (.cond r9 .skip
 (.exit 0))
 (.seq (.block 1 c110_3) c110_4)))
def c110_1 : AC := (.seq (.ops [m d6 r0,
 o d7 (.len r6),
 m d8 (.c (pi 0))])
 (.block 0 (.loop c110_2)))
def c110_5 : AC := (.seq (.ops [m d22 r3,
 m d2 r22])
 .ret)
def c110_0 : AC := (.seq (.ops [m d2 (.c .nils)])
 (.seq (.ops [m d3 (.c .nils)])
 (.seq c110_1 c110_5)))
def b110 : AC := c110_0
def s110 : List Rs := [.t .h0 .h2]
def c111_0 : AC := (.seq (.ops [m d2 (.c (.bool false))])
 (.seq (.ops [m d3 r0,
 .o d4 (.call 107 [r3]),
 m d5 r4,
 .g .h0 .h5 true d6 (.op (.mv r0)),
 .g .h0 .h5 true d7 (.call 112 [r6,(.c (.fn 161 []))]),
 .g .h0 .h5 true d8 (.op (.un .not r7)),
 o d9 (.pick r5 r8 (.c (.bool false))),
 m d2 r9]) .ret))
def b111 : AC := c111_0
def s111 : List Rs := [.t .h0 .h2]
def c112_0 : AC := (.seq (.ops [m d4 (.c (.bool false))])
 (.seq (.ops [m d5 r0,
 m d6 r1,
 .o d7 (.call 162 [r5,r6]),
 o d8 (.bin .ge r7 (.c (pi 0))),
 m d4 r8])
 .ret))
def b112 : AC := c112_0
def s112 : List Rs := [.t .h0 .h4]
def c126_1 : AC := (.cond r14 (.seq (.ops [m d2 (.c (.bool false))])
 .ret)
 .skip)
def c126_5 : AC := (.cond r29 (.seq (.ops [m d2 (.c (.bool false))])
 .ret)
 .skip)
def c126_4 : AC := (.seq (.ops [m d19 r17,
 m d3 r19])
 (.seq (.ops [m d20 r0,
 m d21 r3,
 o d22 (.idxs r20 r21),
 o d23 (.bin .lt r22 (.c (.int .u8 (.ofNat 97)))),
 m d24 r23,
 .g .h1 .h8 false d25 (.op (.mv r0)),
 .g .h1 .h8 false d26 (.op (.mv r3)),
 .g .h1 .h8 false d27 (.op (.idxs r25 r26)),
 .g .h1 .h8 false d28 (.op (.bin .gt r27 (.c (.int .u8 (.ofNat 122))))),
 o d29 (.pick r24 (.c (.bool true)) r28)]) c126_5))
def c126_6 : AC := (.ops [o d30 (.bin .add r17 (.c (pi 1))),
 m d17 r30])
def c126_3 : AC := (.seq (.ops [o d18 (.bin .lt r17 r16)])
 (.seq (.cond r18 .skip
 (.exit 0))
 (.seq (.block 1 c126_4) c126_6)))
def c126_2 : AC := (.seq (.ops [m d15 r0,
 o d16 (.lent r15),
 m d17 (.c (pi 0))])
 (.block 0 (.loop c126_3)))
def c126_7 : AC := (.seq (.ops [m d2 (.c (.bool true))])
 .ret)
def c126_0 : AC := (.seq (.ops [m d2 (.c (.bool false))])
 (.seq (.seq (.ops [m d4 r0,
 o d5 (.bin .seq r4 (.c (.str []))),
 m d6 r5,
 .g .h0 .h6 false d7 (.op (.mv r0)),
 .g .h0 .h6 false d8 (.op (.lent r7)),
 .g .h0 .h6 false d9 (.op (.bin .gt r8 (.c (pi 12)))),
 o d10 (.pick r6 (.c (.bool true)) r9),
 m d11 r10,
 .g .h0 .hb false d12 (.op (.mv r0)),
 .g .h0 .hb false d13 (.call 198 [r12]),
 o d14 (.pick r11 (.c (.bool true)) r13)]) c126_1) (.seq c126_2 c126_7)))
def b126 : AC := c126_0
def s126 : List Rs := [.t .h0 .h2]
def c127_0 : AC := (.seq (.ops [o d3 (.box 9 r1),
 m d4 (.c (pi 0)),
 m d5 (.c (.bool false))])
 (.seq (.ops [m d7 r0,
 o d8 (.mkf 200 [r3]),
 .o d9 (.call 199 [r7,r8]),
 m d6 r9])
 (.seq (.ops [m d10 r6,
 o d11 (.max false [r10,(.c (pi 0))]),
 m d12 r6,
 o d13 (.bin .ge r12 (.c (pi 0))),
 m d4 r11,
 m d5 r13])
 .ret)))
def b127 : AC := c127_0
def s127 : List Rs := [.t .h0 .h4,.t .h0 .h5]
def c128_5 : AC := (.cond r75 (.seq (.ops [m d76 r0,
 m d77 r1,
 m d78 r2,
 m d79 r4,
 .o d80 (.call 206 [r76,r77,r78,r79])])
 (.cond r80 .ret
 .skip))
 .skip)
def c128_6 : AC := (.cond r97 (.seq (.ops [m d98 r0,
 m d99 r1,
 m d100 r2,
 m d101 r13,
 m d102 r4,
 .o d103 (.call 207 [r98,r99,r100,r101,r102]),
 m d15 r103])
 (.seq (.ops [m d104 r15,
 m d1 r104])
 (.exit 1)))
 .skip)
def c128_9 : AC := (.cond r125 (.seq (.ops [m d126 r18,
 m d127 r20,
 o d128 (.bin .ge r126 r127),
 m d10 r128])
 (.seq (.ops [m d129 r0,
 m d130 r1,
 m d131 r16,
 m d132 r3,
 m d133 r4,
 .o d134 (.call 128 [r129,r130,r131,r132,r133])])
 (.ops [m d135 r16,
 o d136 (.bin .add r135 (.c (pi 1))),
 m d1 r136])))
 (.seq (.ops [m d137 r19,
 m d138 r20,
 o d139 (.bin .ge r137 r138),
 m d10 r139])
 (.seq (.ops [m d140 r0,
 m d141 r16,
 o d142 (.bin .add r141 (.c (pi 1))),
 m d143 r2,
 m d144 r3,
 m d145 r4,
 .o d146 (.call 128 [r140,r142,r143,r144,r145])])
 (.ops [m d147 r16,
 m d2 r147]))))
def c128_8 : AC := (.seq (.ops [m d123 r18,
 m d124 r19,
 o d125 (.bin .lt r123 r124)])
 c128_9)
def c128_7 : AC := (.seq (.ops [m d106 r0,
 m d107 r1,
 m d108 r2,
 m d109 r13,
 m d110 r4,
 .o d111 (.call 208 [r106,r107,r108,r109,r110]),
 m d105 r111,
 o d112 (.ext 0 r105),
 o d113 (.ext 1 r105),
 m d16 r112,
 m d17 r113])
 (.seq (.ops [m d114 r17,
 m d11 r114])
 (.seq (.ops [m d115 r16,
 m d116 r1,
 o d117 (.bin .sub r115 r116),
 m d118 r2,
 m d119 r16,
 o d120 (.bin .sub r118 r119),
 m d18 r117,
 m d19 r120])
 (.seq (.ops [m d121 r12,
 o d122 (.bin .quo r121 (.c (pi 8))),
 m d20 r122])
 c128_8))))
def c128_4 : AC := (.seq (.seq (.ops [m d55 r14,
 o d56 (.bin .eq r55 (.c (pi 2)))])
 (.cond r56 (.seq (.ops [m d57 r0,
 m d58 r1,
 m d59 r2,
 m d60 r4,
 .o d61 (.call 205 [r57,r58,r59,r60])])
 (.seq (.ops [m d62 r2,
 o d63 (.bin .sub r62 (.c (pi 1))),
 m d64 r13,
 m d65 r1,
 o d66 (.bin .sub r64 r65),
 o d67 (.bin .sub r63 r66),
 m d13 r67])
 (.ops [m d14 (.c (pi 1))])))
 .skip))
 (.seq (.seq (.ops [m d68 r10,
 m d69 r68,
 .g .h4 .h5 true d70 (.op (.mv r11)),
 o d71 (.pick r69 r70 (.c (.bool false))),
 m d72 r71,
 .g .h4 .h8 true d73 (.op (.mv r14)),
 .g .h4 .h8 true d74 (.op (.bin .eq r73 (.c (pi 1)))),
 o d75 (.pick r72 r74 (.c (.bool false)))]) c128_5) (.seq (.seq (.drw [q 0 (m d81 r1),
 q 0 (o d82 (.bin .gt r81 (.c (pi 0)))),
 q 0 (m d83 r82),
 q 0 (.g .h5 .h3 true d84 (.op (.mv r4))),
 q 0 (.g .h5 .h3 true d85 (.op (.mv r0))),
 q 0 (.g .h5 .h3 true d86 (.op (.mv r1))),
 q 0 (.g .h5 .h3 true d87 (.op (.bin .sub r86 (.c (pi 1))))),
 q 0 (.g .h5 .h3 true d88 (.op (.ixs 2 r85 r87))),
 q 0 (.g .h5 .h3 true d89 (.op (.ldn 2 r88))),
 q 0 (.g .h5 .h3 true d90 (.op (.mv r0))),
 q 0 (.g .h5 .h3 true d91 (.op (.mv r13))),
 q 0 (.g .h5 .h3 true d92 (.op (.ixs 2 r90 r91))),
 q 0 (.g .h5 .h3 true d93 (.op (.ldn 2 r92))),
 w (.g .h5 .h3 true d94 (.calld r84 [r89,r93])),
 q 0 (.g .h5 .h3 true d95 (.op (.bin .lt r94 (.c (pi 0))))),
 q 0 (.g .h5 .h3 true d96 (.op (.un .not r95))),
 q 0 (o d97 (.pick r83 r96 (.c (.bool false))))]) c128_6) c128_7)))
def c128_3 : AC := (.seq (.ops [m d48 r0,
 m d49 r1,
 m d50 r2,
 m d51 r4,
 .o d52 (.call 204 [r48,r49,r50,r51]),
 m d47 r52,
 o d53 (.ext 0 r47),
 o d54 (.ext 1 r47),
 m d13 r53,
 m d14 r54])
 c128_4)
def c128_2 : AC := (.seq (.seq (.ops [m d38 r10,
 o d39 (.un .not r38)])
 (.cond r39 (.seq (.ops [m d40 r0,
 m d41 r1,
 m d42 r2,
 m d43 r4,
 .o d44 (.call 203 [r40,r41,r42,r43])])
 (.ops [m d45 r3,
 o d46 (.bin .sub r45 (.c (pi 1))),
 m d3 r46]))
 .skip))
 c128_3)
def c128_1 : AC := (.seq (.ops [m d21 r2,
 m d22 r1,
 o d23 (.bin .sub r21 r22),
 m d12 r23])
 (.seq (.seq (.ops [m d24 r12,
 o d25 (.bin .le r24 (.c (pi 12)))])
 (.cond r25 (.seq (.ops [m d26 r0,
 m d27 r1,
 m d28 r2,
 m d29 r4,
 .o d30 (.call 201 [r26,r27,r28,r29])])
 .ret)
 .skip))
 (.seq (.seq (.ops [m d31 r3,
 o d32 (.bin .eq r31 (.c (pi 0)))])
 (.cond r32 (.seq (.ops [m d33 r0,
 m d34 r1,
 m d35 r2,
 m d36 r4,
 .o d37 (.call 202 [r33,r34,r35,r36])])
 .ret)
 .skip))
 c128_2)))
def c128_0 : AC := (.seq (.ops [m d10 (.c (.bool true))])
 (.seq (.ops [m d11 (.c (.bool true))])
 (.block 0 (.loop (.block 1 c128_1)))))
def b128 : AC := c128_0
def s128 : List Rs := []
def c129_0 : AC := (.seq (.ops [m d2 (.c (pi 0))])
 (.seq (.cond (.c (.bool false)) (.seq (.ops [m d3 r0,
 o d4 (.conv (.toInt .u32) r3),
 .o d5 (.call 209 [r4]),
 m d2 r5])
 .ret)
 .skip)
 (.seq (.ops [m d6 r0,
 .o d7 (.call 210 [r6]),
 m d2 r7])
 .ret)))
def b129 : AC := c129_0
def s129 : List Rs := [.t .h0 .h2]
def c133_2 : AC := (.seq (.ops [o d9 (.bin .lt r8 r7)])
 (.seq (.cond r9 .skip
 (.exit 0))
 (.seq (.block 1 (.seq (.ops [m d10 r8,
 m d5 r10])
 (.seq (.ops [m d11 r1,
 m d12 r0,
 m d13 r5,
 o d14 (.ixs 2 r12 r13),
 o d15 (.ldn 2 r14),
 .o d16 (.calld r11 [r15])])
 (.cond r16 (.seq (.ops [m d17 r5,
 m d4 r17])
 .ret)
 .skip))))
 (.ops [o d18 (.bin .add r8 (.c (pi 1))),
 m d8 r18]))))
def c133_1 : AC := (.seq (.ops [m d6 r0,
 o d7 (.len r6),
 m d8 (.c (pi 0))])
 (.block 0 (.loop c133_2)))
def c133_3 : AC := (.seq (.ops [m d4 (.c (ni 0))])
 .ret)
def c133_0 : AC := (.seq (.ops [m d4 (.c (pi 0))])
 (.seq c133_1 c133_3))
def b133 : AC := c133_0
def s133 : List Rs := [.t .h0 .h4]
def c137_2 : AC := (.seq (.ops [o d9 (.bin .lt r8 r7)])
 (.seq (.cond r9 .skip
 (.exit 0))
 (.seq (.block 1 (.seq (.ops [m d10 r8,
 m d5 r10])
 (.seq (.ops [m d11 r1,
 m d12 r0,
 m d13 r5,
 o d14 (.ixs 11 r12 r13),
 o d15 (.ldn 11 r14),
 .o d16 (.calld r11 [r15])])
 (.cond r16 (.seq (.ops [m d17 r5,
 m d4 r17])
 .ret)
 .skip))))
 (.ops [o d18 (.bin .add r8 (.c (pi 1))),
 m d8 r18]))))
def c137_1 : AC := (.seq (.ops [m d6 r0,
 o d7 (.len r6),
 m d8 (.c (pi 0))])
 (.block 0 (.loop c137_2)))
def c137_3 : AC := (.seq (.ops [m d4 (.c (ni 0))])
 .ret)
def c137_0 : AC := (.seq (.ops [m d4 (.c (pi 0))])
 (.seq c137_1 c137_3))
def b137 : AC := c137_0
def s137 : List Rs := [.t .h0 .h4]
def c159_0 : AC := (.seq (.ops [m d4 (.c (.bool false))])
 (.seq (.ops [m d5 r0,
 m d6 r1,
 .o d7 (.call 133 [r5,r6]),
 o d8 (.bin .ge r7 (.c (pi 0))),
 m d4 r8])
 .ret))
def b159 : AC := c159_0
def s159 : List Rs := [.t .h0 .h4]
def c162_2 : AC := (.seq (.ops [o d9 (.bin .lt r8 r7)])
 (.seq (.cond r9 .skip
 (.exit 0))
 (.seq (.block 1 (.seq (.ops [m d10 r8,
 m d5 r10])
 (.seq (.ops [m d11 r1,
 m d12 r0,
 m d13 r5,
 o d14 (.ixs 2 r12 r13),
 o d15 (.ldn 2 r14),
 .o d16 (.calld r11 [r15])])
 (.cond r16 (.seq (.ops [m d17 r5,
 m d4 r17])
 .ret)
 .skip))))
 (.ops [o d18 (.bin .add r8 (.c (pi 1))),
 m d8 r18]))))
def c162_1 : AC := (.seq (.ops [m d6 r0,
 o d7 (.len r6),
 m d8 (.c (pi 0))])
 (.block 0 (.loop c162_2)))
def c162_3 : AC := (.seq (.ops [m d4 (.c (ni 0))])
 .ret)
def c162_0 : AC := (.seq (.ops [m d4 (.c (pi 0))])
 (.seq c162_1 c162_3))
def b162 : AC := c162_0
def s162 : List Rs := [.t .h0 .h4]
def c198_3 : AC := (.cond r4 (.seq (.ops [m d2 (.c (.bool true))])
 .ret)
 .skip)
def c198_2 : AC := (.seq (.seq (.ops [o d5 (.bin .seq r3 (.c (.str [116,97,98,108,101]))),
 m d4 r5])
 (.cond r4 .skip
 (.seq (.ops [o d6 (.bin .seq r3 (.c (.str [102,105,108,116,101,114]))),
 m d4 r6])
 (.cond r4 .skip
 (.seq (.ops [o d7 (.bin .seq r3 (.c (.str [112,114,111,106,101,99,116]))),
 m d4 r7])
 (.cond r4 .skip
 (.seq (.ops [o d8 (.bin .seq r3 (.c (.str [106,111,105,110]))),
 m d4 r8])
 (.cond r4 .skip
 (.seq (.ops [o d9 (.bin .seq r3 (.c (.str [117,110,105,111,110]))),
 m d4 r9])
 (.cond r4 .skip
 (.seq (.ops [o d10 (.bin .seq r3 (.c (.str [100,105,115,116,105,110,99,116]))),
 m d4 r10])
 (.cond r4 .skip
 (.seq (.ops [o d11 (.bin .seq r3 (.c (.str [103,114,111,117,112]))),
 m d4 r11])
 (.cond r4 .skip
 (.seq (.ops [o d12 (.bin .seq r3 (.c (.str [99,111,117,110,116]))),
 m d4 r12])
 (.cond r4 .skip
 (.seq (.ops [o d13 (.bin .seq r3 (.c (.str [115,117,109]))),
 m d4 r13])
 (.cond r4 .skip
 (.seq (.ops [o d14 (.bin .seq r3 (.c (.str [109,105,110]))),
 m d4 r14])
 (.cond r4 .skip
 (.seq (.ops [o d15 (.bin .seq r3 (.c (.str [109,97,120]))),
 m d4 r15])
 (.cond r4 .skip
 (.seq (.ops [o d16 (.bin .seq r3 (.c (.str [97,100,100]))),
 m d4 r16])
 (.cond r4 .skip
 (.seq (.ops [o d17 (.bin .seq r3 (.c (.str [115,117,98]))),
 m d4 r17])
 (.cond r4 .skip
 (.seq (.ops [o d18 (.bin .seq r3 (.c (.str [109,117,108]))),
 m d4 r18])
 (.cond r4 .skip
 (.seq (.ops [o d19 (.bin .seq r3 (.c (.str [110,101,103]))),
 m d4 r19])
 (.cond r4 .skip
 (.seq (.ops [o d20 (.bin .seq r3 (.c (.str [101,113]))),
 m d4 r20])
 (.cond r4 .skip
 (.seq (.ops [o d21 (.bin .seq r3 (.c (.str [108,116]))),
 m d4 r21])
 (.cond r4 .skip
 (.seq (.ops [o d22 (.bin .seq r3 (.c (.str [97,110,100]))),
 m d4 r22])
 (.cond r4 .skip
 (.seq (.ops [o d23 (.bin .seq r3 (.c (.str [111,114]))),
 m d4 r23])
 (.cond r4 .skip
 (.seq (.ops [o d24 (.bin .seq r3 (.c (.str [110,111,116]))),
 m d4 r24])
 (.cond r4 .skip
 (.seq (.ops [o d25 (.bin .seq r3 (.c (.str [99,97,116]))),
 m d4 r25])
 (.cond r4 .skip
 (.seq (.ops [o d26 (.bin .seq r3 (.c (.str [108,101,110]))),
 m d4 r26])
 (.cond r4 .skip
 (.ops [o d27 (.bin .seq r3 (.c (.str [105,102]))),
 m d4 r27])))))))))))))))))))))))))))))))))))))))))))))
 c198_3)
def c198_1 : AC := (.seq (.ops [m d3 r0])
 (.block 0 c198_2))
def c198_4 : AC := (.seq (.ops [m d2 (.c (.bool false))])
 .ret)
def c198_0 : AC := (.seq (.ops [m d2 (.c (.bool false))])
 (.seq c198_1 c198_4))
def b198 : AC := c198_0
def s198 : List Rs := [.t .h0 .h2]
def c199_2 : AC := (.seq (.ops [o d9 (.bin .lt r8 r7)])
 (.seq (.cond r9 .skip
 (.exit 0))
 (.seq (.block 1 (.seq (.ops [m d10 r8,
 m d5 r10])
 (.seq (.ops [m d11 r1,
 m d12 r0,
 m d13 r5,
 o d14 (.ixs 2 r12 r13),
 o d15 (.ldn 2 r14),
 .o d16 (.calld r11 [r15])])
 (.cond r16 (.seq (.ops [m d17 r5,
 m d4 r17])
 .ret)
 .skip))))
 (.ops [o d18 (.bin .add r8 (.c (pi 1))),
 m d8 r18]))))
def c199_1 : AC := (.seq (.ops [m d6 r0,
 o d7 (.len r6),
 m d8 (.c (pi 0))])
 (.block 0 (.loop c199_2)))
def c199_3 : AC := (.seq (.ops [m d4 (.c (ni 0))])
 .ret)
def c199_0 : AC := (.seq (.ops [m d4 (.c (pi 0))])
 (.seq c199_1 c199_3))
def b199 : AC := c199_0
def s199 : List Rs := [.t .h0 .h4]
def c200_0 : AC := (.seq (.ops [o d2 (.box 71 r0),
 m d3 (.c (.bool false))])
 (.seq (.ops [o d4 (.fad 0 r2),
 o d5 (.ld1 r4),
 o d6 (.ld1 r1),
 o d7 (.bin .seq r5 r6),
 m d3 r7])
 .ret))
def b200 : AC := c200_0
def s200 : List Rs := [.t .h0 .h3]
def c201_3 : AC := (.cond r34 .skip
 (.exit 2))
def c201_4 : AC := (.ops [m d35 r9,
 o d36 (.bin .sub r35 (.c (pi 1))),
 m d9 r36])
def c201_2 : AC := (.seq (.ops [m d17 r8,
 m d9 r17])
 (.block 2 (.loop (.seq (.seq (.drw [q 0 (m d18 r9),
 q 0 (m d19 r1),
 q 0 (o d20 (.bin .gt r18 r19)),
 q 0 (m d21 r20),
 q 0 (.g .h1 .h5 true d22 (.op (.mv r3))),
 q 0 (.g .h1 .h5 true d23 (.op (.mv r0))),
 q 0 (.g .h1 .h5 true d24 (.op (.mv r9))),
 q 0 (.g .h1 .h5 true d25 (.op (.ixs 2 r23 r24))),
 q 0 (.g .h1 .h5 true d26 (.op (.ldn 2 r25))),
 q 0 (.g .h1 .h5 true d27 (.op (.mv r0))),
 q 0 (.g .h1 .h5 true d28 (.op (.mv r9))),
 q 0 (.g .h1 .h5 true d29 (.op (.bin .sub r28 (.c (pi 1))))),
 q 0 (.g .h1 .h5 true d30 (.op (.ixs 2 r27 r29))),
 q 0 (.g .h1 .h5 true d31 (.op (.ldn 2 r30))),
 w (.g .h1 .h5 true d32 (.calld r22 [r26,r31])),
 q 0 (.g .h1 .h5 true d33 (.op (.bin .lt r32 (.c (pi 0))))),
 q 0 (o d34 (.pick r21 r33 (.c (.bool false))))]) c201_3) (.seq (.block 3 (.drw [q 0 (m d37 r0),
 q 0 (m d38 r9),
 q 0 (m d42 r0),
 q 0 (m d43 r9),
 q 0 (o d44 (.bin .sub r43 (.c (pi 1)))),
 q 0 (o d45 (.ixs 2 r42 r44)),
 q 0 (o d46 (.ldn 2 r45)),
 q 0 (m d47 r0),
 q 0 (m d48 r9),
 q 0 (o d49 (.ixs 2 r47 r48)),
 q 0 (o d50 (.ldn 2 r49)),
 q 0 (o d51 (.ixs 2 r37 r38)),
 w (o .no (.stn 2 r51 r46)),
 q 1 (m d39 r0),
 q 1 (m d40 r9),
 q 1 (o d41 (.bin .sub r40 (.c (pi 1)))),
 q 0 (o d52 (.ixs 2 r39 r41)),
 w (o .no (.stn 2 r52 r50))])) c201_4)))))
def c201_5 : AC := (.ops [m d15 r8,
 o d16 (.bin .add r15 (.c (pi 1))),
 m d8 r16])
def c201_1 : AC := (.seq (.seq (.ops [m d12 r8,
 m d13 r2,
 o d14 (.bin .lt r12 r13)])
 (.cond r14 .skip
 (.exit 0)))
 (.seq (.block 1 c201_2) c201_5))
def c201_0 : AC := (.seq (.ops [m d10 r1,
 o d11 (.bin .add r10 (.c (pi 1))),
 m d8 r11])
 (.block 0 (.loop c201_1)))
def b201 : AC := c201_0
def s201 : List Rs := []
def c210_2 : AC := (.seq (.seq (.ops [m d13 r0,
 o d14 (.bin .ge r13 (.c (.int .u64 (.ofNat 256))))])
 (.cond r14 (.seq (.ops [m d15 r0,
 o d16 (.bin .shr r15 (.c (.int .u64 (.ofNat 8)))),
 m d0 r16])
 (.ops [m d17 r2,
 o d18 (.bin .add r17 (.c (pi 8))),
 m d2 r18]))
 .skip))
 (.seq (.ops [m d19 r2,
 m d20 r0,
 o d21 (.conv (.toInt .u8) r20),
 o d22 (.idxs (.c (.str [0,1,2,2,3,3,3,3,4,4,4,4,4,4,4,4,5,5,5,5,5,5,5,5,5,5,5,5,5,5,5,5,6,6,6,6,6,6,6,6,6,6,6,6,6,6,6,6,6,6,6,6,6,6,6,6,6,6,6,6,6,6,6,6,7,7,7,7,7,7,7,7,7,7,7,7,7,7,7,7,7,7,7,7,7,7,7,7,7,7,7,7,7,7,7,7,7,7,7,7,7,7,7,7,7,7,7,7,7,7,7,7,7,7,7,7,7,7,7,7,7,7,7,7,7,7,7,7,8,8,8,8,8,8,8,8,8,8,8,8,8,8,8,8,8,8,8,8,8,8,8,8,8,8,8,8,8,8,8,8,8,8,8,8,8,8,8,8,8,8,8,8,8,8,8,8,8,8,8,8,8,8,8,8,8,8,8,8,8,8,8,8,8,8,8,8,8,8,8,8,8,8,8,8,8,8,8,8,8,8,8,8,8,8,8,8,8,8,8,8,8,8,8,8,8,8,8,8,8,8,8,8,8,8,8,8,8,8,8,8,8,8,8,8,8,8,8,8,8,8,8,8,8,8,8,8])) r21),
 o d23 (.conv (.toInt .i64) r22),
 o d24 (.bin .add r19 r23),
 m d2 r24])
 .ret))
def c210_1 : AC := (.seq (.seq (.ops [m d7 r0,
 o d8 (.bin .ge r7 (.c (.int .u64 (.ofNat 65536))))])
 (.cond r8 (.seq (.ops [m d9 r0,
 o d10 (.bin .shr r9 (.c (.int .u64 (.ofNat 16)))),
 m d0 r10])
 (.ops [m d11 r2,
 o d12 (.bin .add r11 (.c (pi 16))),
 m d2 r12]))
 .skip))
 c210_2)
def c210_0 : AC := (.seq (.ops [m d2 (.c (pi 0))])
 (.seq (.seq (.ops [m d3 r0,
 o d4 (.bin .ge r3 (.c (.int .u64 (.ofNat 4294967296))))])
 (.cond r4 (.seq (.ops [m d5 r0,
 o d6 (.bin .shr r5 (.c (.int .u64 (.ofNat 32)))),
 m d0 r6])
 (.ops [m d2 (.c (pi 32))]))
 .skip))
 c210_1))
def b210 : AC := c210_0
def s210 : List Rs := [.t .h0 .h2]
end
end Go.Am.Seat
