/- Code of the abstract machine, written by program. Nothing is asked. -/
import Derived.Test.YtammkfjhlofmaaaGreatHead
set_option linter.all false
namespace Go.Am.Seat
set_option linter.unusedVariables false
set_option maxRecDepth 20000
noncomputable section
def c6_6 : AC := (.seq (.ops [m d107 r5,
 o d108 (.build [(pi 0),(pi 0),(pi 0),(.str [])] [.mk 0 1 (.c (pi 8)),.mk 1 1 (.c (pi 1))]),
 .o d109 (.call 15 [r107,r108])])
 (.seq (.ops [m d110 r5,
 .o d111 (.call 16 [r110,(.c (pi 20000))])])
 (.seq (.ops [m d113 r5,
 .o d114 (.call 21 [r113,(.c (pi 1))]),
 m d112 r114,
 o d115 (.ext 0 r112),
 o d116 (.ext 1 r112),
 m d16 r115,
 m d17 r116])
 (.seq (.ops [m d117 r2,
 o d118 (.bin .eq r117 (.c (pi 1))),
 m d119 r118,
 .g .h7 .h7 true d120 (.op (.mv r4)),
 .g .h7 .h7 true d121 (.op (.bin .eq r120 (.c (pi 1)))),
 o d122 (.pick r119 r121 (.c (.bool false))),
 m d123 r122,
 .g .h7 .hb true d124 (.op (.mv r7)),
 .g .h7 .hb true d125 (.op (.len r124)),
 .g .h7 .hb true d126 (.op (.bin .eq r125 (.c (pi 0)))),
 o d127 (.pick r123 r126 (.c (.bool false))),
 m d128 r127,
 .g .h8 .h0 true d129 (.op (.mv r9)),
 .g .h8 .h0 true d130 (.op (.bin .le r129 (.c (pi 500)))),
 o d131 (.pick r128 r130 (.c (.bool false))),
 m d132 r131,
 .g .h8 .h4 true d133 (.op (.mv r10)),
 .g .h8 .h4 true d134 (.op (.un .not r133)),
 o d135 (.pick r132 r134 (.c (.bool false))),
 m d136 r135,
 .g .h8 .h8 true d137 (.op (.mv r11)),
 .g .h8 .h8 true d138 (.op (.len r137)),
 .g .h8 .h8 true d139 (.op (.bin .eq r138 (.c (pi 2)))),
 o d140 (.pick r136 r139 (.c (.bool false))),
 m d141 r140,
 .g .h8 .hd true d142 (.op (.mv r12)),
 .g .h8 .hd true d143 (.op (.bin .eq r142 (.c (pi 0)))),
 o d144 (.pick r141 r143 (.c (.bool false))),
 m d145 r144,
 .g .h9 .h1 true d146 (.op (.mv r13)),
 .g .h9 .h1 true d147 (.op (.lent r146)),
 .g .h9 .h1 true d148 (.op (.bin .eq r147 (.c (pi 0)))),
 o d149 (.pick r145 r148 (.c (.bool false))),
 m d150 r149,
 .g .h9 .h6 true d151 (.op (.mv r14)),
 .g .h9 .h6 true d152 (.op (.bin .eq r151 (.c (pi 1)))),
 o d153 (.pick r150 r152 (.c (.bool false))),
 m d154 r153,
 .g .h9 .ha true d155 (.op (.mv r15)),
 .g .h9 .ha true d156 (.op (.bin .seq r155 (.c (.str [115,110,97,112])))),
 o d157 (.pick r154 r156 (.c (.bool false))),
 m d158 r157,
 .g .h9 .he true d159 (.op (.mv r5)),
 .g .h9 .he true d160 (.call 19 [r159,(.c (pi 0))]),
 .g .h9 .he true d161 (.op (.len r160)),
 .g .h9 .he true d162 (.op (.bin .eq r161 (.c (pi 0)))),
 o d163 (.pick r158 r162 (.c (.bool false))),
 m d164 r163,
 .g .ha .h4 true d165 (.op (.mv r16)),
 .g .ha .h4 true d166 (.op (.mv r5)),
 .g .ha .h4 true d167 (.call 19 [r166,(.c (pi 1))]),
 .g .ha .h4 true d168 (.op (.len r167)),
 .g .ha .h4 true d169 (.op (.bin .add r165 r168)),
 .g .ha .h4 true d170 (.op (.bin .eq r169 (.c (pi 1)))),
 o d171 (.pick r164 r170 (.c (.bool false))),
 m d172 r171,
 .g .ha .hc true d173 (.op (.mv r5)),
 .g .ha .hc true d174 (.call 19 [r173,(.c (pi 2))]),
 .g .ha .hc true d175 (.op (.bslice 9 1 1 [(.str [])] [.mk 0 1 (.c (.str [120]))])),
 .g .ha .hc true d176 (.call 18 [r174,r175]),
 o d177 (.pick r172 r176 (.c (.bool false))),
 m d178 r177,
 .g .hb .h2 true d179 (.op (.mv r5)),
 .g .hb .h2 true d180 (.call 19 [r179,(.c (ni 0))]),
 .g .hb .h2 true d181 (.op (.len r180)),
 .g .hb .h2 true d182 (.op (.bin .eq r181 (.c (pi 0)))),
 o d183 (.pick r178 r182 (.c (.bool false))),
 m d184 r183,
 .g .hb .h8 true d185 (.call 17 []),
 o d186 (.pick r184 r185 (.c (.bool false))),
 m d0 r186]) .ret))))
def c6_5 : AC := (.seq (.ops [m d88 r11,
 m d89 r8,
 o d90 (.app 36 4 r88 r89),
 m d11 r90])
 (.seq (.ops [m d92 r5,
 .o d93 (.call 21 [r92,(.c (pi 0))]),
 m d91 r93,
 o d94 (.ext 0 r91),
 o d95 (.ext 1 r91),
 m d12 r94,
 m d13 r95])
 (.seq (.ops [m d96 r5,
 o d97 (.build [(pi 0),(pi 0),(pi 0),(.str [])] [.mk 0 1 (.c (pi 9)),.mk 1 1 (.c (pi 0)),.mk 2 1 (.c (pi 2)),.mk 3 1 (.c (.str [110,111]))]),
 .o d98 (.call 15 [r96,r97])])
 (.seq (.ops [m d99 r5,
 o d100 (.build [(pi 0),(pi 0),(pi 0),(.str [])] [.mk 0 1 (.c (pi 9)),.mk 1 1 (.c (pi 0)),.mk 2 1 (.c (pi 1)),.mk 3 1 (.c (.str [115,110,97,112]))]),
 .o d101 (.call 15 [r99,r100])])
 (.seq (.ops [m d103 r5,
 .o d104 (.call 21 [r103,(.c (pi 0))]),
 m d102 r104,
 o d105 (.ext 0 r102),
 o d106 (.ext 1 r102),
 m d14 r105,
 m d15 r106])
 c6_6)))))
def c6_4 : AC := (.seq (.ops [m d71 r5,
 .o d72 (.call 16 [r71,(.c (pi 500))]),
 m d70 r72,
 o d73 (.ext 0 r70),
 o d74 (.ext 1 r70),
 m d8 r73,
 m d9 r74])
 (.seq (.ops [m d75 r7,
 m d76 r8,
 o d77 (.app 36 4 r75 r76),
 m d7 r77])
 (.seq (.ops [m d78 r5,
 .o d79 (.call 20 [r78,(.c (pi 1))]),
 m d10 r79])
 (.seq (.ops [m d80 r5,
 o d81 (.build [(pi 0),(pi 0),(pi 0),(.str [])] [.mk 0 1 (.c (pi 8)),.mk 1 1 (.c (pi 2))]),
 .o d82 (.call 15 [r80,r81]),
 m d11 r82])
 (.seq (.ops [m d84 r5,
 .o d85 (.call 16 [r84,(.c (pi 20000))]),
 m d83 r85,
 o d86 (.ext 0 r83),
 o d87 (.ext 1 r83),
 m d8 r86])
 c6_5)))))
def c6_3 : AC := (.seq (.ops [m d55 r7,
 m d56 r5,
 o d57 (.build [(pi 0),(pi 0),(pi 0),(.str [])] [.mk 0 1 (.c (pi 1)),.mk 1 1 (.c (pi 9)),.mk 3 1 (.c (.str [122]))]),
 .o d58 (.call 15 [r56,r57]),
 o d59 (.app 36 4 r55 r58),
 m d7 r59])
 (.seq (.ops [m d60 r7,
 m d61 r5,
 o d62 (.build [(pi 0),(pi 0),(pi 0),(.str [])] [.mk 0 1 (.c (pi 1)),.mk 1 1 (.c (pi 0))]),
 .o d63 (.call 15 [r61,r62]),
 o d64 (.app 36 4 r60 r63),
 m d7 r64])
 (.seq (.ops [m d65 r7,
 m d66 r5,
 o d67 (.build [(pi 0),(pi 0),(pi 0),(.str [])] [.mk 0 1 (.c (pi 2)),.mk 1 1 (.c (pi 0))]),
 .o d68 (.call 15 [r66,r67]),
 o d69 (.app 36 4 r65 r68),
 m d7 r69])
 c6_4)))
def c6_2 : AC := (.seq (.ops [m d36 r5,
 o d37 (.build [(pi 0),(pi 0),(pi 0),(.str [])] [.mk 0 1 (.c (pi 7)),.mk 1 1 (.c (pi 1))]),
 .o d38 (.call 15 [r36,r37])])
 (.seq (.ops [m d39 r5,
 o d40 (.build [(pi 0),(pi 0),(pi 0),(.str [])] [.mk 0 1 (.c (pi 7)),.mk 1 1 (.c (pi 2)),.mk 2 1 (.c (pi 9))]),
 .o d41 (.call 15 [r39,r40])])
 (.seq (.ops [m d42 r5,
 o d43 (.build [(pi 0),(pi 0),(pi 0),(.str [])] [.mk 0 1 (.c (pi 1)),.mk 1 1 (.c (pi 0)),.mk 3 1 (.c (.str [120]))]),
 .o d44 (.call 15 [r42,r43]),
 m d7 r44])
 (.seq (.ops [m d45 r7,
 m d46 r5,
 o d47 (.build [(pi 0),(pi 0),(pi 0),(.str [])] [.mk 0 1 (.c (pi 2)),.mk 1 1 (.c (pi 0)),.mk 3 1 (.c (.str [109,97,114,107]))]),
 .o d48 (.call 15 [r46,r47]),
 o d49 (.app 36 4 r45 r48),
 m d7 r49])
 (.seq (.ops [m d50 r7,
 m d51 r5,
 o d52 (.build [(pi 0),(pi 0),(pi 0),(.str [])] [.mk 0 1 (.c (pi 1)),.mk 1 1 (.c (pi 1)),.mk 3 1 (.c (.str [121]))]),
 .o d53 (.call 15 [r51,r52]),
 o d54 (.app 36 4 r50 r53),
 m d7 r54])
 c6_3)))))
def c6_1 : AC := (.seq (.seq (.ops [m d30 r5,
 o d31 (.bin .peq r30 (.c .nilp)),
 m d32 r31,
 .g .h2 .h0 false d33 (.op (.mv r6)),
 .g .h2 .h0 false d34 (.op (.bin .ne r33 (.c (pi 0)))),
 o d35 (.pick r32 (.c (.bool true)) r34)])
 (.cond r35 (.seq (.ops [m d0 (.c (.bool false))])
 .ret)
 .skip))
 c6_2)
def c6_0 : AC := (.seq (.ops [m d0 (.c (.bool false))])
 (.seq (.ops [.o d19 (.call 14 [(.c (pi 0))]),
 m d18 r19,
 o d20 (.ext 0 r18),
 o d21 (.ext 1 r18),
 m d1 r20,
 m d2 r21])
 (.seq (.ops [.o d23 (.call 14 [(.c (pi 6))]),
 m d22 r23,
 o d24 (.ext 0 r22),
 o d25 (.ext 1 r22),
 m d3 r24,
 m d4 r25])
 (.seq (.ops [.o d27 (.call 14 [(.c (pi 3))]),
 m d26 r27,
 o d28 (.ext 0 r26),
 o d29 (.ext 1 r26),
 m d5 r28,
 m d6 r29])
 c6_1))))
def b6 : AC := c6_0
def s6 : List Rs := [.t .h0 .h0]
def c14_1 : AC := (.seq (.ops [o d11 (.build [(pi 0),(.str []),.nils,(pi 0),(.str []),.nils,(pi 0),(.str []),.nils,(pi 0),(.str []),.nils,(pi 0),(.str []),.nils,.nils] []),
 o d12 (.box 70 r11),
 o d13 (.build [.nilp,.nilp] [.mk 1 1 r12]),
 o d14 (.box 73 r13),
 m d4 r14])
 (.seq (.ops [m d15 r4,
 m d16 r0,
 m d17 r4,
 o d18 (.nilc r17),
 o d19 (.fad 1 r18),
 o d20 (.ld1 r19),
 o d21 (.mki 65 r20),
 .o d22 (.call 26 [r16,r21]),
 o d23 (.nilc r15),
 o d24 (.fad 0 r23),
 o .no (.st1 r24 r22)])
 (.seq (.ops [m d25 r4,
 m d2 r25,
 m d3 (.c (pi 0))])
 .ret)))
def c14_0 : AC := (.seq (.ops [m d2 (.c .nilp),
 m d3 (.c (pi 0))])
 (.seq (.seq (.ops [m d5 r0,
 o d6 (.bin .lt r5 (.c (pi 1))),
 m d7 r6,
 .g .h0 .h7 false d8 (.op (.mv r0)),
 .g .h0 .h7 false d9 (.op (.bin .gt r8 (.c (pi 5)))),
 o d10 (.pick r7 (.c (.bool true)) r9)])
 (.cond r10 (.seq (.ops [m d2 (.c .nilp),
 m d3 (.c (pi 1))])
 .ret)
 .skip))
 c14_1))
def b14 : AC := c14_0
def s14 : List Rs := [.t .h0 .h2,.t .h0 .h3]
def c15_3 : AC := (.cond r17 (.drw [q 0 (m d18 r0),
 q 0 (o d19 (.nilc r18)),
 q 0 (o d20 (.fad 0 r19)),
 q 0 (o d21 (.ld1 r20)),
 q 0 (o d22 (.fad 1 r3)),
 q 0 (o d23 (.ld1 r22)),
 q 0 (o d24 (.fad 3 r3)),
 q 0 (o d25 (.ld1 r24)),
 w (.o d26 (.call 27 [r21,r23,r25,(.c (.bool false))]))])
 .skip)
def c15_5 : AC := (.cond r27 (.seq (.ops [o d29 (.fad 3 r3),
 o d30 (.ld1 r29),
 o d31 (.bin .sne r30 (.c (.str [])))])
 (.cond r31 (.drw [q 0 (m d32 r0),
 q 0 (o d33 (.nilc r32)),
 q 0 (o d34 (.fad 0 r33)),
 q 0 (o d35 (.ld1 r34)),
 q 0 (o d36 (.fad 1 r3)),
 q 0 (o d37 (.ld1 r36)),
 q 0 (o d38 (.fad 3 r3)),
 q 0 (o d39 (.ld1 r38)),
 w (.o d40 (.call 27 [r35,r37,r39,(.c (.bool true))]))])
 .skip))
 (.seq (.ops [o d42 (.bin .eq r6 (.c (pi 3))),
 m d41 r42])
 (.cond r41 (.drw [q 0 (m d43 r0),
 q 0 (o d44 (.nilc r43)),
 q 0 (o d45 (.fad 0 r44)),
 q 0 (o d46 (.ld1 r45)),
 q 0 (o d47 (.fad 2 r3)),
 q 0 (o d48 (.ld1 r47)),
 w (.o d49 (.call 28 [r46,r48]))])
 (.seq (.ops [o d51 (.bin .eq r6 (.c (pi 4))),
 m d50 r51])
 (.cond r50 (.drw [q 0 (m d52 r0),
 q 0 (o d53 (.nilc r52)),
 q 0 (o d54 (.fad 0 r53)),
 q 0 (o d55 (.ld1 r54)),
 q 0 (o d56 (.fad 2 r3)),
 q 0 (o d57 (.ld1 r56)),
 w (.o d58 (.call 29 [r55,r57]))])
 (.seq (.ops [o d60 (.bin .eq r6 (.c (pi 5))),
 m d59 r60])
 (.cond r59 (.drw [q 0 (m d61 r0),
 q 0 (o d62 (.nilc r61)),
 q 0 (o d63 (.fad 0 r62)),
 q 0 (o d64 (.ld1 r63)),
 q 0 (o d65 (.fad 2 r3)),
 q 0 (o d66 (.ld1 r65)),
 w (.o d67 (.call 30 [r64,r66]))])
 (.seq (.ops [o d69 (.bin .eq r6 (.c (pi 6))),
 m d68 r69])
 (.cond r68 (.drw [q 0 (m d70 r0),
 q 0 (o d71 (.nilc r70)),
 q 0 (o d72 (.fad 0 r71)),
 q 0 (o d73 (.ld1 r72)),
 q 0 (o d74 (.fad 1 r3)),
 q 0 (o d75 (.ld1 r74)),
 q 0 (o d76 (.fad 2 r3)),
 q 0 (o d77 (.ld1 r76)),
 w (.o d78 (.call 31 [r73,r75,r77]))])
 (.seq (.ops [o d80 (.bin .eq r6 (.c (pi 7))),
 m d79 r80])
 (.cond r79 (.drw [q 0 (m d81 r0),
 q 0 (o d82 (.nilc r81)),
 q 0 (o d83 (.fad 0 r82)),
 q 0 (o d84 (.ld1 r83)),
 q 0 (o d85 (.fad 1 r3)),
 q 0 (o d86 (.ld1 r85)),
 q 0 (o d87 (.fad 2 r3)),
 q 0 (o d88 (.ld1 r87)),
 w (.o d89 (.call 32 [r84,r86,r88]))])
 (.seq (.ops [o d91 (.bin .eq r6 (.c (pi 8))),
 m d90 r91])
 (.cond r90 (.drw [q 0 (m d92 r0),
 q 0 (o d93 (.nilc r92)),
 q 0 (o d94 (.fad 0 r93)),
 q 0 (o d95 (.ld1 r94)),
 q 0 (o d96 (.fad 1 r3)),
 q 0 (o d97 (.ld1 r96)),
 w (.o d98 (.call 33 [r95,r97]))])
 (.seq (.ops [o d100 (.bin .eq r6 (.c (pi 9))),
 m d99 r100])
 (.cond r99 (.drw [q 0 (m d101 r0),
 q 0 (o d102 (.nilc r101)),
 q 0 (o d103 (.fad 0 r102)),
 q 0 (o d104 (.ld1 r103)),
 q 0 (o d105 (.fad 1 r3)),
 q 0 (o d106 (.ld1 r105)),
 q 0 (o d107 (.fad 2 r3)),
 q 0 (o d108 (.ld1 r107)),
 q 0 (o d109 (.fad 3 r3)),
 q 0 (o d110 (.ld1 r109)),
 w (.o d111 (.call 34 [r104,r106,r108,r110]))])
 .skip)))))))))))))))
def c15_4 : AC := (.seq (.ops [o d28 (.bin .eq r6 (.c (pi 2))),
 m d27 r28])
 c15_5)
def c15_2 : AC := (.seq (.ops [o d8 (.bin .eq r6 (.c (pi 1))),
 m d7 r8])
 (.cond r7 (.seq (.ops [o d9 (.fad 3 r3),
 o d10 (.ld1 r9),
 o d11 (.bin .sne r10 (.c (.str []))),
 m d12 r11,
 .g .h0 .hc true d13 (.op (.fad 3 r3)),
 .g .h0 .hc true d14 (.op (.ld1 r13)),
 .g .h0 .hc true d15 (.op (.lent r14)),
 .g .h0 .hc true d16 (.op (.bin .le r15 (.c (pi 10000)))),
 o d17 (.pick r12 r16 (.c (.bool false)))]) c15_3) c15_4))
def c15_1 : AC := (.seq (.ops [o d5 (.fad 0 r3),
 o d6 (.ld1 r5)])
 (.block 0 c15_2))
def c15_6 : AC := (.seq (.ops [m d112 r0,
 .o d113 (.call 35 [r112]),
 m d4 r113])
 .ret)
def c15_0 : AC := (.seq (.ops [o d3 (.box 31 r1),
 m d4 (.c .nils)])
 (.seq c15_1 c15_6))
def b15 : AC := c15_0
def s15 : List Rs := [.t .h0 .h4]
def c16_2 : AC := (.cond r19 (.seq (.ops [m d20 r6,
 o d21 (.bin .add r20 (.c (pi 1))),
 m d6 r21])
 (.goto 0))
 .skip)
def c16_3 : AC := (.cond r31 (.seq (.ops [m d32 r0,
 o d33 (.nilc r32),
 o d34 (.fad 0 r33),
 o d35 (.ld1 r34),
 .o d36 (.call 37 [r35])])
 (.seq (.ops [m d37 r6,
 o d38 (.bin .add r37 (.c (pi 1))),
 m d6 r38])
 (.goto 0)))
 .skip)
def c16_4 : AC := (.seq (.ops [m d39 r0,
 .o d40 (.call 35 [r39]),
 m d41 r6,
 m d4 r40,
 m d5 r41])
 .ret)
def c16_1 : AC := (.seq (.ops [m d7 r1,
 o d8 (.max false [r7,(.c (pi 0))]),
 o d9 (.max true [r8,(.c (pi 20000))]),
 m d1 r9])
 (.seq (.ops [m d6 (.c (pi 0))])
 (.seq (.label 0) (.seq (.seq (.ops [m d10 r6,
 m d11 r1,
 o d12 (.bin .lt r10 r11),
 m d13 r12,
 .g .h0 .hd true d14 (.op (.mv r0)),
 .g .h0 .hd true d15 (.op (.nilc r14)),
 .g .h0 .hd true d16 (.op (.fad 0 r15)),
 .g .h0 .hd true d17 (.op (.ld1 r16)),
 .g .h0 .hd true d18 (.call 28 [r17,(.c (pi 0))]),
 o d19 (.pick r13 r18 (.c (.bool false)))]) c16_2) (.seq (.seq (.ops [m d22 r6,
 m d23 r1,
 o d24 (.bin .lt r22 r23),
 m d25 r24,
 .g .h1 .h9 true d26 (.op (.mv r0)),
 .g .h1 .h9 true d27 (.op (.nilc r26)),
 .g .h1 .h9 true d28 (.op (.fad 0 r27)),
 .g .h1 .h9 true d29 (.op (.ld1 r28)),
 .g .h1 .h9 true d30 (.call 36 [r29]),
 o d31 (.pick r25 r30 (.c (.bool false)))]) c16_3) c16_4)))))
def c16_0 : AC := (.seq (.ops [m d4 (.c .nils),
 m d5 (.c (pi 0))])
 (.scope c16_1))
def b16 : AC := c16_0
def s16 : List Rs := [.t .h0 .h4,.t .h0 .h5]
def c17_2 : AC := (.seq (.ops [m d16 r1,
 o d17 (.build [(pi 0),(pi 0),(pi 0),(.str [])] [.mk 0 1 (.c (pi 1)),.mk 1 1 (.c (pi 0)),.mk 3 1 (.c (.str [120]))]),
 .o d18 (.call 15 [r16,r17]),
 m d3 r18])
 (.seq (.ops [m d20 r1,
 .o d21 (.call 16 [r20,(.c (pi 20000))]),
 m d19 r21,
 o d22 (.ext 0 r19),
 o d23 (.ext 1 r19),
 m d4 r22,
 m d5 r23])
 (.seq (.ops [m d24 r3,
 m d25 r4,
 o d26 (.app 36 4 r24 r25),
 m d3 r26])
 (.seq (.ops [m d27 r3,
 o d28 (.len r27),
 o d29 (.bin .eq r28 (.c (pi 1))),
 m d30 r29,
 .g .h1 .he true d31 (.op (.mv r3)),
 .g .h1 .he true d32 (.op (.ixs 4 r31 (.c (pi 0)))),
 .g .h1 .he true d33 (.op (.ldn 4 r32)),
 .g .h1 .he true d34 (.op (.build [(pi 0),(pi 0),(.str []),(pi 0)] [.mk 0 1 (.c (pi 1)),.mk 2 1 (.c (.str [120]))])),
 .g .h1 .he true d35 (.op (.bin (.aeq [.i,.i,.s,.i]) r33 r34)),
 o d36 (.pick r30 r35 (.c (.bool false))),
 m d37 r36,
 .g .h2 .h5 true d38 (.op (.mv r1)),
 .g .h2 .h5 true d39 (.call 19 [r38,(.c (pi 0))]),
 .g .h2 .h5 true d40 (.op (.bslice 9 1 1 [(.str [])] [.mk 0 1 (.c (.str [120]))])),
 .g .h2 .h5 true d41 (.call 18 [r39,r40]),
 o d42 (.pick r37 r41 (.c (.bool false))),
 m d43 r42,
 .g .h2 .hb true d44 (.op (.mv r1)),
 .g .h2 .hb true d45 (.call 19 [r44,(.c (pi 2))]),
 .g .h2 .hb true d46 (.op (.bslice 9 1 1 [(.str [])] [.mk 0 1 (.c (.str [120]))])),
 .g .h2 .hb true d47 (.call 18 [r45,r46]),
 o d48 (.pick r43 r47 (.c (.bool false))),
 m d49 r48,
 .g .h3 .h1 true d50 (.op (.mv r1)),
 .g .h3 .h1 true d51 (.call 25 [r50]),
 .g .h3 .h1 true d52 (.op (.bin .eq r51 (.c (pi 0)))),
 o d53 (.pick r49 r52 (.c (.bool false))),
 m d0 r53]) .ret))))
def c17_1 : AC := (.seq (.seq (.ops [m d10 r1,
 o d11 (.bin .peq r10 (.c .nilp)),
 m d12 r11,
 .g .h0 .hc false d13 (.op (.mv r2)),
 .g .h0 .hc false d14 (.op (.bin .ne r13 (.c (pi 0)))),
 o d15 (.pick r12 (.c (.bool true)) r14)])
 (.cond r15 (.seq (.ops [m d0 (.c (.bool false))])
 .ret)
 .skip))
 c17_2)
def c17_0 : AC := (.seq (.ops [m d0 (.c (.bool false))])
 (.seq (.ops [.o d7 (.call 14 [(.c (pi 3))]),
 m d6 r7,
 o d8 (.ext 0 r6),
 o d9 (.ext 1 r6),
 m d1 r8,
 m d2 r9])
 c17_1))
def b17 : AC := c17_0
def s17 : List Rs := [.t .h0 .h0]
def c18_2 : AC := (.seq (.seq (.ops [m d11 r5,
 m d12 r0,
 o d13 (.len r12),
 o d14 (.bin .lt r11 r13)])
 (.cond r14 .skip
 (.exit 0)))
 (.seq (.block 1 (.seq (.drw [q 0 (m d17 r0),
 q 0 (m d18 r5),
 q 0 (o d19 (.ixs 1 r17 r18)),
 q 0 (o d20 (.ld1 r19)),
 q 0 (m d21 r1),
 q 0 (m d22 r5),
 q 0 (o d23 (.ixs 1 r21 r22)),
 q 0 (o d24 (.ld1 r23)),
 q 0 (o d25 (.bin .sne r20 r24))])
 (.cond r25 (.seq (.ops [m d4 (.c (.bool false))])
 .ret)
 .skip)))
 (.ops [m d15 r5,
 o d16 (.bin .add r15 (.c (pi 1))),
 m d5 r16])))
def c18_1 : AC := (.seq (.ops [m d5 (.c (pi 0))])
 (.block 0 (.loop c18_2)))
def c18_3 : AC := (.seq (.ops [m d4 (.c (.bool true))])
 .ret)
def c18_0 : AC := (.seq (.ops [m d4 (.c (.bool false))])
 (.seq (.seq (.ops [m d6 r0,
 o d7 (.len r6),
 m d8 r1,
 o d9 (.len r8),
 o d10 (.bin .ne r7 r9)])
 (.cond r10 (.seq (.ops [m d4 (.c (.bool false))])
 .ret)
 .skip))
 (.seq c18_1 c18_3)))
def b18 : AC := c18_0
def s18 : List Rs := [.t .h0 .h4]
def c19_0 : AC := (.seq (.ops [m d4 (.c .nils)])
 (.seq (.seq (.ops [m d5 r0,
 o d6 (.nilc r5),
 o d7 (.fad 0 r6),
 o d8 (.ld1 r7),
 m d9 r1,
 .o d10 (.call 38 [r8,r9]),
 o d11 (.un .not r10)])
 (.cond r11 (.seq (.ops [m d4 (.c .nils)])
 .ret)
 .skip))
 (.seq (.ops [m d12 r0,
 o d13 (.nilc r12),
 o d14 (.fad 1 r13),
 o d15 (.ld1 r14),
 m d16 r1,
 o d17 (.nilc r15),
 o d18 (.fad 0 r17),
 o d19 (.ixa 5 3 r18 r16),
 o d20 (.fad 2 r19),
 o d21 (.ld1 r20),
 .o d22 (.call 39 [r21]),
 m d4 r22])
 .ret)))
def b19 : AC := c19_0
def s19 : List Rs := [.t .h0 .h4]
def c20_0 : AC := (.seq (.ops [m d4 (.c (.bool false))])
 (.seq (.ops [m d5 r0,
 o d6 (.nilc r5),
 o d7 (.fad 0 r6),
 o d8 (.ld1 r7),
 m d9 r1,
 .o d10 (.call 38 [r8,r9]),
 m d4 r10])
 .ret))
def b20 : AC := c20_0
def s20 : List Rs := [.t .h0 .h4]
def c21_1 : AC := (.seq (.drw [q 0 (m d13 r0),
 q 0 (o d14 (.nilc r13)),
 q 0 (o d15 (.fad 1 r14)),
 q 0 (o d16 (.ld1 r15)),
 q 0 (m d17 r1),
 q 0 (o d18 (.nilc r16)),
 q 0 (o d19 (.fad 0 r18)),
 q 0 (o d20 (.ixa 5 3 r19 r17)),
 q 0 (o d21 (.fad 0 r20)),
 q 0 (o d22 (.ld1 r21)),
 q 0 (m d23 r0),
 q 0 (o d24 (.nilc r23)),
 q 0 (o d25 (.fad 1 r24)),
 q 0 (o d26 (.ld1 r25)),
 q 0 (m d27 r1),
 q 0 (o d28 (.nilc r26)),
 q 0 (o d29 (.fad 0 r28)),
 q 0 (o d30 (.ixa 5 3 r29 r27)),
 q 0 (o d31 (.fad 1 r30)),
 q 0 (o d32 (.ld1 r31)),
 q 0 (m d4 r22),
 q 0 (m d5 r32)])
 .ret)
def c21_0 : AC := (.seq (.ops [m d4 (.c (pi 0)),
 m d5 (.c (.str []))])
 (.seq (.seq (.ops [m d6 r0,
 o d7 (.nilc r6),
 o d8 (.fad 0 r7),
 o d9 (.ld1 r8),
 m d10 r1,
 .o d11 (.call 38 [r9,r10]),
 o d12 (.un .not r11)])
 (.cond r12 (.seq (.ops [m d4 (.c (pi 0)),
 m d5 (.c (.str []))])
 .ret)
 .skip))
 c21_1))
def b21 : AC := c21_0
def s21 : List Rs := [.t .h0 .h4,.t .h0 .h5]
def c25_0 : AC := (.seq (.ops [m d2 (.c (pi 0))])
 (.seq (.ops [m d3 r0,
 o d4 (.nilc r3),
 o d5 (.fad 0 r4),
 o d6 (.ld1 r5),
 .o d7 (.call 41 [r6]),
 m d2 r7])
 .ret))
def b25 : AC := c25_0
def s25 : List Rs := [.t .h0 .h2]
def c26_3 : AC := (.seq (.ops [m d15 r13,
 m d6 r15])
 (.drw [w (.o d23 (.call 42 [])),
 q 1 (m d21 r5),
 q 1 (m d22 r6),
 q 0 (o d24 (.build [.nilp,(pi 0),.nilp,(pi 0),(.bool false),(pi 0),(pi 0),.nilp,.nilp,.nilp,(pi 0),.nilm,(pi 0),(pi 0),(pi 0),.nilm,(.str []),.nils,(pi 0),(pi 0),.nilm,(pi 0),(pi 0),(pi 0),(.bool false)] [.mk 0 1 r21,.mk 1 1 r22,.mk 2 1 r23])),
 w (o d25 (.box 101 r24)),
 w (o d26 (.bslice 88 1 1 [.nilp] [.mk 0 1 r25])),
 q 3 (m d17 r5),
 q 3 (o d18 (.nilc r17)),
 q 3 (o d19 (.fad 1 r18)),
 q 3 (o d20 (.ld1 r19)),
 w (o d27 (.app 88 1 r20 r26)),
 q 4 (m d16 r5),
 q 0 (o d28 (.nilc r16)),
 q 0 (o d29 (.fad 1 r28)),
 w (o .no (.st1 r29 r27))]))
def c26_4 : AC := (.ops [o d30 (.bin .add r13 (.c (pi 1))),
 m d13 r30])
def c26_2 : AC := (.seq (.ops [o d14 (.bin .lt r13 r12)])
 (.seq (.cond r14 .skip
 (.exit 0))
 (.seq (.block 1 c26_3) c26_4)))
def c26_1 : AC := (.seq (.ops [m d12 r0,
 m d13 (.c (pi 0))])
 (.block 0 (.loop c26_2)))
def c26_6 : AC := (.seq (.ops [o d37 (.bin .lt r36 r35)])
 (.seq (.cond r37 .skip
 (.exit 2))
 (.seq (.block 3 (.seq (.ops [o d38 (.ixs 1 r34 r36),
 o d39 (.ld1 r38),
 m d8 r39])
 (.ops [m d40 r8,
 .o d41 (.call 43 [r40,(.c (.bool false))])])))
 (.ops [o d42 (.bin .add r36 (.c (pi 1))),
 m d36 r42]))))
def c26_5 : AC := (.seq (.ops [m d31 r5,
 o d32 (.nilc r31),
 o d33 (.fad 1 r32),
 o d34 (.ld1 r33),
 o d35 (.len r34),
 m d36 (.c (pi 0))])
 (.block 2 (.loop c26_6)))
def c26_7 : AC := (.seq (.ops [m d43 r5,
 m d4 r43])
 .ret)
def c26_0 : AC := (.seq (.ops [m d4 (.c .nilp)])
 (.seq (.ops [m d9 r1,
 o d10 (.build [.nils,.nils,.nili] [.mk 2 1 r9]),
 o d11 (.box 87 r10),
 m d5 r11])
 (.seq c26_1 (.seq c26_5 c26_7))))
def b26 : AC := c26_0
def s26 : List Rs := [.t .h0 .h4]
def c27_0 : AC := (.seq (.ops [m d8 r0,
 m d9 r1,
 .o d10 (.call 38 [r8,r9])])
 (.cond r10 (.ops [m d11 r0,
 o d12 (.nilc r11),
 o d13 (.fad 1 r12),
 o d14 (.ld1 r13),
 m d15 r1,
 o d16 (.ixs 1 r14 r15),
 o d17 (.ld1 r16),
 m d18 r2,
 m d19 r3,
 .o d20 (.call 44 [r17,r18,r19])])
 .skip))
def b27 : AC := c27_0
def s27 : List Rs := []
def c28_2 : AC := (.seq (.seq (.drw [q 0 (m d30 r0),
 q 0 (o d31 (.nilc r30)),
 q 0 (o d32 (.fad 1 r31)),
 q 0 (o d33 (.ld1 r32)),
 q 0 (o d34 (.fad 1 r6)),
 q 0 (o d35 (.ld1 r34)),
 q 0 (o d36 (.ixs 1 r33 r35)),
 q 0 (o d37 (.ld1 r36)),
 q 0 (o d38 (.nilc r37)),
 q 0 (o d39 (.fad 4 r38)),
 q 0 (o d40 (.ld1 r39))])
 (.cond r40 (.drw [q 0 (m d41 r0),
 q 0 (o d42 (.nilc r41)),
 q 0 (o d43 (.fad 1 r42)),
 q 0 (o d44 (.ld1 r43)),
 q 0 (o d45 (.fad 1 r6)),
 q 0 (o d46 (.ld1 r45)),
 q 0 (o d47 (.ixs 1 r44 r46)),
 q 0 (o d48 (.ld1 r47)),
 q 0 (o d49 (.ldn 3 r6)),
 w (.o d50 (.call 47 [r48,r49]))])
 .skip))
 (.seq (.ops [m d4 (.c (.bool true))])
 .ret))
def c28_1 : AC := (.seq (.ops [m d19 r0,
 m d20 r0,
 o d21 (.nilc r20),
 o d22 (.fad 0 r21),
 o d23 (.ld1 r22),
 m d24 r5,
 m d25 r5,
 o d26 (.bin .add r25 (.c (pi 1))),
 .o d27 (.call 46 [r23,r24,r26]),
 o d28 (.nilc r19),
 o d29 (.fad 0 r28),
 o .no (.st1 r29 r27)])
 c28_2)
def c28_0 : AC := (.seq (.ops [m d4 (.c (.bool false))])
 (.seq (.ops [m d7 r0,
 m d8 r1,
 .o d9 (.call 45 [r7,r8]),
 m d5 r9])
 (.seq (.seq (.ops [m d10 r5,
 o d11 (.bin .lt r10 (.c (pi 0)))])
 (.cond r11 (.seq (.ops [m d4 (.c (.bool false))])
 .ret)
 .skip))
 (.seq (.ops [m d12 r0,
 o d13 (.nilc r12),
 o d14 (.fad 0 r13),
 o d15 (.ld1 r14),
 m d16 r5,
 o d17 (.ixs 3 r15 r16),
 o d18 (.ldn 3 r17),
 o d6 (.alloc 106 3 (.k1 (.mk (pi 0) (pi 0) .nils .undef .undef .undef .undef .undef .undef .undef .undef .undef .undef .undef .undef .undef))),
 o .no (.stn 3 r6 r18)])
 c28_1))))
def b28 : AC := c28_0
def s28 : List Rs := [.t .h0 .h4]
def c29_0 : AC := (.seq (.ops [m d5 r0,
 m d6 r1,
 .o d7 (.call 45 [r5,r6]),
 m d4 r7])
 (.seq (.ops [m d8 r4,
 o d9 (.bin .ge r8 (.c (pi 0)))])
 (.cond r9 (.ops [m d10 r0,
 m d11 r0,
 o d12 (.nilc r11),
 o d13 (.fad 0 r12),
 o d14 (.ld1 r13),
 m d15 r4,
 m d16 r4,
 o d17 (.bin .add r16 (.c (pi 1))),
 .o d18 (.call 46 [r14,r15,r17]),
 o d19 (.nilc r10),
 o d20 (.fad 0 r19),
 o .no (.st1 r20 r18)])
 .skip)))
def b29 : AC := c29_0
def s29 : List Rs := []
def c30_0 : AC := (.seq (.ops [m d6 r0,
 m d7 r1,
 .o d8 (.call 45 [r6,r7]),
 m d4 r8])
 (.seq (.ops [m d9 r4,
 o d10 (.bin .ge r9 (.c (pi 0)))])
 (.cond r10 (.seq (.ops [m d11 r0,
 o d12 (.nilc r11),
 o d13 (.fad 0 r12),
 o d14 (.ld1 r13),
 m d15 r4,
 o d16 (.ixs 3 r14 r15),
 o d17 (.ldn 3 r16),
 o d5 (.alloc 106 3 (.k1 (.mk (pi 0) (pi 0) .nils .undef .undef .undef .undef .undef .undef .undef .undef .undef .undef .undef .undef .undef))),
 o .no (.stn 3 r5 r17)])
 (.ops [m d18 r0,
 o d19 (.fad 0 r5),
 o d20 (.ld1 r19),
 o d21 (.fad 1 r5),
 o d22 (.ld1 r21),
 o d23 (.fad 2 r5),
 o d24 (.ld1 r23),
 .o d25 (.call 48 [r18,r20,r22,r24])]))
 .skip)))
def b30 : AC := c30_0
def s30 : List Rs := []
def c31_0 : AC := (.cond r16 (.ops [m d17 r0,
 o d18 (.nilc r17),
 o d19 (.fad 1 r18),
 o d20 (.ld1 r19),
 m d21 r1,
 o d22 (.ixs 1 r20 r21),
 o d23 (.ld1 r22),
 m d24 r2,
 .o d25 (.call 50 [r23,r24])])
 .skip)
def b31 : AC := (.seq (.ops [m d6 r0,
 m d7 r1,
 .o d8 (.call 49 [r6,r7]),
 m d9 r8,
 .g .h0 .h9 true d10 (.op (.mv r2)),
 .g .h0 .h9 true d11 (.op (.bin .ge r10 (.c (pi 1)))),
 o d12 (.pick r9 r11 (.c (.bool false))),
 m d13 r12,
 .g .h0 .hd true d14 (.op (.mv r2)),
 .g .h0 .hd true d15 (.op (.bin .le r14 (.c (pi 1000)))),
 o d16 (.pick r13 r15 (.c (.bool false)))]) c31_0)
def s31 : List Rs := []
def c32_1 : AC := (.cond r9 (.seq (.ops [m d10 r0,
 o d11 (.nilc r10),
 o d12 (.fad 1 r11),
 o d13 (.ld1 r12),
 m d14 r1,
 o d15 (.ixs 1 r13 r14),
 o d16 (.ld1 r15),
 m d6 r16])
 (.seq (.ops [m d17 r6,
 m d18 r6,
 o d19 (.nilc r17),
 o d20 (.fad 4 r19),
 o .no (.st1 r20 (.c (.bool false))),
 o d21 (.nilc r18),
 o d22 (.fad 17 r21),
 o .no (.st1 r22 (.c .nils))])
 (.ops [m d23 r6,
 o d24 (.nilc r23),
 o d25 (.fad 2 r24),
 o d26 (.ld1 r25),
 m d27 r2,
 .o d28 (.call 51 [r26,r27])])))
 .skip)
def c32_0 : AC := (.seq (.ops [m d7 r0,
 m d8 r1,
 .o d9 (.call 38 [r7,r8])])
 c32_1)
def b32 : AC := c32_0
def s32 : List Rs := []
def c33_1 : AC := (.cond r20 (.seq (.ops [m d4 (.c (.bool false))])
 .ret)
 .skip)
def c33_2 : AC := (.seq (.ops [m d21 r0,
 o d22 (.nilc r21),
 o d23 (.fad 1 r22),
 o d24 (.ld1 r23),
 m d25 r1,
 o d26 (.ixs 1 r24 r25),
 o d27 (.ld1 r26),
 .o d28 (.call 43 [r27,(.c (.bool true))])])
 (.seq (.ops [m d4 (.c (.bool true))])
 .ret))
def c33_0 : AC := (.seq (.ops [m d4 (.c (.bool false))])
 (.seq (.seq (.ops [m d5 r0,
 m d6 r1,
 .o d7 (.call 49 [r5,r6]),
 o d8 (.un .not r7),
 m d9 r8,
 .g .h0 .h9 false d10 (.op (.mv r0)),
 .g .h0 .h9 false d11 (.op (.nilc r10)),
 .g .h0 .h9 false d12 (.op (.fad 1 r11)),
 .g .h0 .h9 false d13 (.op (.ld1 r12)),
 .g .h0 .h9 false d14 (.op (.mv r1)),
 .g .h0 .h9 false d15 (.op (.ixs 1 r13 r14)),
 .g .h0 .h9 false d16 (.op (.ld1 r15)),
 .g .h0 .h9 false d17 (.op (.nilc r16)),
 .g .h0 .h9 false d18 (.op (.fad 4 r17)),
 .g .h0 .h9 false d19 (.op (.ld1 r18)),
 o d20 (.pick r9 (.c (.bool true)) r19)]) c33_1) c33_2))
def b33 : AC := c33_0
def s33 : List Rs := [.t .h0 .h4]
def c34_0 : AC := (.seq (.ops [m d8 r0,
 m d9 r1,
 .o d10 (.call 38 [r8,r9])])
 (.cond r10 (.ops [m d11 r0,
 o d12 (.nilc r11),
 o d13 (.fad 1 r12),
 o d14 (.ld1 r13),
 m d15 r1,
 o d16 (.ixs 1 r14 r15),
 o d17 (.ld1 r16),
 m d18 r2,
 m d19 r3,
 .o d20 (.call 52 [r17,r18,r19])])
 .skip))
def b34 : AC := c34_0
def s34 : List Rs := []
def c35_0 : AC := (.seq (.ops [m d2 (.c .nils)])
 (.seq (.ops [m d4 r0,
 o d5 (.nilc r4),
 o d6 (.fad 1 r5),
 o d7 (.ld1 r6),
 o d8 (.nilc r7),
 o d9 (.fad 15 r8),
 o d10 (.ld1 r9),
 m d3 r10])
 (.seq (.ops [m d11 r0,
 o d12 (.nilc r11),
 o d13 (.fad 1 r12),
 o d14 (.ld1 r13),
 o d15 (.nilc r14),
 o d16 (.fad 15 r15),
 o .no (.st1 r16 (.c .nils))])
 (.seq (.ops [m d17 r3,
 m d2 r17])
 .ret))))
def b35 : AC := c35_0
def s35 : List Rs := [.t .h0 .h2]
def c36_2 : AC := (.seq (.ops [o d15 (.bin .lt r14 r13)])
 (.seq (.cond r15 .skip
 (.exit 0))
 (.seq (.block 1 (.seq (.ops [o d16 (.ixs 1 r12 r14),
 o d17 (.ld1 r16),
 m d5 r17])
 (.seq (.ops [m d18 r5,
 o d19 (.nilc r18),
 o d20 (.fad 4 r19),
 o d21 (.ld1 r20)])
 (.cond r21 (.ops [m d22 r3,
 m d23 r5,
 o d24 (.nilc r23),
 o d25 (.fad 10 r24),
 o d26 (.ld1 r25),
 o d27 (.max false [r22,r26]),
 m d3 r27])
 .skip))))
 (.ops [o d28 (.bin .add r14 (.c (pi 1))),
 m d14 r28]))))
def c36_1 : AC := (.seq (.ops [m d9 r0,
 o d10 (.nilc r9),
 o d11 (.fad 1 r10),
 o d12 (.ld1 r11),
 o d13 (.len r12),
 m d14 (.c (pi 0))])
 (.block 0 (.loop c36_2)))
def c36_6 : AC := (.seq (.ops [o d36 (.ixs 1 r32 r34),
 o d37 (.ld1 r36),
 m d8 r37])
 (.seq (.seq (.ops [m d38 r8,
 o d39 (.nilc r38),
 o d40 (.fad 4 r39),
 o d41 (.ld1 r40),
 o d42 (.un .not r41)])
 (.cond r42 (.exit 3)
 .skip))
 (.seq (.seq (.ops [m d43 r8,
 o d44 (.nilc r43),
 o d45 (.fad 9 r44),
 o d46 (.ld1 r45),
 .o d47 (.call 53 [r46]),
 m d48 r3,
 o d49 (.bin .lt r47 r48)])
 (.cond r49 (.seq (.ops [m d50 r8,
 o d51 (.nilc r50),
 o d52 (.fad 24 r51),
 o .no (.st1 r52 (.c (.bool true)))])
 (.ops [m d6 (.c (.bool true))]))
 .skip))
 (.ops [m d53 r6,
 m d54 r53,
 .g .h3 .h6 false d55 (.op (.mv r8)),
 .g .h3 .h6 false d56 (.call 54 [r55]),
 o d57 (.pick r54 (.c (.bool true)) r56),
 m d58 r57,
 .g .h3 .ha false d59 (.op (.mv r8)),
 .g .h3 .ha false d60 (.op (.nilc r59)),
 .g .h3 .ha false d61 (.op (.fad 17 r60)),
 .g .h3 .ha false d62 (.op (.ld1 r61)),
 .g .h3 .ha false d63 (.op (.len r62)),
 .g .h3 .ha false d64 (.op (.bin .gt r63 (.c (pi 0)))),
 o d65 (.pick r58 (.c (.bool true)) r64),
 m d6 r65]))))
def c36_7 : AC := (.ops [o d66 (.bin .add r34 (.c (pi 1))),
 m d34 r66])
def c36_5 : AC := (.seq (.ops [o d35 (.bin .lt r34 r33)])
 (.seq (.cond r35 .skip
 (.exit 2))
 (.seq (.block 3 c36_6) c36_7)))
def c36_4 : AC := (.seq (.ops [m d29 r0,
 o d30 (.nilc r29),
 o d31 (.fad 1 r30),
 o d32 (.ld1 r31),
 o d33 (.len r32),
 m d34 (.c (pi 0))])
 (.block 2 (.loop c36_5)))
def c36_8 : AC := (.seq (.ops [m d67 r6,
 m d2 r67])
 .ret)
def c36_3 : AC := (.seq (.ops [m d6 (.c (.bool false))])
 (.seq c36_4 c36_8))
def c36_0 : AC := (.seq (.ops [m d2 (.c (.bool false))])
 (.seq (.ops [m d3 (.c (pi 0))])
 (.seq c36_1 c36_3)))
def b36 : AC := c36_0
def s36 : List Rs := [.t .h0 .h2]
def c37_1 : AC := (.seq (.ops [o d10 (.bin .lt r9 r8)])
 (.seq (.cond r10 .skip
 (.exit 0))
 (.seq (.block 1 (.seq (.ops [m d11 r9,
 o d12 (.ixs 1 r7 r9),
 o d13 (.ld1 r12),
 m d2 r11,
 m d3 r13])
 (.seq (.ops [m d14 r3,
 o d15 (.nilc r14),
 o d16 (.fad 4 r15),
 o d17 (.ld1 r16)])
 (.cond r17 (.ops [m d18 r0,
 m d19 r2,
 .o d20 (.call 31 [r18,r19,(.c (pi 250))])])
 .skip))))
 (.ops [o d21 (.bin .add r9 (.c (pi 1))),
 m d9 r21]))))
def c37_0 : AC := (.seq (.ops [m d4 r0,
 o d5 (.nilc r4),
 o d6 (.fad 1 r5),
 o d7 (.ld1 r6),
 o d8 (.len r7),
 m d9 (.c (pi 0))])
 (.block 0 (.loop c37_1)))
def b37 : AC := c37_0
def s37 : List Rs := []
def c38_0 : AC := (.seq (.ops [m d4 (.c (.bool false))])
 (.seq (.ops [m d5 r0,
 m d6 r1,
 .o d7 (.call 49 [r5,r6]),
 m d8 r7,
 .g .h0 .h8 true d9 (.op (.mv r0)),
 .g .h0 .h8 true d10 (.op (.nilc r9)),
 .g .h0 .h8 true d11 (.op (.fad 1 r10)),
 .g .h0 .h8 true d12 (.op (.ld1 r11)),
 .g .h0 .h8 true d13 (.op (.mv r1)),
 .g .h0 .h8 true d14 (.op (.ixs 1 r12 r13)),
 .g .h0 .h8 true d15 (.op (.ld1 r14)),
 .g .h0 .h8 true d16 (.op (.nilc r15)),
 .g .h0 .h8 true d17 (.op (.fad 4 r16)),
 .g .h0 .h8 true d18 (.op (.ld1 r17)),
 o d19 (.pick r8 r18 (.c (.bool false))),
 m d4 r19]) .ret))
def b38 : AC := c38_0
def s38 : List Rs := [.t .h0 .h4]
def c39_0 : AC := (.seq (.ops [m d2 (.c .nils)])
 (.seq (.seq (.ops [m d3 r0,
 o d4 (.bin (.isnil .s) r3 (.c .nils))])
 (.cond r4 (.seq (.ops [m d2 (.c .nils)])
 .ret)
 .skip))
 (.seq (.ops [o d5 (.bslice 9 1 0 [] []),
 m d6 r0,
 o d7 (.app 9 1 r5 r6),
 m d2 r7])
 .ret)))
def b39 : AC := c39_0
def s39 : List Rs := [.t .h0 .h2]
def c41_0 : AC := (.seq (.ops [m d2 (.c (pi 0))])
 (.seq (.ops [m d3 r0,
 o d4 (.nilc r3),
 o d5 (.fad 0 r4),
 o d6 (.ld1 r5),
 o d7 (.len r6),
 m d2 r7])
 .ret))
def b41 : AC := c41_0
def s41 : List Rs := [.t .h0 .h2]
def c42_0 : AC := (.seq (.ops [m d0 (.c .nilp)])
 (.seq (.ops [o d1 (.build [.nils,(pi 0)] []),
 o d2 (.box 113 r1),
 m d0 r2])
 .ret))
def b42 : AC := c42_0
def s42 : List Rs := [.t .h0 .h0]
def c43_6 : AC := (.seq (.ops [o d84 (.bin .lt r83 r82)])
 (.seq (.cond r84 .skip
 (.exit 0))
 (.seq (.block 1 (.seq (.ops [o d85 (.ixs 1 r81 r83),
 o d86 (.ld1 r85),
 m d7 r86])
 (.ops [m d87 r0,
 m d88 r7,
 .o d89 (.call 63 [r88]),
 .o d90 (.call 62 [r87,r89])])))
 (.ops [o d91 (.bin .add r83 (.c (pi 1))),
 m d83 r91]))))
def c43_5 : AC := (.seq (.ops [m d81 r4,
 o d82 (.len r81),
 m d83 (.c (pi 0))])
 (.block 0 (.loop c43_6)))
def c43_9 : AC := (.ops [m d125 r0,
 .o d126 (.call 65 [r125])])
def c43_8 : AC := (.seq (.drw [q 0 (m d101 r0),
 q 0 (o d102 (.nilc r101)),
 q 0 (o d103 (.fad 0 r102)),
 q 0 (o d104 (.ld1 r103)),
 q 0 (o d105 (.nilc r104)),
 q 0 (o d106 (.fad 2 r105)),
 q 0 (o d107 (.ld1 r106)),
 q 0 (m d108 r0),
 q 0 (o d109 (.nilc r108)),
 q 0 (o d110 (.fad 1 r109)),
 q 0 (o d111 (.ld1 r110)),
 q 0 (m d112 r0),
 q 0 (o d113 (.nilc r112)),
 q 0 (o d114 (.fad 13 r113)),
 q 0 (o d115 (.fad 1 r114)),
 q 0 (o d116 (.ld1 r115)),
 q 0 (m d117 r0),
 q 0 (o d118 (.nilc r117)),
 q 0 (o d119 (.fad 13 r118)),
 q 0 (o d120 (.fad 3 r119)),
 q 0 (o d121 (.ld1 r120)),
 q 0 (o d122 (.nilc r107)),
 q 0 (m d123 r107),
 w (.o d124 (.inv 0 r123 [r111,r116,r121]))])
 c43_9)
def c43_7 : AC := (.seq (.ops [m d92 r0,
 o d93 (.nilc r92),
 o d94 (.fad 6 r93),
 o d95 (.ld1 r94),
 o d96 (.bin .add r95 (.c (pi 1))),
 o d97 (.nilc r92),
 o d98 (.fad 6 r97),
 o .no (.st1 r98 r96)])
 (.seq (.ops [m d99 r0,
 .o d100 (.call 64 [r99])])
 c43_8))
def c43_4 : AC := (.seq (.ops [m d73 r0,
 o d74 (.nilc r73),
 o d75 (.fad 2 r74),
 o d76 (.ld1 r75),
 .o d77 (.call 61 [r76]),
 .o d78 (.call 60 [r77]),
 m d72 r78,
 o d79 (.ext 0 r72),
 o d80 (.ext 1 r72),
 m d4 r79,
 m d5 r80])
 (.seq c43_5 c43_7))
def c43_3 : AC := (.seq (.ops [m d55 r0,
 m d56 r0,
 m d57 r0,
 m d58 r0,
 m d59 r0,
 o d60 (.nilc r59),
 o d61 (.fad 3 r60),
 o d62 (.ld1 r61),
 m d63 r1,
 o d64 (.nilc r55),
 o d65 (.fad 19 r64),
 o .no (.st1 r65 (.c (pi 0))),
 o d66 (.nilc r56),
 o d67 (.fad 22 r66),
 o .no (.st1 r67 (.c (pi 0))),
 o d68 (.nilc r57),
 o d69 (.fad 23 r68),
 o .no (.st1 r69 r62),
 o d70 (.nilc r58),
 o d71 (.fad 24 r70),
 o .no (.st1 r71 r63)])
 c43_4)
def c43_2 : AC := (.seq (.ops [m d51 r0,
 o d52 (.build [(pi 0),(pi 0),.nilm,(.str [])] []),
 o d53 (.nilc r51),
 o d54 (.fad 13 r53),
 o .no (.stn 4 r54 r52)])
 c43_3)
def c43_1 : AC := (.seq (.ops [m d32 r0,
 m d33 r0,
 m d34 r0,
 m d35 r0,
 m d36 r0,
 m d37 r0,
 o d38 (.mkmap),
 o d39 (.nilc r32),
 o d40 (.fad 11 r39),
 o .no (.st1 r40 r38),
 o d41 (.nilc r33),
 o d42 (.fad 17 r41),
 o .no (.st1 r42 (.c .nils)),
 o d43 (.nilc r34),
 o d44 (.fad 18 r43),
 o .no (.st1 r44 (.c (pi 0))),
 o d45 (.nilc r35),
 o d46 (.fad 6 r45),
 o .no (.st1 r46 (.c (pi 0))),
 o d47 (.nilc r36),
 o d48 (.fad 10 r47),
 o .no (.st1 r48 (.c (pi 0))),
 o d49 (.nilc r37),
 o d50 (.fad 12 r49),
 o .no (.st1 r50 (.c (pi 0)))])
 c43_2)
def c43_0 : AC := (.seq (.ops [m d8 r0,
 o d9 (.nilc r8),
 o d10 (.fad 4 r9),
 o .no (.st1 r10 (.c (.bool true)))])
 (.seq (.drw [w (.o d14 (.call 56 [])),
 w (.o d15 (.call 57 [])),
 q 2 (m d20 r0),
 q 2 (o d21 (.nilc r20)),
 q 2 (o d22 (.fad 0 r21)),
 q 2 (o d23 (.ld1 r22)),
 w (.o d24 (.call 59 [r23])),
 q 3 (m d16 r0),
 q 3 (o d17 (.nilc r16)),
 q 3 (o d18 (.fad 1 r17)),
 q 3 (o d19 (.ld1 r18)),
 w (.o d25 (.call 58 [r19,r24])),
 q 4 (m d11 r0),
 q 0 (o d26 (.nilc r11)),
 q 0 (o d27 (.fad 7 r26)),
 w (o .no (.st1 r27 r14)),
 q 5 (m d12 r0),
 q 0 (o d28 (.nilc r12)),
 q 0 (o d29 (.fad 9 r28)),
 w (o .no (.st1 r29 r15)),
 q 6 (m d13 r0),
 q 0 (o d30 (.nilc r13)),
 q 0 (o d31 (.fad 8 r30)),
 w (o .no (.st1 r31 r25))]) c43_1))
def b43 : AC := c43_0
def s43 : List Rs := []
def c44_3 : AC := (.cond r27 (.exit 1)
 .skip)
def c44_4 : AC := (.seq (.seq (.ops [m d28 r2,
 o d29 (.un .not r28)])
 (.cond r29 .ret
 .skip))
 (.seq (.drw [q 0 (m d31 r0),
 q 0 (o d32 (.nilc r31)),
 q 0 (o d33 (.fad 17 r32)),
 q 0 (o d34 (.ld1 r33)),
 q 0 (m d35 r6),
 q 0 (m d36 r6),
 q 0 (o d37 (.slc 6 r34 .none (.some r35) (.some r36))),
 q 0 (m d38 r0),
 q 0 (o d39 (.nilc r38)),
 q 0 (o d40 (.fad 17 r39)),
 q 0 (o d41 (.ld1 r40)),
 q 0 (m d42 r6),
 q 0 (o d43 (.bin .add r42 (.c (pi 1)))),
 q 0 (o d44 (.slc 6 r41 (.some r43) .none .none)),
 w (o d45 (.app 127 6 r37 r44)),
 q 1 (m d30 r0),
 q 0 (o d46 (.nilc r30)),
 q 0 (o d47 (.fad 17 r46)),
 w (o .no (.st1 r47 r45))]) (.exit 0)))
def c44_2 : AC := (.seq (.ops [m d15 r13,
 o d16 (.ixs 6 r11 r13),
 o d17 (.ldn 6 r16),
 o d7 (.alloc 127 6 (.k1 (.mk (pi 0) (pi 0) (pi 0) (.bool false) (.str []) (pi 0) .undef .undef .undef .undef .undef .undef .undef .undef .undef .undef))),
 m d6 r15,
 o .no (.stn 6 r7 r17)])
 (.seq (.seq (.ops [o d18 (.fad 4 r7),
 o d19 (.ld1 r18),
 m d20 r1,
 o d21 (.bin .sne r19 r20),
 m d22 r21,
 .g .h1 .h6 false d23 (.op (.fad 3 r7)),
 .g .h1 .h6 false d24 (.op (.ld1 r23)),
 .g .h1 .h6 false d25 (.op (.mv r2)),
 .g .h1 .h6 false d26 (.op (.bin .bne r24 r25)),
 o d27 (.pick r22 (.c (.bool true)) r26)]) c44_3) c44_4))
def c44_5 : AC := (.ops [o d48 (.bin .add r13 (.c (pi 1))),
 m d13 r48])
def c44_1 : AC := (.seq (.ops [o d14 (.bin .lt r13 r12)])
 (.seq (.cond r14 .skip
 (.exit 0))
 (.seq (.block 1 c44_2) c44_5)))
def c44_0 : AC := (.seq (.ops [m d8 r0,
 o d9 (.nilc r8),
 o d10 (.fad 17 r9),
 o d11 (.ld1 r10),
 o d12 (.len r11),
 m d13 (.c (pi 0))])
 (.block 0 (.loop c44_1)))
def c44_7 : AC := (.seq (.ops [m d81 r0,
 o d82 (.nilc r81),
 o d83 (.fad 19 r82),
 o d84 (.ld1 r83)])
 (.block 2 (.seq (.ops [o d86 (.bin .eq r84 (.c (pi 2))),
 m d85 r86])
 (.cond r85 (.ops [m d87 r0,
 .o d88 (.call 66 [r87])])
 (.seq (.ops [o d90 (.bin .eq r84 (.c (pi 0))),
 m d89 r90])
 (.cond r89 (.seq (.ops [m d91 r0,
 m d92 r0,
 o d93 (.nilc r92),
 o d94 (.fad 3 r93),
 o d95 (.ld1 r94),
 o d96 (.nilc r91),
 o d97 (.fad 23 r96),
 o .no (.st1 r97 r95)])
 (.ops [m d98 r0,
 .o d99 (.call 67 [r98])]))
 .skip))))))
def c44_6 : AC := (.seq (.ops [m d49 r0,
 o d50 (.nilc r49),
 o d51 (.fad 18 r50),
 o d52 (.ld1 r51),
 o d53 (.bin .add r52 (.c (pi 1))),
 o d54 (.nilc r49),
 o d55 (.fad 18 r54),
 o .no (.st1 r55 r53)])
 (.seq (.drw [q 0 (m d61 r0),
 q 0 (o d62 (.nilc r61)),
 q 0 (o d63 (.fad 1 r62)),
 q 0 (o d64 (.ld1 r63)),
 q 0 (m d65 r0),
 q 0 (o d66 (.nilc r65)),
 q 0 (o d67 (.fad 6 r66)),
 q 0 (o d68 (.ld1 r67)),
 q 0 (m d69 r0),
 q 0 (o d70 (.nilc r69)),
 q 0 (o d71 (.fad 18 r70)),
 q 0 (o d72 (.ld1 r71)),
 q 0 (o d73 (.build [(pi 0),(pi 0),(pi 0)] [.mk 0 1 r64,.mk 1 1 r68,.mk 2 1 r72])),
 q 0 (m d74 r2),
 q 0 (m d75 r1),
 q 0 (o d76 (.build [(pi 0),(pi 0),(pi 0),(.bool false),(.str []),(pi 0)] [.mk 0 3 r73,.mk 3 1 r74,.mk 4 1 r75,.mk 5 1 (.c (ni 0))])),
 w (o d77 (.bslice 127 6 1 [(pi 0),(pi 0),(pi 0),(.bool false),(.str []),(pi 0)] [.mk 0 6 r76])),
 q 1 (m d57 r0),
 q 1 (o d58 (.nilc r57)),
 q 1 (o d59 (.fad 17 r58)),
 q 1 (o d60 (.ld1 r59)),
 w (o d78 (.app 127 6 r60 r77)),
 q 2 (m d56 r0),
 q 0 (o d79 (.nilc r56)),
 q 0 (o d80 (.fad 17 r79)),
 w (o .no (.st1 r80 r78))]) c44_7))
def b44 : AC := (.seq c44_0 c44_6)
def s44 : List Rs := []
def c45_1 : AC := (.seq (.ops [m d16 r1,
 m d17 r0,
 o d18 (.nilc r17),
 o d19 (.fad 0 r18),
 o d20 (.ld1 r19),
 o d21 (.len r20),
 o d22 (.bin .rem r16 r21),
 m d4 r22])
 .ret)
def c45_0 : AC := (.seq (.ops [m d4 (.c (pi 0))])
 (.seq (.seq (.ops [m d5 r0,
 o d6 (.nilc r5),
 o d7 (.fad 0 r6),
 o d8 (.ld1 r7),
 o d9 (.len r8),
 o d10 (.bin .eq r9 (.c (pi 0)))])
 (.cond r10 (.seq (.ops [m d4 (.c (ni 0))])
 .ret)
 .skip))
 (.seq (.seq (.ops [m d11 r1,
 o d12 (.bin .lt r11 (.c (pi 0)))])
 (.cond r12 (.ops [m d13 r1,
 o d14 (.bin .add r13 (.c (pi 1))),
 o d15 (.un .neg r14),
 m d1 r15])
 .skip))
 c45_1)))
def b45 : AC := c45_0
def s45 : List Rs := [.t .h0 .h4]
def c46_1 : AC := (.seq (.drw [q 0 (m d20 r0),
 q 0 (m d21 r1),
 q 0 (o d22 (.slc 3 r20 .none (.some r21) .none)),
 q 0 (m d23 r0),
 q 0 (m d24 r2),
 q 0 (o d25 (.slc 3 r23 (.some r24) .none .none)),
 w (o d26 (.app 106 3 r22 r25)),
 q 0 (m d0 r26)])
 (.seq (.ops [m d27 r0,
 m d28 r0,
 o d29 (.len r28),
 m d30 r7,
 o d31 (.slc 3 r27 (.some r29) (.some r30) .none),
 o .no (.clr [(pi 0),(pi 0),.nils] r31)])
 (.seq (.ops [m d32 r0,
 m d6 r32])
 .ret)))
def c46_0 : AC := (.seq (.ops [m d6 (.c .nils)])
 (.seq (.ops [m d8 r0,
 m d9 r1,
 m d10 r2,
 m d11 r0,
 o d12 (.len r11),
 o d13 (.slc 3 r8 (.some r9) (.some r10) (.some r12))])
 (.seq (.seq (.ops [m d14 r1,
 m d15 r2,
 o d16 (.bin .eq r14 r15)])
 (.cond r16 (.seq (.ops [m d17 r0,
 m d6 r17])
 .ret)
 .skip))
 (.seq (.ops [m d18 r0,
 o d19 (.len r18),
 m d7 r19])
 c46_1))))
def b46 : AC := c46_0
def s46 : List Rs := [.t .h0 .h6]
def c47_5 : AC := (.ops [m d32 r0,
 o d33 (.fad 0 r3),
 o d34 (.ld1 r33),
 o d35 (.ldn 2 r6),
 m d36 r4,
 .o d37 (.call 71 [r32,r34,r35,r36])])
def c47_7 : AC := (.ops [m d40 r0,
 o d41 (.fad 0 r3),
 o d42 (.ld1 r41),
 o d43 (.ldn 2 r6),
 m d44 r4,
 .o d45 (.call 72 [r40,r42,r43,r44])])
def c47_9 : AC := (.ops [m d48 r0,
 o d49 (.fad 0 r3),
 o d50 (.ld1 r49),
 o d51 (.ldn 2 r6),
 m d52 r4,
 .o d53 (.call 73 [r48,r50,r51,r52])])
def c47_11 : AC := (.seq (.ops [o d64 (.bin .eq r29 (.c (pi 5))),
 m d63 r64])
 (.cond r63 (.ops [m d65 r0,
 o d66 (.ldn 2 r6),
 .o d67 (.call 76 [r65,r66])])
 .skip))
def c47_10 : AC := (.seq (.ops [o d55 (.bin .eq r29 (.c (pi 4))),
 m d54 r55])
 (.cond r54 (.drw [q 0 (m d60 r4),
 w (.o d61 (.call 75 [r60])),
 q 1 (m d56 r0),
 q 1 (o d57 (.fad 0 r3)),
 q 1 (o d58 (.ld1 r57)),
 q 1 (o d59 (.ldn 2 r6)),
 w (.o d62 (.call 74 [r56,r58,r59,r61]))]) c47_11))
def c47_8 : AC := (.seq (.ops [o d47 (.bin .eq r29 (.c (pi 3))),
 m d46 r47])
 (.cond r46 c47_9 c47_10))
def c47_6 : AC := (.seq (.ops [o d39 (.bin .eq r29 (.c (pi 2))),
 m d38 r39])
 (.cond r38 c47_7 c47_8))
def c47_4 : AC := (.seq (.ops [o d31 (.bin .eq r29 (.c (pi 1))),
 m d30 r31])
 (.cond r30 c47_5 c47_6))
def c47_3 : AC := (.seq (.ops [m d29 r5])
 (.block 1 c47_4))
def c47_13 : AC := (.seq (.ops [o d72 (.bin .lt r71 r70)])
 (.seq (.cond r72 .skip
 (.exit 2))
 (.seq (.block 3 (.seq (.ops [o d73 (.ixs 4 r69 r71),
 o d74 (.ldn 4 r73),
 o d8 (.alloc 138 4 (.k1 (.mk (pi 0) (pi 0) (pi 0) (.str []) .undef .undef .undef .undef .undef .undef .undef .undef .undef .undef .undef .undef))),
 o .no (.stn 4 r8 r74)])
 (.ops [m d75 r0,
 o d76 (.fad 0 r8),
 o d77 (.ld1 r76),
 o d78 (.fad 3 r8),
 o d79 (.ld1 r78),
 .o d80 (.call 78 [r75,r77,r79])])))
 (.ops [o d81 (.bin .add r71 (.c (pi 1))),
 m d71 r81]))))
def c47_12 : AC := (.seq (.ops [m d68 r4,
 .o d69 (.call 77 [r68]),
 o d70 (.len r69),
 m d71 (.c (pi 0))])
 (.block 2 (.loop c47_13)))
def c47_14 : AC := (.ops [m d88 r0,
 m d89 r4,
 .o d90 (.call 81 [r89]),
 .o d91 (.call 80 [r88,r90])])
def c47_2 : AC := (.seq (.ops [m d21 r4,
 .o d22 (.call 69 [r21]),
 o .no (.stn 2 r6 r22)])
 (.seq (.drw [q 0 (m d23 r0),
 q 0 (o d24 (.nilc r23)),
 q 0 (o d25 (.fad 8 r24)),
 q 0 (o d26 (.ld1 r25)),
 q 0 (o d27 (.ldn 2 r6)),
 w (.o d28 (.call 70 [r26,r27]))])
 (.seq c47_3 (.seq .ret (.seq (.label 0) (.seq c47_12 (.seq .ret (.seq (.label 1) (.seq (.drw [q 0 (m d85 r4),
 w (.o d86 (.call 75 [r85])),
 q 1 (m d82 r0),
 q 1 (o d83 (.fad 0 r3)),
 q 1 (o d84 (.ld1 r83)),
 w (.o d87 (.call 79 [r82,r84,r86]))]) (.seq .ret (.seq (.label 2) c47_14)))))))))))
def c47_1 : AC := (.seq (.ops [o d9 (.fad 2 r3),
 o d10 (.ld1 r9),
 .o d11 (.call 63 [r10]),
 m d4 r11])
 (.seq (.ops [m d12 r4,
 .o d13 (.call 68 [r12]),
 m d5 r13])
 (.seq (.ops [o d6 (.alloc 129 2 (.k1 (.mk (pi 0) (pi 0) .undef .undef .undef .undef .undef .undef .undef .undef .undef .undef .undef .undef .undef .undef)))])
 (.seq (.seq (.ops [m d14 r5])
 (.block 0 (.seq (.ops [o d16 (.bin .eq r14 (.c (pi 6))),
 m d15 r16])
 (.cond r15 (.goto 0)
 (.seq (.ops [o d18 (.bin .eq r14 (.c (pi 7))),
 m d17 r18])
 (.cond r17 (.goto 1)
 (.seq (.ops [o d20 (.bin .eq r14 (.c (pi 8))),
 m d19 r20])
 (.cond r19 (.goto 2)
 .skip))))))))
 c47_2))))
def c47_0 : AC := (.seq (.ops [o d3 (.box 106 r1)])
 (.scope c47_1))
def b47 : AC := c47_0
def s47 : List Rs := []
def c48_0 : AC := (.seq (.ops [m d8 r0,
 o d9 (.nilc r8),
 o d10 (.fad 0 r9),
 o d11 (.ld1 r10),
 o d12 (.len r11),
 o d13 (.bin .lt r12 (.c (pi 4000)))])
 (.cond r13 (.ops [m d14 r0,
 m d15 r0,
 o d16 (.nilc r15),
 o d17 (.fad 0 r16),
 o d18 (.ld1 r17),
 m d19 r1,
 m d20 r2,
 m d21 r3,
 o d22 (.build [(pi 0),(pi 0),.nils] [.mk 0 1 r19,.mk 1 1 r20,.mk 2 1 r21]),
 o d23 (.bslice 106 3 1 [(pi 0),(pi 0),.nils] [.mk 0 3 r22]),
 o d24 (.app 106 3 r18 r23),
 o d25 (.nilc r14),
 o d26 (.fad 0 r25),
 o .no (.st1 r26 r24)])
 .skip))
def b48 : AC := c48_0
def s48 : List Rs := []
def c49_0 : AC := (.seq (.ops [m d4 (.c (.bool false))])
 (.seq (.ops [m d5 r1,
 o d6 (.bin .ge r5 (.c (pi 0))),
 m d7 r6,
 .g .h0 .h7 true d8 (.op (.mv r1)),
 .g .h0 .h7 true d9 (.op (.mv r0)),
 .g .h0 .h7 true d10 (.op (.nilc r9)),
 .g .h0 .h7 true d11 (.op (.fad 1 r10)),
 .g .h0 .h7 true d12 (.op (.ld1 r11)),
 .g .h0 .h7 true d13 (.op (.len r12)),
 .g .h0 .h7 true d14 (.op (.bin .lt r8 r13)),
 o d15 (.pick r7 r14 (.c (.bool false))),
 m d4 r15]) .ret))
def b49 : AC := c49_0
def s49 : List Rs := [.t .h0 .h4]
def c50_1 : AC := (.cond r59 .ret
 .skip)
def c50_5 : AC := (.cond r94 (.ops [m d108 r0,
 .o d109 (.call 86 [r108])])
 (.ops [m d89 r0,
 .o d90 (.call 67 [r89])]))
def c50_4 : AC := (.seq (.ops [m d92 r4,
 o d93 (.un .not r92),
 m d91 r93])
 (.cond r91 .skip (.seq (.ops [m d95 r0,
 o d96 (.nilc r95),
 o d97 (.fad 19 r96),
 o d98 (.ld1 r97),
 o d99 (.bin .eq r98 (.c (pi 2))),
 m d100 r99,
 .g .h6 .h4 true d101 (.op (.mv r0)),
 .g .h6 .h4 true d102 (.op (.nilc r101)),
 .g .h6 .h4 true d103 (.op (.fad 22 r102)),
 .g .h6 .h4 true d104 (.op (.ld1 r103)),
 .g .h6 .h4 true d105 (.op (.bin .rem r104 (.c (pi 3)))),
 .g .h6 .h4 true d106 (.op (.bin .ne r105 (.c (pi 0)))),
 o d107 (.pick r100 r106 (.c (.bool false))),
 m d94 r107]) c50_5)))
def c50_3 : AC := (.seq (.seq (.ops [m d74 r0,
 o d75 (.nilc r74),
 o d76 (.fad 24 r75),
 o d77 (.ld1 r76)])
 (.cond r77 (.seq (.ops [m d78 r0,
 o d79 (.nilc r78),
 o d80 (.fad 24 r79),
 o .no (.st1 r80 (.c (.bool false)))])
 (.seq (.ops [m d81 r0,
 o d82 (.nilc r81),
 o d83 (.fad 9 r82),
 o d84 (.ld1 r83),
 .o d85 (.call 53 [r84]),
 o d5 (.alloc 3 1 (.k1 (.mk (pi 0) .undef .undef .undef .undef .undef .undef .undef .undef .undef .undef .undef .undef .undef .undef .undef))),
 o .no (.st1 r5 r85)])
 (.ops [m d86 r0,
 o d87 (.mkf 84 [r5]),
 .o d88 (.call 83 [r86,(.c (pi 7)),r87])])))
 .skip))
 (.block 0 c50_4))
def c50_2 : AC := (.seq (.ops [m d60 r0,
 m d61 r0,
 o d62 (.nilc r61),
 o d63 (.fad 3 r62),
 o d64 (.ld1 r63),
 o d65 (.nilc r60),
 o d66 (.fad 23 r65),
 o .no (.st1 r66 r64)])
 (.seq (.ops [m d67 r0,
 o d68 (.nilc r67),
 o d69 (.fad 22 r68),
 o d70 (.ld1 r69),
 o d71 (.bin .add r70 (.c (pi 1))),
 o d72 (.nilc r67),
 o d73 (.fad 22 r72),
 o .no (.st1 r73 r71)])
 c50_3))
def c50_0 : AC := (.seq (.ops [m d6 r0,
 o d7 (.nilc r6),
 o d8 (.fad 3 r7),
 o d9 (.ld1 r8),
 m d10 r1,
 o d11 (.bin .add r9 r10),
 o d12 (.nilc r6),
 o d13 (.fad 3 r12),
 o .no (.st1 r13 r11)])
 (.seq (.ops [m d14 r0,
 o d15 (.nilc r14),
 o d16 (.fad 4 r15),
 o d17 (.ld1 r16),
 m d18 r17,
 .g .h1 .h2 true d19 (.op (.mv r0)),
 .g .h1 .h2 true d20 (.op (.nilc r19)),
 .g .h1 .h2 true d21 (.op (.fad 17 r20)),
 .g .h1 .h2 true d22 (.op (.ld1 r21)),
 .g .h1 .h2 true d23 (.op (.len r22)),
 .g .h1 .h2 true d24 (.op (.bin .gt r23 (.c (pi 0)))),
 .g .h1 .h2 true d25 (.op (.mv r24)),
 .g .h1 .h9 false d26 (.op (.mv r0)),
 .g .h1 .h9 false d27 (.call 54 [r26]),
 .g .h1 .h2 true d28 (.op (.pick r25 (.c (.bool true)) r27)),
 o d29 (.pick r18 r28 (.c (.bool false))),
 m d4 r29]) (.seq (.seq (.drw [q 0 (m d30 r0),
 q 0 (o d31 (.nilc r30)),
 q 0 (o d32 (.fad 4 r31)),
 q 0 (o d33 (.ld1 r32)),
 q 0 (o d34 (.un .not r33)),
 q 0 (m d35 r34),
 q 0 (.g .h2 .h3 false d36 (.op (.mv r4))),
 q 0 (.g .h2 .h3 false d37 (.op (.un .not r36))),
 q 0 (.g .h2 .h3 false d38 (.op (.mv r37))),
 q 0 (.g .h2 .h6 true d39 (.op (.mv r0))),
 q 0 (.g .h2 .h6 true d40 (.op (.nilc r39))),
 q 0 (.g .h2 .h6 true d41 (.op (.fad 24 r40))),
 q 0 (.g .h2 .h6 true d42 (.op (.ld1 r41))),
 q 0 (.g .h2 .h6 true d43 (.op (.un .not r42))),
 q 0 (.g .h2 .h3 false d44 (.op (.pick r38 r43 (.c (.bool false))))),
 q 0 (o d45 (.pick r35 (.c (.bool true)) r44)),
 q 0 (m d46 r45),
 q 0 (.g .h2 .he false d56 (.op (.mv r0))),
 w (.g .h2 .he false d57 (.call 82 [r56])),
 q 1 (.g .h2 .he false d47 (.op (.mv r0))),
 q 1 (.g .h2 .he false d48 (.op (.nilc r47))),
 q 1 (.g .h2 .he false d49 (.op (.fad 3 r48))),
 q 1 (.g .h2 .he false d50 (.op (.ld1 r49))),
 q 1 (.g .h2 .he false d51 (.op (.mv r0))),
 q 1 (.g .h2 .he false d52 (.op (.nilc r51))),
 q 1 (.g .h2 .he false d53 (.op (.fad 23 r52))),
 q 1 (.g .h2 .he false d54 (.op (.ld1 r53))),
 q 1 (.g .h2 .he false d55 (.op (.bin .sub r50 r54))),
 q 0 (.g .h2 .he false d58 (.op (.bin .lt r55 r57))),
 q 0 (o d59 (.pick r46 (.c (.bool true)) r58))]) c50_1) c50_2)))
def b50 : AC := c50_0
def s50 : List Rs := []
def c51_1 : AC := (.ops [m d30 r0,
 m d31 r0,
 o d32 (.nilc r31),
 o d33 (.fad 0 r32),
 o d34 (.ld1 r33),
 o d35 (.len r34),
 o d36 (.nilc r30),
 o d37 (.fad 1 r36),
 o .no (.st1 r37 r35)])
def c51_0 : AC := (.seq (.drw [q 0 (m d4 r0),
 q 0 (m d5 r0),
 q 0 (o d6 (.nilc r5)),
 q 0 (o d7 (.fad 0 r6)),
 q 0 (o d8 (.ld1 r7)),
 q 0 (m d9 r0),
 q 0 (o d10 (.nilc r9)),
 q 0 (o d11 (.fad 1 r10)),
 q 0 (o d12 (.ld1 r11)),
 q 0 (m d13 r1),
 q 0 (o d14 (.max false [r13,(.c (pi 0))])),
 q 0 (m d15 r0),
 q 0 (o d16 (.nilc r15)),
 q 0 (o d17 (.fad 0 r16)),
 q 0 (o d18 (.ld1 r17)),
 q 0 (o d19 (.len r18)),
 q 0 (m d20 r0),
 q 0 (o d21 (.nilc r20)),
 q 0 (o d22 (.fad 1 r21)),
 q 0 (o d23 (.ld1 r22)),
 q 0 (o d24 (.bin .sub r19 r23)),
 q 0 (o d25 (.max true [r14,r24])),
 q 0 (o d26 (.bin .add r12 r25)),
 q 0 (o d27 (.slc 1 r8 .none (.some r26) .none)),
 q 0 (o d28 (.nilc r4)),
 q 0 (o d29 (.fad 0 r28)),
 w (o .no (.st1 r29 r27))])
 c51_1)
def b51 : AC := c51_0
def s51 : List Rs := []
def c52_0 : AC := (.cond r25 .ret
 .skip)
def c52_3 : AC := (.seq (.cond r41 .skip
 (.exit 0))
 (.block 1 (.seq (.ops [o d42 (.ent r39),
 o d43 (.ext 1 r42),
 o d8 (.alloc 146 2 (.k1 (.mk (pi 0) (pi 0) .undef .undef .undef .undef .undef .undef .undef .undef .undef .undef .undef .undef .undef .undef))),
 o .no (.stn 2 r8 r43)])
 (.seq (.ops [o d44 (.fad 1 r8),
 o d45 (.ld1 r44),
 m d46 r1,
 o d47 (.bin .ge r45 r46)])
 (.cond r47 (.ops [o d48 (.fad 0 r6),
 o d49 (.ld1 r48),
 o d50 (.fad 0 r8),
 o d51 (.ld1 r50),
 o d52 (.max true [r49,r51]),
 o d53 (.fad 0 r6),
 o .no (.st1 r53 r52)])
 .skip)))))
def c52_2 : AC := (.seq (.ops [m d35 r0,
 o d36 (.nilc r35),
 o d37 (.fad 11 r36),
 o d38 (.ld1 r37),
 o d39 (.rngm r38)])
 (.join (.block 0 (.loop (.seq (.ops [.o d40 (.nxt false r39),
 o d41 (.ext 0 r40)]) c52_3)))))
def c52_7 : AC := (.cond r72 (.ops [o d73 (.fad 2 r6),
 o d74 (.ld1 r73),
 o d75 (.ldn 3 r9),
 o d76 (.fad 1 r10),
 o d77 (.ld1 r76),
 o .no (.mup (.agg [.i,.i,.i]) r74 r75 r77)])
 .skip)
def c52_6 : AC := (.seq (.ops [o d61 (.ent r58),
 o d62 (.ext 0 r61),
 o d63 (.ext 1 r61),
 o d9 (.alloc 125 3 (.k1 (.mk (pi 0) (pi 0) (pi 0) .undef .undef .undef .undef .undef .undef .undef .undef .undef .undef .undef .undef .undef))),
 o d10 (.alloc 146 2 (.k1 (.mk (pi 0) (pi 0) .undef .undef .undef .undef .undef .undef .undef .undef .undef .undef .undef .undef .undef .undef))),
 o .no (.stn 3 r9 r62),
 o .no (.stn 2 r10 r63)])
 (.seq (.ops [o d64 (.fad 1 r10),
 o d65 (.ld1 r64),
 o d66 (.bin .ge r65 (.c (pi 0))),
 m d67 r66,
 .g .h4 .h3 true d68 (.op (.fad 1 r10)),
 .g .h4 .h3 true d69 (.op (.ld1 r68)),
 .g .h4 .h3 true d70 (.op (.mv r1)),
 .g .h4 .h3 true d71 (.op (.bin .lt r69 r70)),
 o d72 (.pick r67 r71 (.c (.bool false)))]) c52_7))
def c52_5 : AC := (.seq (.cond r60 .skip
 (.exit 2))
 (.block 3 c52_6))
def c52_4 : AC := (.seq (.ops [m d54 r0,
 o d55 (.nilc r54),
 o d56 (.fad 11 r55),
 o d57 (.ld1 r56),
 o d58 (.rngm r57)])
 (.join (.block 2 (.loop (.seq (.ops [.o d59 (.nxt false r58),
 o d60 (.ext 0 r59)]) c52_5)))))
def c52_8 : AC := (.seq (.ops [m d78 r0,
 o d79 (.ldn 4 r6),
 .o d80 (.call 88 [r78,r79])])
 (.ops [m d81 r0,
 .o d82 (.call 64 [r81])]))
def c52_1 : AC := (.seq (.ops [m d26 r0,
 o d27 (.nilc r26),
 o d28 (.fad 9 r27),
 o d29 (.ld1 r28),
 .o d30 (.call 87 [r29]),
 m d31 r1,
 o d32 (.mkmap),
 m d33 r2,
 o d34 (.build [(pi 0),(pi 0),.nilm,(.str [])] [.mk 0 1 r30,.mk 1 1 r31,.mk 2 1 r32,.mk 3 1 r33]),
 o d6 (.alloc 97 4 (.k1 (.mk (pi 0) (pi 0) .nilm (.str []) .undef .undef .undef .undef .undef .undef .undef .undef .undef .undef .undef .undef))),
 o .no (.stn 4 r6 r34)])
 (.seq c52_2 (.seq c52_4 c52_8)))
def b52 : AC := (.seq (.seq (.ops [m d11 r1,
 m d12 r0,
 o d13 (.nilc r12),
 o d14 (.fad 13 r13),
 o d15 (.fad 1 r14),
 o d16 (.ld1 r15),
 o d17 (.bin .le r11 r16),
 m d18 r17,
 .g .h1 .h2 false d19 (.op (.mv r1)),
 .g .h1 .h2 false d20 (.op (.mv r0)),
 .g .h1 .h2 false d21 (.op (.nilc r20)),
 .g .h1 .h2 false d22 (.op (.fad 12 r21)),
 .g .h1 .h2 false d23 (.op (.ld1 r22)),
 .g .h1 .h2 false d24 (.op (.bin .gt r19 r23)),
 o d25 (.pick r18 (.c (.bool true)) r24)]) c52_0) c52_1)
def s52 : List Rs := []
def c53_1 : AC := (.block 1 (.seq (.seq (.ops [m d11 r0,
 o d12 (.nilc r11),
 o d13 (.fad 0 r12),
 o d14 (.ld1 r13),
 m d15 r3,
 o d16 (.lkp (.one .i) (.str []) true r14 r15),
 m d10 r16,
 o d17 (.ext 0 r10),
 o d18 (.ext 1 r10),
 m d4 r17,
 m d5 r18])
 (.seq (.ops [m d19 r5,
 o d20 (.un .not r19)])
 (.cond r20 (.seq (.ops [m d21 r3,
 m d2 r21])
 .ret)
 .skip)))
 (.ops [m d22 r3,
 o d23 (.bin .add r22 (.c (pi 1))),
 m d3 r23])))
def c53_0 : AC := (.seq (.ops [m d2 (.c (pi 0))])
 (.seq (.ops [m d6 r0,
 o d7 (.nilc r6),
 o d8 (.fad 1 r7),
 o d9 (.ld1 r8),
 m d3 r9])
 (.block 0 (.loop c53_1))))
def b53 : AC := c53_0
def s53 : List Rs := [.t .h0 .h2]
def c54_2 : AC := (.ops [o d34 (.bin .add r18 (.c (pi 1))),
 m d18 r34])
def c54_1 : AC := (.seq (.ops [o d19 (.bin .lt r18 r17)])
 (.seq (.cond r19 .skip
 (.exit 0))
 (.seq (.block 1 (.seq (.ops [o d20 (.ixs 4 r16 r18),
 o d21 (.ldn 4 r20),
 o d4 (.alloc 138 4 (.k1 (.mk (pi 0) (pi 0) (pi 0) (.str []) .undef .undef .undef .undef .undef .undef .undef .undef .undef .undef .undef .undef))),
 o .no (.stn 4 r4 r21)])
 (.seq (.drw [q 0 (m d23 r0),
 q 0 (o d24 (.nilc r23)),
 q 0 (o d25 (.fad 9 r24)),
 q 0 (o d26 (.ld1 r25)),
 q 0 (o d27 (.fad 0 r4)),
 q 0 (o d28 (.ld1 r27)),
 w (.o d29 (.call 90 [r26,r28])),
 q 0 (m d22 r29),
 q 0 (o d30 (.ext 0 r22)),
 q 0 (o d31 (.ext 1 r22)),
 q 0 (m d5 r30),
 q 0 (m d6 r31)])
 (.seq (.ops [m d32 r6,
 o d33 (.un .not r32)])
 (.cond r33 (.seq (.ops [m d2 (.c (.bool true))])
 .ret)
 .skip)))))
 c54_2)))
def c54_0 : AC := (.seq (.ops [m d2 (.c (.bool false))])
 (.seq (.seq (.drw [q 0 (m d11 r0),
 q 0 (o d12 (.nilc r11)),
 q 0 (o d13 (.fad 9 r12)),
 q 0 (o d14 (.ld1 r13)),
 w (.o d15 (.call 53 [r14])),
 q 1 (m d7 r0),
 q 1 (o d8 (.nilc r7)),
 q 1 (o d9 (.fad 7 r8)),
 q 1 (o d10 (.ld1 r9)),
 w (.o d16 (.call 89 [r10,r15])),
 q 0 (o d17 (.len r16)),
 q 2 (m d18 (.c (pi 0)))]) (.block 0 (.loop c54_1))) (.seq (.drw [q 0 (m d39 r0),
 q 0 (o d40 (.nilc r39)),
 q 0 (o d41 (.fad 9 r40)),
 q 0 (o d42 (.ld1 r41)),
 w (.o d43 (.call 53 [r42])),
 q 1 (m d35 r0),
 q 1 (o d36 (.nilc r35)),
 q 1 (o d37 (.fad 10 r36)),
 q 1 (o d38 (.ld1 r37)),
 q 0 (o d44 (.bin .gt r38 r43)),
 q 0 (m d2 r44)]) .ret)))
def b54 : AC := c54_0
def s54 : List Rs := [.t .h0 .h2]
def c56_0 : AC := (.seq (.ops [m d0 (.c .nilp)])
 (.seq (.ops [o d1 (.mkmap),
 o d2 (.build [(pi 0),(pi 0),.nilm,(pi 0)] [.mk 2 1 r1]),
 o d3 (.box 155 r2),
 m d0 r3])
 .ret))
def b56 : AC := c56_0
def s56 : List Rs := [.t .h0 .h0]
def c57_0 : AC := (.seq (.ops [m d0 (.c .nilp)])
 (.seq (.ops [o d1 (.mkmap),
 o d2 (.build [.nilm,(pi 0)] [.mk 0 1 r1]),
 o d3 (.box 149 r2),
 m d0 r3])
 .ret))
def b57 : AC := c57_0
def s57 : List Rs := [.t .h0 .h0]
def c58_0 : AC := (.seq (.ops [m d4 (.c .nilp)])
 (.seq (.ops [m d5 r0,
 m d6 r1,
 o d7 (.build [(pi 0),(pi 0),(pi 0),(pi 0),(pi 0),(pi 0),.nilm,.nilm,.nilm] [.mk 0 1 r5,.mk 1 1 r6]),
 o d8 (.box 158 r7),
 m d4 r8])
 .ret))
def b58 : AC := c58_0
def s58 : List Rs := [.t .h0 .h4]
def c59_0 : AC := (.seq (.ops [m d2 (.c (pi 0))])
 (.seq (.ops [m d3 r0,
 o d4 (.nilc r3),
 o d5 (.fad 1 r4),
 o d6 (.ld1 r5),
 o d7 (.len r6),
 m d2 r7])
 .ret))
def b59 : AC := c59_0
def s59 : List Rs := [.t .h0 .h2]
def c60_3 : AC := (.cond r35 (.exit 0)
 .skip)
def c60_5 : AC := (.ops [m d54 r5,
 m d55 r6,
 o d56 (.bin .add (.c (pi 8)) r55),
 o d57 (.bin .add r54 r56),
 m d5 r57])
def c60_4 : AC := (.seq (.ops [m d37 r0,
 m d38 r5,
 o d39 (.bin .add r38 (.c (pi 8))),
 m d40 r5,
 o d41 (.bin .add r40 (.c (pi 8))),
 m d42 r6,
 o d43 (.bin .add r41 r42),
 o d44 (.slc 1 r37 (.some r39) (.some r43) .none),
 .o d45 (.call 91 [r44]),
 m d36 r45,
 o d46 (.ext 0 r36),
 o d47 (.ext 1 r36),
 m d7 r46,
 m d8 r47])
 (.seq (.seq (.ops [m d48 r8,
 o d49 (.un .not r48)])
 (.cond r49 (.exit 0)
 .skip))
 (.seq (.ops [m d50 r4,
 m d51 r7,
 o d52 (.bslice 64 1 1 [.nils] [.mk 0 1 r51]),
 o d53 (.app 64 1 r50 r52),
 m d4 r53])
 c60_5)))
def c60_2 : AC := (.seq (.ops [m d14 r0,
 m d15 r5,
 m d16 r5,
 o d17 (.bin .add r16 (.c (pi 8))),
 o d18 (.slc 1 r14 (.some r15) (.some r17) .none),
 .o d19 (.call 63 [r18]),
 .o d20 (.call 75 [r19]),
 m d6 r20])
 (.seq (.seq (.ops [m d21 r6,
 o d22 (.bin .lt r21 (.c (pi 0))),
 m d23 r22,
 .g .h1 .h7 false d24 (.op (.mv r6)),
 .g .h1 .h7 false d25 (.op (.bin .gt r24 (.c (pi 1048576)))),
 o d26 (.pick r23 (.c (.bool true)) r25),
 m d27 r26,
 .g .h1 .hb false d28 (.op (.mv r6)),
 .g .h1 .hb false d29 (.op (.mv r0)),
 .g .h1 .hb false d30 (.op (.len r29)),
 .g .h1 .hb false d31 (.op (.mv r5)),
 .g .h1 .hb false d32 (.op (.bin .sub r30 r31)),
 .g .h1 .hb false d33 (.op (.bin .sub r32 (.c (pi 8)))),
 .g .h1 .hb false d34 (.op (.bin .gt r28 r33)),
 o d35 (.pick r27 (.c (.bool true)) r34)]) c60_3) c60_4))
def c60_1 : AC := (.seq (.seq (.ops [m d9 r0,
 o d10 (.len r9),
 m d11 r5,
 o d12 (.bin .sub r10 r11),
 o d13 (.bin .ge r12 (.c (pi 8)))])
 (.cond r13 .skip
 (.exit 0)))
 (.block 1 c60_2))
def c60_6 : AC := (.seq (.ops [m d58 r4,
 m d59 r5,
 m d2 r58,
 m d3 r59])
 .ret)
def c60_0 : AC := (.seq (.ops [m d2 (.c .nils),
 m d3 (.c (pi 0))])
 (.seq (.ops [m d4 (.c .nils)])
 (.seq (.ops [m d5 (.c (pi 0))])
 (.seq (.block 0 (.loop c60_1)) c60_6))))
def b60 : AC := c60_0
def s60 : List Rs := [.t .h0 .h2,.t .h0 .h3]
def c61_0 : AC := (.seq (.ops [m d2 (.c .nils)])
 (.seq (.ops [m d3 r0,
 o d4 (.nilc r3),
 o d5 (.fad 0 r4),
 o d6 (.ld1 r5),
 .o d7 (.call 92 [r6]),
 m d2 r7])
 .ret))
def b61 : AC := c61_0
def s61 : List Rs := [.t .h0 .h2]
def c62_2 : AC := (.ops [m d15 r0,
 m d16 r1,
 .o d17 (.call 75 [r16]),
 o d18 (.nilc r15),
 o d19 (.fad 6 r18),
 o .no (.st1 r19 r17)])
def c62_6 : AC := (.drw [q 0 (m d43 r0),
 q 0 (o d44 (.nilc r43)),
 q 0 (o d45 (.fad 7 r44)),
 q 0 (o d46 (.ld1 r45)),
 q 0 (m d47 r6),
 q 0 (o d48 (.ldn 2 r5)),
 q 0 (m d49 r7),
 q 0 (o d50 (.build [(pi 0),(pi 0),(pi 0),(.str [])] [.mk 0 1 r47,.mk 1 2 r48,.mk 3 1 r49])),
 w (.o d51 (.call 96 [r46,r50]))])
def c62_5 : AC := (.seq (.ops [m d32 r1,
 .o d33 (.call 69 [r32]),
 m d34 r1,
 .o d35 (.call 75 [r34]),
 o d5 (.alloc 129 2 (.k1 (.mk (pi 0) (pi 0) .undef .undef .undef .undef .undef .undef .undef .undef .undef .undef .undef .undef .undef .undef))),
 o .no (.stn 2 r5 r33),
 m d6 r35])
 (.seq (.ops [m d36 r0,
 m d37 r6,
 .o d38 (.call 94 [r36,r37]),
 m d7 r38])
 (.seq (.seq (.ops [m d39 r4,
 o d40 (.bin .eq r39 (.c (pi 2)))])
 (.cond r40 (.ops [m d41 r1,
 .o d42 (.call 95 [r41]),
 m d7 r42])
 .skip))
 c62_6)))
def c62_8 : AC := (.cond r52 (.seq (.ops [m d55 r1,
 .o d56 (.call 75 [r55]),
 m d8 r56])
 (.seq (.ops [m d57 r0,
 m d58 r8,
 .o d59 (.call 94 [r57,r58]),
 m d9 r59])
 (.seq (.seq (.ops [m d60 r4,
 o d61 (.bin .eq r60 (.c (pi 4)))])
 (.cond r61 (.ops [m d62 r1,
 .o d63 (.call 95 [r62]),
 m d9 r63])
 .skip))
 (.ops [m d64 r0,
 m d65 r8,
 m d66 r9,
 .o d67 (.call 97 [r64,r65,r66])]))))
 (.seq (.ops [o d69 (.bin .eq r12 (.c (pi 6))),
 m d68 r69])
 (.cond r68 (.ops [m d70 r0,
 m d71 r1,
 .o d72 (.call 81 [r71]),
 .o d73 (.call 98 [r70,r72])])
 .skip)))
def c62_7 : AC := (.seq (.seq (.ops [o d53 (.bin .eq r12 (.c (pi 4))),
 m d52 r53])
 (.cond r52 .skip
 (.ops [o d54 (.bin .eq r12 (.c (pi 5))),
 m d52 r54])))
 c62_8)
def c62_4 : AC := (.seq (.seq (.ops [o d30 (.bin .eq r12 (.c (pi 2))),
 m d29 r30])
 (.cond r29 .skip
 (.ops [o d31 (.bin .eq r12 (.c (pi 3))),
 m d29 r31])))
 (.cond r29 c62_5 c62_7))
def c62_3 : AC := (.seq (.ops [o d21 (.bin .eq r12 (.c (pi 1))),
 m d20 r21])
 (.cond r20 (.drw [q 0 (m d26 r1),
 w (.o d27 (.call 69 [r26])),
 q 1 (m d22 r0),
 q 1 (o d23 (.nilc r22)),
 q 1 (o d24 (.fad 7 r23)),
 q 1 (o d25 (.ld1 r24)),
 w (.o d28 (.call 93 [r25,r27,(.c (pi 1048576))]))]) c62_4))
def c62_1 : AC := (.seq (.ops [o d14 (.bin .eq r12 (.c (pi 0))),
 m d13 r14])
 (.cond r13 c62_2 c62_3))
def c62_0 : AC := (.seq (.ops [m d10 r1,
 .o d11 (.call 68 [r10]),
 m d4 r11])
 (.seq (.ops [m d12 r4])
 (.block 0 c62_1)))
def b62 : AC := c62_0
def s62 : List Rs := []
def c63_0 : AC := (.seq (.ops [m d2 (.c .nilp)])
 (.seq (.ops [m d3 r0,
 .o d4 (.call 92 [r3]),
 o d5 (.build [.nils,(pi 0),(pi 0),(pi 0)] [.mk 0 1 r4]),
 o d6 (.box 169 r5),
 m d2 r6])
 .ret))
def b63 : AC := c63_0
def s63 : List Rs := [.t .h0 .h2]
def c64_1 : AC := (.seq (.ops [o d32 (.bin .lt r31 r30)])
 (.seq (.cond r32 .skip
 (.exit 0))
 (.seq (.block 1 (.seq (.ops [o d33 (.ixs 4 r29 r31),
 o d34 (.ldn 4 r33),
 o d4 (.alloc 138 4 (.k1 (.mk (pi 0) (pi 0) (pi 0) (.str []) .undef .undef .undef .undef .undef .undef .undef .undef .undef .undef .undef .undef))),
 o .no (.stn 4 r4 r34)])
 (.ops [m d35 r2,
 o d36 (.mkf 103 [r4]),
 .o d37 (.call 99 [(.c (pi 2)),r36]),
 o d38 (.app 5 1 r35 r37),
 m d2 r38])))
 (.ops [o d39 (.bin .add r31 (.c (pi 1))),
 m d31 r39]))))
def c64_5 : AC := (.cond r68 (.ops [m d7 (.c (pi 5))])
 .skip)
def c64_6 : AC := (.ops [m d69 r2,
 o d70 (.ld1 r1),
 m d71 r7,
 o d72 (.ldn 4 r6),
 .o d73 (.call 110 [r70,r71,r72]),
 o d74 (.app 5 1 r69 r73),
 m d2 r74])
def c64_4 : AC := (.seq (.ops [o d54 (.ixs 4 r50 r52),
 o d55 (.ldn 4 r54),
 o d6 (.alloc 138 4 (.k1 (.mk (pi 0) (pi 0) (pi 0) (.str []) .undef .undef .undef .undef .undef .undef .undef .undef .undef .undef .undef .undef))),
 o .no (.stn 4 r6 r55)])
 (.seq (.ops [m d7 (.c (pi 4))])
 (.seq (.seq (.drw [q 0 (o d56 (.ld1 r1)),
 q 0 (o d57 (.fad 0 r6)),
 q 0 (o d58 (.ld1 r57)),
 w (.o d59 (.call 109 [r56,r58])),
 q 0 (m d60 r59),
 q 0 (.g .h3 .hc true d61 (.op (.ld1 r1))),
 q 0 (.g .h3 .hc true d62 (.op (.fad 0 r6))),
 q 0 (.g .h3 .hc true d63 (.op (.ld1 r62))),
 w (.g .h3 .hc true d64 (.call 94 [r61,r63])),
 q 1 (.g .h3 .hc true d65 (.op (.fad 3 r6))),
 q 1 (.g .h3 .hc true d66 (.op (.ld1 r65))),
 q 0 (.g .h3 .hc true d67 (.op (.bin .seq r64 r66))),
 q 0 (o d68 (.pick r60 r67 (.c (.bool false))))]) c64_5) c64_6)))
def c64_7 : AC := (.ops [o d75 (.bin .add r52 (.c (pi 1))),
 m d52 r75])
def c64_3 : AC := (.seq (.ops [o d53 (.bin .lt r52 r51)])
 (.seq (.cond r53 .skip
 (.exit 2))
 (.seq (.block 3 c64_4) c64_7)))
def c64_8 : AC := (.seq (.ops [o d76 (.ld1 r1),
 o d77 (.nilc r76),
 o d78 (.fad 2 r77),
 o d79 (.ld1 r78),
 m d80 r2,
 .o d81 (.call 111 [r79,r80]),
 o d82 (.bin .eq r81 (.c (pi 0)))])
 (.cond r82 (.ops [o d83 (.ld1 r1),
 m d84 r2,
 o d85 (.len r84),
 o d86 (.nilc r83),
 o d87 (.fad 5 r86),
 o .no (.st1 r87 r85)])
 .skip))
def c64_2 : AC := (.seq (.ops [m d40 r2,
 o d41 (.mkf 106 [r1]),
 .o d42 (.call 99 [(.c (pi 1)),r41]),
 o d43 (.app 5 1 r40 r42),
 m d2 r43])
 (.seq (.seq (.drw [q 0 (o d44 (.ld1 r1)),
 q 0 (o d45 (.ld1 r1)),
 q 0 (o d46 (.nilc r45)),
 q 0 (o d47 (.fad 13 r46)),
 q 0 (o d48 (.fad 0 r47)),
 q 0 (o d49 (.ld1 r48)),
 w (.o d50 (.call 108 [r44,r49])),
 q 0 (o d51 (.len r50)),
 q 1 (m d52 (.c (pi 0)))]) (.block 2 (.loop c64_3))) c64_8))
def c64_0 : AC := (.seq (.ops [o d1 (.box 88 r0)])
 (.seq (.ops [o d8 (.mkf 100 [r1]),
 .o d9 (.call 99 [(.c (pi 0)),r8]),
 m d2 r9])
 (.seq (.seq (.ops [o d10 (.ld1 r1),
 o d11 (.nilc r10),
 o d12 (.fad 13 r11),
 o d13 (.fad 0 r12),
 o d14 (.ld1 r13),
 o d15 (.bin .gt r14 (.c (pi 0)))])
 (.cond r15 (.ops [m d16 r2,
 o d17 (.mkf 101 [r1]),
 .o d18 (.call 99 [(.c (pi 6)),r17]),
 o d19 (.app 5 1 r16 r18),
 m d2 r19])
 .skip))
 (.seq (.seq (.drw [q 0 (o d20 (.ld1 r1)),
 q 0 (o d21 (.nilc r20)),
 q 0 (o d22 (.fad 7 r21)),
 q 0 (o d23 (.ld1 r22)),
 q 0 (o d24 (.ld1 r1)),
 q 0 (o d25 (.nilc r24)),
 q 0 (o d26 (.fad 13 r25)),
 q 0 (o d27 (.fad 0 r26)),
 q 0 (o d28 (.ld1 r27)),
 w (.o d29 (.call 89 [r23,r28])),
 q 0 (o d30 (.len r29)),
 q 1 (m d31 (.c (pi 0)))]) (.block 0 (.loop c64_1))) c64_2))))
def b64 : AC := c64_0
def s64 : List Rs := []
def c65_2 : AC := (.ops [o d28 (.bin .add r16 (.c (pi 1))),
 m d16 r28])
def c65_1 : AC := (.seq (.ops [o d17 (.bin .lt r16 r15)])
 (.seq (.cond r17 .skip
 (.exit 0))
 (.seq (.block 1 (.seq (.ops [o d18 (.ixs 1 r14 r16),
 o d19 (.ld1 r18),
 m d4 r19])
 (.seq (.seq (.ops [m d20 r4,
 o d21 (.bin .sne r20 (.c (.str [])))])
 (.cond r21 (.ops [m d22 r0,
 m d23 r2,
 m d24 r4,
 .o d25 (.call 113 [r22,r23,r24])])
 .skip))
 (.ops [m d26 r2,
 o d27 (.bin .add r26 (.c (pi 1))),
 m d2 r27]))))
 c65_2)))
def c65_0 : AC := (.seq (.ops [m d5 r0,
 o d6 (.nilc r5),
 o d7 (.fad 9 r6),
 o d8 (.ld1 r7),
 .o d9 (.call 87 [r8]),
 m d2 r9])
 (.seq (.ops [m d10 r0,
 o d11 (.nilc r10),
 o d12 (.fad 9 r11),
 o d13 (.ld1 r12),
 .o d14 (.call 112 [r13]),
 o d15 (.len r14),
 m d16 (.c (pi 0))])
 (.block 0 (.loop c65_1))))
def b65 : AC := c65_0
def s65 : List Rs := []
def c66_1 : AC := (.cond r17 .skip
 (.exit 0))
def c66_3 : AC := (.cond r36 (.exit 1)
 .skip)
def c66_5 : AC := (.ops [m d2 (.c (ni 0))])
def c66_4 : AC := (.seq (.drw [q 0 (m d37 r0),
 q 0 (o d38 (.nilc r37)),
 q 0 (o d39 (.fad 17 r38)),
 q 0 (o d40 (.ld1 r39)),
 q 0 (m d41 r2),
 q 0 (m d42 r0),
 q 0 (o d43 (.nilc r42)),
 q 0 (o d44 (.fad 21 r43)),
 q 0 (o d45 (.ld1 r44)),
 q 0 (o d46 (.ixs 6 r40 r41)),
 q 0 (o d47 (.fad 5 r46)),
 w (o .no (.st1 r47 r45))])
 (.seq (.ops [m d48 r0,
 o d49 (.nilc r48),
 o d50 (.fad 21 r49),
 o d51 (.ld1 r50),
 o d52 (.bin .add r51 (.c (pi 1))),
 o d53 (.nilc r48),
 o d54 (.fad 21 r53),
 o .no (.st1 r54 r52)])
 (.seq (.drw [q 0 (o d61 (.ldn 6 r3)),
 w (.o d62 (.call 115 [r61])),
 q 1 (m d55 r0),
 q 1 (m d56 r0),
 q 1 (o d57 (.nilc r56)),
 q 1 (o d58 (.fad 21 r57)),
 q 1 (o d59 (.ld1 r58)),
 q 1 (o d60 (.bin .sub r59 (.c (pi 1)))),
 w (.o d63 (.call 114 [r55,r60,r62]))]) c66_5)))
def c66_2 : AC := (.seq (.ops [m d20 r0,
 o d21 (.nilc r20),
 o d22 (.fad 17 r21),
 o d23 (.ld1 r22),
 m d24 r2,
 o d25 (.ixs 6 r23 r24),
 o d26 (.ldn 6 r25),
 o d3 (.alloc 127 6 (.k1 (.mk (pi 0) (pi 0) (pi 0) (.bool false) (.str []) (pi 0) .undef .undef .undef .undef .undef .undef .undef .undef .undef .undef))),
 o .no (.stn 6 r3 r26)])
 (.seq (.seq (.ops [o d27 (.fad 5 r3),
 o d28 (.ld1 r27),
 o d29 (.bin .ge r28 (.c (pi 0))),
 m d30 r29,
 .g .h1 .he false d31 (.op (.mv r0)),
 .g .h1 .he false d32 (.op (.nilc r31)),
 .g .h1 .he false d33 (.op (.fad 21 r32)),
 .g .h1 .he false d34 (.op (.ld1 r33)),
 .g .h1 .he false d35 (.op (.bin .ge r34 (.c (pi 1048576)))),
 o d36 (.pick r30 (.c (.bool true)) r35)]) c66_3) c66_4))
def c66_6 : AC := (.ops [m d18 r2,
 o d19 (.bin .add r18 (.c (pi 1))),
 m d2 r19])
def c66_0 : AC := (.seq (.ops [m d2 (.c (pi 0))])
 (.block 0 (.loop (.seq (.seq (.ops [m d4 r2,
 m d5 r0,
 o d6 (.nilc r5),
 o d7 (.fad 17 r6),
 o d8 (.ld1 r7),
 o d9 (.len r8),
 o d10 (.bin .lt r4 r9),
 m d11 r10,
 .g .h0 .hb true d12 (.op (.mv r0)),
 .g .h0 .hb true d13 (.op (.nilc r12)),
 .g .h0 .hb true d14 (.op (.fad 19 r13)),
 .g .h0 .hb true d15 (.op (.ld1 r14)),
 .g .h0 .hb true d16 (.op (.bin .eq r15 (.c (pi 2)))),
 o d17 (.pick r11 r16 (.c (.bool false)))]) c66_1) (.seq (.block 1 c66_2) c66_6)))))
def b66 : AC := c66_0
def s66 : List Rs := []
def c67_1 : AC := (.seq (.ops [o d36 (.ld1 r1),
 o d37 (.mkf 117 [r2,r3,r1]),
 .o d38 (.call 83 [r36,(.c (pi 1)),r37])])
 (.ops [o d39 (.ld1 r1),
 .o d40 (.call 118 [r39])]))
def c67_0 : AC := (.seq (.ops [o d1 (.box 88 r0)])
 (.seq (.drw [q 0 (o d8 (.ld1 r1)),
 q 0 (o d9 (.nilc r8)),
 q 0 (o d10 (.fad 7 r9)),
 q 0 (o d11 (.ld1 r10)),
 w (.o d12 (.call 107 [r11])),
 q 1 (o d4 (.ld1 r1)),
 q 1 (o d5 (.nilc r4)),
 q 1 (o d6 (.fad 8 r5)),
 q 1 (o d7 (.ld1 r6)),
 w (.o d13 (.call 70 [r7,r12]))]) (.seq (.drw [q 0 (o d14 (.ld1 r1)),
 q 0 (o d17 (.nilc r14)),
 q 0 (o d18 (.fad 19 r17)),
 w (o .no (.st1 r18 (.c (pi 1)))),
 q 1 (o d15 (.ld1 r1)),
 q 0 (o d19 (.nilc r15)),
 q 0 (o d20 (.fad 20 r19)),
 n (o d16 (.mkmap)),
 w (o .no (.st1 r20 r16))]) (.seq (.drw [q 0 (o d25 (.ld1 r1)),
 q 0 (o d26 (.nilc r25)),
 q 0 (o d27 (.fad 9 r26)),
 q 0 (o d28 (.ld1 r27)),
 w (.o d29 (.call 53 [r28])),
 q 1 (o d21 (.ld1 r1)),
 q 1 (o d22 (.nilc r21)),
 q 1 (o d23 (.fad 8 r22)),
 q 1 (o d24 (.ld1 r23)),
 w (.o d30 (.call 116 [r24,r29])),
 q 2 (o d31 (.ld1 r1)),
 q 2 (o d32 (.nilc r31)),
 q 2 (o d33 (.fad 9 r32)),
 q 2 (o d34 (.ld1 r33)),
 w (.o d35 (.call 53 [r34])),
 n (o d2 (.alloc 129 2 (.k1 (.mk (pi 0) (pi 0) .undef .undef .undef .undef .undef .undef .undef .undef .undef .undef .undef .undef .undef .undef)))),
 n (o d3 (.alloc 3 1 (.k1 (.mk (pi 0) .undef .undef .undef .undef .undef .undef .undef .undef .undef .undef .undef .undef .undef .undef .undef)))),
 w (o .no (.stn 2 r2 r30)),
 w (o .no (.st1 r3 r35))]) c67_1))))
def b67 : AC := c67_0
def s67 : List Rs := []
def c68_0 : AC := (.seq (.ops [m d2 (.c (pi 0))])
 (.seq (.ops [m d3 r0,
 .o d4 (.call 119 [r3,(.c (pi 1))]),
 o d5 (.conv (.toInt .i64) r4),
 m d2 r5])
 .ret))
def b68 : AC := c68_0
def s68 : List Rs := [.t .h0 .h2]
def c69_0 : AC := (.seq (.ops [o d2 (.alloc 129 2 (.k1 (.mk (pi 0) (pi 0) .undef .undef .undef .undef .undef .undef .undef .undef .undef .undef .undef .undef .undef .undef)))])
 (.seq (.ops [m d4 r0,
 .o d5 (.call 75 [r4]),
 m d3 r5])
 (.seq (.ops [m d6 r3,
 m d7 r0,
 .o d8 (.call 75 [r7]),
 o d9 (.build [(pi 0),(pi 0)] [.mk 0 1 r6,.mk 1 1 r8]),
 o .no (.stn 2 r2 r9)])
 .ret)))
def b69 : AC := c69_0
def s69 : List Rs := [.agg 2 .h0 .h2]
def c70_0 : AC := (.seq (.ops [o d3 (.box 129 r1)])
 (.drw [q 0 (m d4 r0),
 q 0 (m d5 r0),
 q 0 (o d6 (.nilc r5)),
 q 0 (o d7 (.fad 2 r6)),
 q 0 (o d8 (.ld1 r7)),
 q 0 (o d9 (.fad 0 r3)),
 q 0 (o d10 (.ld1 r9)),
 q 0 (o d11 (.max false [r8,r10])),
 q 0 (o d12 (.nilc r4)),
 q 0 (o d13 (.fad 2 r12)),
 w (o .no (.st1 r13 r11))]))
def b70 : AC := c70_0
def s70 : List Rs := []
def c71_1 : AC := (.seq (.ops [o d28 (.ld1 r4),
 o d29 (.ldn 2 r6),
 o d30 (.ld1 r8),
 .o d31 (.call 120 [r28,r29,r30]),
 m d27 r31,
 o d32 (.ext 0 r27),
 o d33 (.ext 1 r27),
 o d10 (.alloc 135 1 (.k1 (.mk .nils .undef .undef .undef .undef .undef .undef .undef .undef .undef .undef .undef .undef .undef .undef .undef))),
 o .no (.st1 r10 r32),
 m d11 r33])
 (.seq (.seq (.ops [m d34 r11,
 o d35 (.un .not r34)])
 (.cond r35 (.seq (.ops [o d36 (.ld1 r4),
 m d37 r1,
 .o d38 (.call 121 [r36,r37])])
 .ret)
 .skip))
 (.seq (.ops [o d39 (.ld1 r4),
 o d40 (.ldn 2 r6),
 .o d41 (.call 76 [r39,r40])])
 (.ops [o d42 (.ld1 r4),
 m d43 r1,
 o d44 (.mkf 123 [r6,r9,r10,r4,r8]),
 .o d45 (.call 122 [r42,r43,(.c (pi 2)),r44])]))))
def c71_0 : AC := (.seq (.ops [o d4 (.box 88 r0),
 o d6 (.box 129 r2)])
 (.seq (.ops [m d12 r3,
 .o d13 (.call 75 [r12]),
 m d14 r3,
 .o d15 (.call 75 [r14]),
 o d8 (.alloc 3 1 (.k1 (.mk (pi 0) .undef .undef .undef .undef .undef .undef .undef .undef .undef .undef .undef .undef .undef .undef .undef))),
 o d9 (.alloc 2 1 (.k1 (.mk (pi 0) .undef .undef .undef .undef .undef .undef .undef .undef .undef .undef .undef .undef .undef .undef .undef))),
 o .no (.st1 r8 r13),
 o .no (.st1 r9 r15)])
 (.seq (.seq (.drw [q 0 (o d16 (.ld1 r8)),
 q 0 (o d17 (.ld1 r4)),
 q 0 (o d18 (.nilc r17)),
 q 0 (o d19 (.fad 13 r18)),
 q 0 (o d20 (.fad 0 r19)),
 q 0 (o d21 (.ld1 r20)),
 q 0 (o d22 (.bin .lt r16 r21))])
 (.cond r22 (.seq (.ops [o d23 (.ld1 r4),
 m d24 r1,
 o d25 (.ld1 r8),
 .o d26 (.call 79 [r23,r24,r25])])
 .ret)
 .skip))
 c71_1)))
def b71 : AC := c71_0
def s71 : List Rs := []
def c72_2 : AC := (.cond r24 .skip
 (.exit 0))
def c72_3 : AC := (.seq (.block 1 (.seq (.ops [m d27 r3,
 .o d28 (.call 69 [r27]),
 o d29 (.build [(pi 0),(pi 0),(pi 0),(.str [])] [.mk 1 2 r28]),
 o d11 (.alloc 138 4 (.k1 (.mk (pi 0) (pi 0) (pi 0) (.str []) .undef .undef .undef .undef .undef .undef .undef .undef .undef .undef .undef .undef))),
 o .no (.stn 4 r11 r29)])
 (.seq (.ops [m d30 r3,
 .o d31 (.call 75 [r30]),
 o d32 (.fad 0 r11),
 o .no (.st1 r32 r31)])
 (.seq (.ops [m d33 r3,
 .o d34 (.call 95 [r33]),
 o d35 (.fad 3 r11),
 o .no (.st1 r35 r34)])
 (.ops [m d36 r9,
 o d37 (.ldn 4 r11),
 o d38 (.bslice 138 4 1 [(pi 0),(pi 0),(pi 0),(.str [])] [.mk 0 4 r37]),
 o d39 (.app 138 4 r36 r38),
 m d9 r39])))))
 (.ops [m d25 r10,
 o d26 (.bin .sub r25 (.c (pi 1))),
 m d10 r26]))
def c72_1 : AC := (.seq (.ops [m d16 r3,
 .o d17 (.call 75 [r16]),
 m d10 r17])
 (.block 0 (.loop (.seq (.seq (.ops [m d18 r10,
 o d19 (.bin .gt r18 (.c (pi 0))),
 m d20 r19,
 .g .h1 .h4 true d21 (.op (.mv r3)),
 .g .h1 .h4 true d22 (.call 125 [r21]),
 .g .h1 .h4 true d23 (.op (.un .not r22)),
 o d24 (.pick r20 r23 (.c (.bool false)))]) c72_2) c72_3))))
def c72_5 : AC := (.seq (.ops [o d44 (.bin .lt r43 r42)])
 (.seq (.cond r44 .skip
 (.exit 2))
 (.seq (.block 3 (.seq (.ops [o d45 (.ixs 4 r41 r43),
 o d46 (.ldn 4 r45),
 o d13 (.alloc 138 4 (.k1 (.mk (pi 0) (pi 0) (pi 0) (.str []) .undef .undef .undef .undef .undef .undef .undef .undef .undef .undef .undef .undef))),
 o .no (.stn 4 r13 r46)])
 (.ops [m d47 r0,
 o d48 (.fad 0 r13),
 o d49 (.ld1 r48),
 o d50 (.fad 3 r13),
 o d51 (.ld1 r50),
 .o d52 (.call 78 [r47,r49,r51])])))
 (.ops [o d53 (.bin .add r43 (.c (pi 1))),
 m d43 r53]))))
def c72_4 : AC := (.seq (.ops [m d40 r3,
 .o d41 (.call 77 [r40]),
 o d42 (.len r41),
 m d43 (.c (pi 0))])
 (.block 2 (.loop c72_5)))
def c72_6 : AC := (.cond r75 .ret
 .skip)
def c72_7 : AC := (.seq (.drw [q 0 (m d76 r0),
 q 0 (o d77 (.nilc r76)),
 q 0 (o d78 (.fad 8 r77)),
 q 0 (o d79 (.ld1 r78)),
 q 0 (m d80 r1),
 q 0 (o d81 (.ldn 2 r6)),
 q 0 (m d82 r9),
 w (.o d83 (.call 127 [r79,r80,r81,r82]))])
 (.seq (.ops [m d84 r0,
 o d85 (.nilc r84),
 o d86 (.fad 20 r85),
 o d87 (.ld1 r86),
 m d88 r1,
 o .no (.mup (.one .i) r87 r88 (.c (pi 1)))])
 (.ops [m d89 r0,
 .o d90 (.call 118 [r89])])))
def c72_0 : AC := (.seq (.ops [o d6 (.box 129 r2)])
 (.seq (.ops [m d14 r3,
 .o d15 (.call 75 [r14]),
 m d8 r15])
 (.seq (.ops [m d9 (.c .nils)])
 (.seq c72_1 (.seq c72_4 (.seq (.seq (.drw [q 0 (m d54 r8),
 q 0 (m d55 r0),
 q 0 (o d56 (.nilc r55)),
 q 0 (o d57 (.fad 6 r56)),
 q 0 (o d58 (.ld1 r57)),
 q 0 (o d59 (.bin .ne r54 r58)),
 q 0 (m d60 r59),
 q 0 (.g .h3 .hc false d61 (.op (.mv r0))),
 q 0 (.g .h3 .hc false d62 (.op (.nilc r61))),
 q 0 (.g .h3 .hc false d63 (.op (.fad 19 r62))),
 q 0 (.g .h3 .hc false d64 (.op (.ld1 r63))),
 q 0 (.g .h3 .hc false d65 (.op (.bin .ne r64 (.c (pi 1))))),
 q 0 (o d66 (.pick r60 (.c (.bool true)) r65)),
 q 0 (m d67 r66),
 q 0 (.g .h4 .h3 false d69 (.op (.mv r0))),
 q 0 (.g .h4 .h3 false d70 (.op (.nilc r69))),
 q 0 (.g .h4 .h3 false d71 (.op (.fad 8 r70))),
 q 0 (.g .h4 .h3 false d72 (.op (.ld1 r71))),
 w (.g .h4 .h3 false d73 (.call 126 [r72])),
 q 1 (.g .h4 .h3 false d68 (.op (.ldn 2 r6))),
 q 0 (.g .h4 .h3 false d74 (.op (.bin (.ane [.i,.i]) r68 r73))),
 q 0 (o d75 (.pick r67 (.c (.bool true)) r74))]) c72_6) c72_7))))))
def b72 : AC := c72_0
def s72 : List Rs := []
def c73_1 : AC := (.seq (.seq (.ops [m d25 r0,
 o d26 (.ldn 2 r6),
 o d27 (.ld1 r8),
 m d28 r9,
 .o d29 (.call 128 [r25,r26,r27,r28]),
 o d30 (.un .not r29)])
 (.cond r30 (.seq (.ops [m d31 r0,
 m d32 r1,
 .o d33 (.call 121 [r31,r32])])
 .ret)
 .skip))
 (.seq (.ops [m d34 r0,
 o d35 (.ldn 2 r6),
 .o d36 (.call 76 [r34,r35])])
 (.ops [m d37 r0,
 m d38 r1,
 o d39 (.mkf 129 [r6,r8]),
 .o d40 (.call 122 [r37,r38,(.c (pi 4)),r39])])))
def c73_0 : AC := (.seq (.ops [o d6 (.box 129 r2)])
 (.seq (.ops [m d10 r3,
 .o d11 (.call 75 [r10]),
 o d8 (.alloc 3 1 (.k1 (.mk (pi 0) .undef .undef .undef .undef .undef .undef .undef .undef .undef .undef .undef .undef .undef .undef .undef))),
 o .no (.st1 r8 r11)])
 (.seq (.ops [m d12 r3,
 .o d13 (.call 95 [r12]),
 m d9 r13])
 (.seq (.seq (.drw [q 0 (o d14 (.ld1 r8)),
 q 0 (m d15 r0),
 q 0 (o d16 (.nilc r15)),
 q 0 (o d17 (.fad 13 r16)),
 q 0 (o d18 (.fad 0 r17)),
 q 0 (o d19 (.ld1 r18)),
 q 0 (o d20 (.bin .lt r14 r19))])
 (.cond r20 (.seq (.ops [m d21 r0,
 m d22 r1,
 o d23 (.ld1 r8),
 .o d24 (.call 79 [r21,r22,r23])])
 .ret)
 .skip))
 c73_1))))
def b73 : AC := c73_0
def s73 : List Rs := []
def c74_1 : AC := (.cond r25 .ret
 .skip)
def c74_2 : AC := (.seq (.ops [m d27 r0,
 o d28 (.nilc r27),
 o d29 (.fad 8 r28),
 o d30 (.ld1 r29),
 m d31 r3,
 .o d32 (.call 131 [r30,r31,(.c (.str []))]),
 m d26 r32,
 o d33 (.ext 0 r26),
 o d34 (.ext 1 r26),
 m d8 r33,
 m d9 r34])
 (.seq (.ops [m d35 r9])
 (.cond r35 (.ops [m d36 r0,
 m d37 r3,
 m d38 r8,
 .o d39 (.call 132 [r36,r37,r38])])
 .skip)))
def c74_0 : AC := (.seq (.ops [o d6 (.box 129 r2)])
 (.seq (.seq (.drw [q 0 (m d10 r0),
 q 0 (o d11 (.nilc r10)),
 q 0 (o d12 (.fad 19 r11)),
 q 0 (o d13 (.ld1 r12)),
 q 0 (o d14 (.bin .ne r13 (.c (pi 2)))),
 q 0 (m d15 r14),
 q 0 (.g .h0 .hf false d16 (.op (.mv r0))),
 q 0 (.g .h0 .hf false d17 (.op (.nilc r16))),
 q 0 (.g .h0 .hf false d18 (.op (.fad 8 r17))),
 q 0 (.g .h0 .hf false d19 (.op (.ld1 r18))),
 q 0 (.g .h0 .hf false d20 (.op (.mv r1))),
 q 0 (.g .h0 .hf false d21 (.op (.ldn 2 r6))),
 q 0 (.g .h0 .hf false d22 (.op (.mv r3))),
 w (.g .h0 .hf false d23 (.call 130 [r19,r20,r21,r22])),
 q 0 (.g .h0 .hf false d24 (.op (.un .not r23))),
 q 0 (o d25 (.pick r15 (.c (.bool true)) r24))]) c74_1) c74_2))
def b74 : AC := c74_0
def s74 : List Rs := []
def c75_0 : AC := (.seq (.ops [m d2 (.c (pi 0))])
 (.seq (.ops [m d3 r0,
 .o d4 (.call 119 [r3,(.c (pi 8))]),
 o d5 (.conv (.toInt .i64) r4),
 m d2 r5])
 .ret))
def b75 : AC := c75_0
def s75 : List Rs := [.t .h0 .h2]
def c76_1 : AC := (.cond r17 (.ops [m d18 r0,
 o d19 (.nilc r18),
 o d20 (.fad 19 r19),
 o .no (.st1 r20 (.c (pi 0)))])
 .skip)
def c76_0 : AC := (.seq (.ops [o d3 (.box 129 r1)])
 (.seq (.drw [q 0 (m d4 r0),
 q 0 (o d5 (.nilc r4)),
 q 0 (o d6 (.fad 19 r5)),
 q 0 (o d7 (.ld1 r6)),
 q 0 (o d8 (.bin .ne r7 (.c (pi 0)))),
 q 0 (m d9 r8),
 q 0 (.g .h0 .h9 true d10 (.op (.mv r0))),
 q 0 (.g .h0 .h9 true d11 (.op (.nilc r10))),
 q 0 (.g .h0 .h9 true d12 (.op (.fad 8 r11))),
 q 0 (.g .h0 .h9 true d13 (.op (.ld1 r12))),
 w (.g .h0 .h9 true d14 (.call 126 [r13])),
 q 1 (.g .h0 .h9 true d15 (.op (.ldn 2 r3))),
 w (.g .h0 .h9 true d16 (.call 133 [r14,r15])),
 q 0 (o d17 (.pick r9 r16 (.c (.bool false))))]) c76_1))
def b76 : AC := c76_0
def s76 : List Rs := []
def c77_2 : AC := (.cond r14 .skip
 (.exit 0))
def c77_3 : AC := (.seq (.block 1 (.seq (.ops [m d17 r0,
 .o d18 (.call 75 [r17]),
 m d5 r18])
 (.ops [m d19 r3,
 m d20 r5,
 m d21 r0,
 .o d22 (.call 95 [r21]),
 o d23 (.build [(pi 0),(pi 0),(pi 0),(.str [])] [.mk 0 1 r20,.mk 3 1 r22]),
 o d24 (.bslice 138 4 1 [(pi 0),(pi 0),(pi 0),(.str [])] [.mk 0 4 r23]),
 o d25 (.app 138 4 r19 r24),
 m d3 r25])))
 (.ops [m d15 r4,
 o d16 (.bin .sub r15 (.c (pi 1))),
 m d4 r16]))
def c77_1 : AC := (.seq (.ops [m d6 r0,
 .o d7 (.call 75 [r6]),
 m d4 r7])
 (.block 0 (.loop (.seq (.seq (.ops [m d8 r4,
 o d9 (.bin .gt r8 (.c (pi 0))),
 m d10 r9,
 .g .h0 .ha true d11 (.op (.mv r0)),
 .g .h0 .ha true d12 (.call 125 [r11]),
 .g .h0 .ha true d13 (.op (.un .not r12)),
 o d14 (.pick r10 r13 (.c (.bool false)))]) c77_2) c77_3))))
def c77_4 : AC := (.seq (.ops [m d26 r3,
 m d2 r26])
 .ret)
def c77_0 : AC := (.seq (.ops [m d2 (.c .nils)])
 (.seq (.ops [m d3 (.c .nils)])
 (.seq c77_1 c77_4)))
def b77 : AC := c77_0
def s77 : List Rs := [.t .h0 .h2]
def c78_1 : AC := (.cond r21 (.ops [o .no (.st1 r6 (.c (pi 5)))])
 .skip)
def c78_2 : AC := (.seq (.ops [m d22 r0,
 o d23 (.ld1 r6),
 o d24 (.mkf 135 [r4,r6,r5]),
 .o d25 (.call 134 [r22,(.c (.bool false)),r23,r24])])
 (.seq (.ops [m d26 r0,
 .o d27 (.call 65 [r26])])
 (.drw [q 0 (m d29 r0),
 q 0 (o d30 (.nilc r29)),
 q 0 (o d31 (.fad 24 r30)),
 q 0 (o d32 (.ld1 r31)),
 q 0 (m d33 r32),
 q 0 (.g .h2 .h1 false d38 (.op (.mv r0))),
 q 0 (.g .h2 .h1 false d39 (.op (.nilc r38))),
 q 0 (.g .h2 .h1 false d40 (.op (.fad 9 r39))),
 q 0 (.g .h2 .h1 false d41 (.op (.ld1 r40))),
 w (.g .h2 .h1 false d42 (.call 53 [r41])),
 q 1 (m d28 r0),
 q 1 (.g .h2 .h1 false d34 (.op (.mv r0))),
 q 1 (.g .h2 .h1 false d35 (.op (.nilc r34))),
 q 1 (.g .h2 .h1 false d36 (.op (.fad 10 r35))),
 q 1 (.g .h2 .h1 false d37 (.op (.ld1 r36))),
 q 0 (.g .h2 .h1 false d43 (.op (.bin .gt r37 r42))),
 q 0 (o d44 (.pick r33 (.c (.bool true)) r43)),
 q 0 (o d45 (.nilc r28)),
 q 0 (o d46 (.fad 24 r45)),
 w (o .no (.st1 r46 r44))])))
def c78_0 : AC := (.seq (.ops [o d4 (.box 3 r1),
 o d5 (.box 9 r2)])
 (.seq (.seq (.ops [m d7 r0,
 o d8 (.ld1 r4),
 o d9 (.ld1 r5),
 .o d10 (.call 97 [r7,r8,r9]),
 o d11 (.un .not r10)])
 (.cond r11 .ret
 .skip))
 (.seq (.ops [o d6 (.alloc 3 1 (.k1 (.mk (pi 0) .undef .undef .undef .undef .undef .undef .undef .undef .undef .undef .undef .undef .undef .undef .undef))),
 o .no (.st1 r6 (.c (pi 4)))])
 (.seq (.seq (.drw [q 0 (m d12 r0),
 q 0 (o d13 (.ld1 r4)),
 w (.o d14 (.call 109 [r12,r13])),
 q 0 (m d15 r14),
 q 0 (.g .h0 .hf true d16 (.op (.mv r0))),
 q 0 (.g .h0 .hf true d17 (.op (.ld1 r4))),
 w (.g .h0 .hf true d18 (.call 94 [r16,r17])),
 q 1 (.g .h0 .hf true d19 (.op (.ld1 r5))),
 q 0 (.g .h0 .hf true d20 (.op (.bin .seq r18 r19))),
 q 0 (o d21 (.pick r15 r20 (.c (.bool false))))]) c78_1) c78_2))))
def b78 : AC := c78_0
def s78 : List Rs := []
def c79_1 : AC := (.seq (.ops [o d21 (.ld1 r6),
 o d22 (.len r21),
 o d23 (.bin .gt r22 (.c (pi 0)))])
 (.cond r23 (.ops [o d24 (.ld1 r3),
 m d25 r1,
 o d26 (.mkf 137 [r6]),
 .o d27 (.call 122 [r24,r25,(.c (pi 6)),r26])])
 .skip))
def c79_0 : AC := (.seq (.ops [o d3 (.box 88 r0)])
 (.seq (.seq (.ops [m d7 r2,
 o d8 (.ld1 r3),
 o d9 (.nilc r8),
 o d10 (.fad 13 r9),
 o d11 (.fad 0 r10),
 o d12 (.ld1 r11),
 o d13 (.bin .lt r7 r12)])
 (.cond r13 (.ops [o d14 (.ld1 r3),
 m d15 r1,
 o d16 (.mkf 136 [r3]),
 .o d17 (.call 122 [r14,r15,(.c (pi 8)),r16])])
 .skip))
 (.seq (.ops [o d18 (.ld1 r3),
 m d19 r2,
 .o d20 (.call 108 [r18,r19]),
 o d6 (.alloc 135 1 (.k1 (.mk .nils .undef .undef .undef .undef .undef .undef .undef .undef .undef .undef .undef .undef .undef .undef .undef))),
 o .no (.st1 r6 r20)])
 c79_1)))
def b79 : AC := c79_0
def s79 : List Rs := []
def c80_4 : AC := (.block 1 (.seq (.ops [o d40 (.ent r37),
 o d41 (.ext 0 r40),
 o d42 (.ext 1 r40),
 o d4 (.alloc 125 3 (.k1 (.mk (pi 0) (pi 0) (pi 0) .undef .undef .undef .undef .undef .undef .undef .undef .undef .undef .undef .undef .undef))),
 o .no (.stn 3 r4 r41),
 m d5 r42])
 (.seq (.ops [m d44 r0,
 o d45 (.ldn 3 r4),
 .o d46 (.call 138 [r44,r45]),
 m d43 r46,
 o d47 (.ext 0 r43),
 o d48 (.ext 1 r43),
 o d6 (.alloc 127 6 (.k1 (.mk (pi 0) (pi 0) (pi 0) (.bool false) (.str []) (pi 0) .undef .undef .undef .undef .undef .undef .undef .undef .undef .undef))),
 o .no (.stn 6 r6 r47),
 m d7 r48])
 (.seq (.ops [m d49 r7])
 (.cond r49 (.drw [q 0 (m d50 r0),
 q 0 (o d51 (.nilc r50)),
 q 0 (o d52 (.fad 0 r51)),
 q 0 (o d53 (.ld1 r52)),
 q 0 (o d54 (.nilc r53)),
 q 0 (o d55 (.fad 2 r54)),
 q 0 (o d56 (.ld1 r55)),
 q 0 (m d57 r0),
 q 0 (o d58 (.nilc r57)),
 q 0 (o d59 (.fad 1 r58)),
 q 0 (o d60 (.ld1 r59)),
 q 0 (m d61 r5),
 q 0 (o d62 (.fad 4 r6)),
 q 0 (o d63 (.ld1 r62)),
 q 0 (o d64 (.nilc r56)),
 q 0 (m d65 r56),
 w (.o d66 (.inv 1 r65 [r60,r61,r63]))])
 .skip)))))
def c80_3 : AC := (.seq (.cond r39 .skip
 (.exit 0))
 c80_4)
def c80_2 : AC := (.seq (.ops [o d35 (.fad 2 r3),
 o d36 (.ld1 r35),
 o d37 (.rngm r36)])
 (.join (.block 0 (.loop (.seq (.ops [.o d38 (.nxt false r37),
 o d39 (.ext 0 r38)]) c80_3)))))
def c80_5 : AC := (.seq (.ops [m d67 r0,
 .o d68 (.call 65 [r67])])
 (.ops [m d69 r0,
 o d70 (.nilc r69),
 o d71 (.fad 24 r70),
 o .no (.st1 r71 (.c (.bool true)))]))
def c80_1 : AC := (.seq (.drw [q 0 (m d17 r0),
 q 0 (o d18 (.nilc r17)),
 q 0 (o d19 (.fad 0 r18)),
 q 0 (o d20 (.ld1 r19)),
 q 0 (o d21 (.nilc r20)),
 q 0 (o d22 (.fad 2 r21)),
 q 0 (o d23 (.ld1 r22)),
 q 0 (m d24 r0),
 q 0 (o d25 (.nilc r24)),
 q 0 (o d26 (.fad 1 r25)),
 q 0 (o d27 (.ld1 r26)),
 q 0 (o d28 (.fad 1 r3)),
 q 0 (o d29 (.ld1 r28)),
 q 0 (o d30 (.fad 3 r3)),
 q 0 (o d31 (.ld1 r30)),
 q 0 (o d32 (.nilc r23)),
 q 0 (m d33 r23),
 w (.o d34 (.inv 0 r33 [r27,r29,r31]))])
 (.seq c80_2 c80_5))
def c80_0 : AC := (.seq (.ops [o d3 (.box 97 r1)])
 (.seq (.seq (.ops [m d8 r0,
 o d9 (.ldn 4 r3),
 .o d10 (.call 98 [r8,r9]),
 o d11 (.un .not r10)])
 (.cond r11 .ret
 .skip))
 (.seq (.ops [m d12 r0,
 o d13 (.nilc r12),
 o d14 (.fad 19 r13),
 o .no (.st1 r14 (.c (pi 0)))])
 (.seq (.ops [m d15 r0,
 .o d16 (.call 64 [r15])])
 c80_1))))
def b80 : AC := c80_0
def s80 : List Rs := []
def c81_2 : AC := (.cond r20 .skip
 (.exit 0))
def c81_3 : AC := (.seq (.ops [m d23 r0,
 .o d24 (.call 139 [r23]),
 o d5 (.alloc 125 3 (.k1 (.mk (pi 0) (pi 0) (pi 0) .undef .undef .undef .undef .undef .undef .undef .undef .undef .undef .undef .undef .undef))),
 o .no (.stn 3 r5 r24)])
 (.drw [q 0 (m d28 r0),
 w (.o d29 (.call 75 [r28])),
 q 1 (o d25 (.fad 2 r3)),
 q 1 (o d26 (.ld1 r25)),
 q 1 (o d27 (.ldn 3 r5)),
 w (o .no (.mup (.agg [.i,.i,.i]) r26 r27 r29))]))
def c81_4 : AC := (.ops [m d21 r4,
 o d22 (.bin .sub r21 (.c (pi 1))),
 m d4 r22])
def c81_1 : AC := (.seq (.ops [m d12 r0,
 .o d13 (.call 75 [r12]),
 m d4 r13])
 (.block 0 (.loop (.seq (.seq (.ops [m d14 r4,
 o d15 (.bin .gt r14 (.c (pi 0))),
 m d16 r15,
 .g .h1 .h0 true d17 (.op (.mv r0)),
 .g .h1 .h0 true d18 (.call 125 [r17]),
 .g .h1 .h0 true d19 (.op (.un .not r18)),
 o d20 (.pick r16 r19 (.c (.bool false)))]) c81_2) (.seq (.block 1 c81_3) c81_4)))))
def c81_5 : AC := (.seq (.ops [m d30 r0,
 .o d31 (.call 95 [r30]),
 o d32 (.fad 3 r3),
 o .no (.st1 r32 r31)])
 (.seq (.ops [o d33 (.ldn 4 r3),
 o .no (.stn 4 r2 r33)])
 .ret))
def c81_0 : AC := (.seq (.ops [o d2 (.alloc 97 4 (.k1 (.mk (pi 0) (pi 0) .nilm (.str []) .undef .undef .undef .undef .undef .undef .undef .undef .undef .undef .undef .undef)))])
 (.seq (.ops [m d6 r0,
 .o d7 (.call 75 [r6]),
 m d8 r0,
 .o d9 (.call 75 [r8]),
 o d10 (.mkmap),
 o d11 (.build [(pi 0),(pi 0),.nilm,(.str [])] [.mk 0 1 r7,.mk 1 1 r9,.mk 2 1 r10]),
 o d3 (.alloc 97 4 (.k1 (.mk (pi 0) (pi 0) .nilm (.str []) .undef .undef .undef .undef .undef .undef .undef .undef .undef .undef .undef .undef))),
 o .no (.stn 4 r3 r11)])
 (.seq c81_1 c81_5)))
def b81 : AC := c81_0
def s81 : List Rs := [.agg 4 .h0 .h2]
def c82_0 : AC := (.seq (.ops [m d2 (.c (pi 0))])
 (.seq (.drw [q 0 (m d3 r0),
 q 0 (o d4 (.nilc r3)),
 q 0 (o d5 (.fad 1 r4)),
 q 0 (o d6 (.ld1 r5)),
 q 0 (o d7 (.bin .mul (.c (pi 150)) r6)),
 q 0 (o d8 (.bin .add (.c (pi 300)) r7)),
 q 0 (m d9 r0),
 q 0 (o d10 (.nilc r9)),
 q 0 (o d11 (.fad 22 r10)),
 q 0 (o d12 (.ld1 r11)),
 q 0 (o d13 (.max true [r12,(.c (pi 7))])),
 q 0 (o d14 (.bin .shl r8 r13)),
 q 0 (m d2 r14)])
 .ret))
def b82 : AC := c82_0
def s82 : List Rs := [.t .h0 .h2]
def c83_1 : AC := (.seq (.ops [o d13 (.bin .lt r12 r11)])
 (.seq (.cond r13 .skip
 (.exit 0))
 (.seq (.block 1 (.seq (.ops [m d14 r12,
 m d6 r14])
 (.seq (.ops [m d15 r6,
 m d16 r0,
 o d17 (.nilc r16),
 o d18 (.fad 1 r17),
 o d19 (.ld1 r18),
 o d20 (.bin .ne r15 r19)])
 (.cond r20 (.ops [m d21 r0,
 m d22 r6,
 m d23 r1,
 m d24 r2,
 .o d25 (.call 122 [r21,r22,r23,r24])])
 .skip))))
 (.ops [o d26 (.bin .add r12 (.c (pi 1))),
 m d12 r26]))))
def c83_0 : AC := (.seq (.ops [m d7 r0,
 o d8 (.nilc r7),
 o d9 (.fad 0 r8),
 o d10 (.ld1 r9),
 .o d11 (.call 59 [r10]),
 m d12 (.c (pi 0))])
 (.block 0 (.loop c83_1)))
def b83 : AC := c83_0
def s83 : List Rs := []
def c84_0 : AC := (.ops [m d3 r0,
 o d4 (.ld1 r1),
 .o d5 (.call 85 [r3,r4])])
def b84 : AC := c84_0
def s84 : List Rs := []
def c85_0 : AC := (.ops [m d4 r0,
 m d5 r1,
 o d6 (.conv (.toInt .u64) r5),
 .o d7 (.call 140 [r4,r6,(.c (pi 8))])])
def b85 : AC := c85_0
def s85 : List Rs := []
def c86_3 : AC := (.ops [o d35 (.bin .add r12 (.c (pi 1))),
 m d12 r35])
def c86_2 : AC := (.seq (.block 1 (.seq (.ops [o d14 (.ixs 1 r10 r12),
 o d15 (.ld1 r14),
 m d3 r15])
 (.seq (.ops [m d17 r0,
 o d18 (.nilc r17),
 o d19 (.fad 8 r18),
 o d20 (.ld1 r19),
 m d21 r3,
 .o d22 (.call 131 [r20,r21,(.c (.str []))]),
 m d16 r22,
 o d23 (.ext 0 r16),
 o d24 (.ext 1 r16),
 m d4 r23,
 m d5 r24])
 (.seq (.ops [m d25 r5])
 (.cond r25 (.ops [m d26 r0,
 m d27 r0,
 o d28 (.nilc r27),
 o d29 (.fad 8 r28),
 o d30 (.ld1 r29),
 .o d31 (.call 126 [r30]),
 m d32 r3,
 m d33 r4,
 .o d34 (.call 142 [r26,r31,r32,r33])])
 .skip)))))
 c86_3)
def c86_1 : AC := (.seq (.ops [o d13 (.bin .lt r12 r11)])
 (.seq (.cond r13 .skip
 (.exit 0))
 c86_2))
def c86_0 : AC := (.seq (.ops [m d6 r0,
 o d7 (.nilc r6),
 o d8 (.fad 8 r7),
 o d9 (.ld1 r8),
 .o d10 (.call 141 [r9]),
 o d11 (.len r10),
 m d12 (.c (pi 0))])
 (.block 0 (.loop c86_1)))
def c86_4 : AC := (.ops [m d36 r0,
 .o d37 (.call 66 [r36])])
def b86 : AC := (.seq c86_0 c86_4)
def s86 : List Rs := []
def c87_0 : AC := (.seq (.ops [m d2 (.c (pi 0))])
 (.seq (.ops [m d3 r0,
 o d4 (.nilc r3),
 o d5 (.fad 1 r4),
 o d6 (.ld1 r5),
 m d2 r6])
 .ret))
def b87 : AC := c87_0
def s87 : List Rs := [.t .h0 .h2]
def c88_2 : AC := (.drw [q 0 (m d32 r0),
 q 0 (o d33 (.nilc r32)),
 q 0 (o d34 (.fad 0 r33)),
 q 0 (o d35 (.ld1 r34)),
 q 0 (o d36 (.nilc r35)),
 q 0 (o d37 (.fad 2 r36)),
 q 0 (o d38 (.ld1 r37)),
 q 0 (m d39 r0),
 q 0 (o d40 (.nilc r39)),
 q 0 (o d41 (.fad 1 r40)),
 q 0 (o d42 (.ld1 r41)),
 q 0 (o d43 (.fad 1 r3)),
 q 0 (o d44 (.ld1 r43)),
 q 0 (o d45 (.fad 3 r3)),
 q 0 (o d46 (.ld1 r45)),
 q 0 (o d47 (.nilc r38)),
 q 0 (m d48 r38),
 w (.o d49 (.inv 2 r48 [r42,r44,r46]))])
def c88_1 : AC := (.seq (.drw [q 0 (m d22 r0),
 q 0 (m d23 r0),
 q 0 (o d24 (.nilc r23)),
 q 0 (o d25 (.fad 10 r24)),
 q 0 (o d26 (.ld1 r25)),
 q 0 (o d27 (.fad 0 r3)),
 q 0 (o d28 (.ld1 r27)),
 q 0 (o d29 (.max false [r26,r28])),
 q 0 (o d30 (.nilc r22)),
 q 0 (o d31 (.fad 10 r30)),
 w (o .no (.st1 r31 r29))])
 c88_2)
def c88_0 : AC := (.seq (.ops [o d3 (.box 97 r1)])
 (.seq (.ops [m d4 r0,
 o d5 (.ldn 4 r3),
 o d6 (.nilc r4),
 o d7 (.fad 13 r6),
 o .no (.stn 4 r7 r5)])
 (.seq (.drw [q 0 (m d8 r0),
 q 0 (o d9 (.nilc r8)),
 q 0 (o d10 (.fad 7 r9)),
 q 0 (o d11 (.ld1 r10)),
 q 0 (o d12 (.fad 0 r3)),
 q 0 (o d13 (.ld1 r12)),
 w (.o d14 (.call 143 [r11,r13]))])
 (.seq (.drw [q 0 (m d15 r0),
 q 0 (o d16 (.nilc r15)),
 q 0 (o d17 (.fad 9 r16)),
 q 0 (o d18 (.ld1 r17)),
 q 0 (o d19 (.fad 0 r3)),
 q 0 (o d20 (.ld1 r19)),
 w (.o d21 (.call 144 [r18,r20]))])
 c88_1))))
def b88 : AC := c88_0
def s88 : List Rs := []
def c89_4 : AC := (.ops [m d17 r6,
 o d18 (.bin .add r17 (.c (pi 1))),
 m d6 r18])
def c89_3 : AC := (.seq (.block 1 (.seq (.ops [m d20 r0,
 o d21 (.nilc r20),
 o d22 (.fad 2 r21),
 o d23 (.ld1 r22),
 m d24 r6,
 o d25 (.lkp (.one .i) (.agg [(pi 0),(pi 0),(pi 0),(.str [])]) true r23 r24),
 m d19 r25,
 o d26 (.ext 0 r19),
 o d27 (.ext 1 r19),
 o d7 (.alloc 138 4 (.k1 (.mk (pi 0) (pi 0) (pi 0) (.str []) .undef .undef .undef .undef .undef .undef .undef .undef .undef .undef .undef .undef))),
 o .no (.stn 4 r7 r26),
 m d8 r27])
 (.seq (.ops [m d28 r8])
 (.cond r28 (.ops [m d29 r5,
 o d30 (.ldn 4 r7),
 o d31 (.bslice 138 4 1 [(pi 0),(pi 0),(pi 0),(.str [])] [.mk 0 4 r30]),
 o d32 (.app 138 4 r29 r31),
 m d5 r32])
 .skip))))
 c89_4)
def c89_2 : AC := (.seq (.seq (.ops [m d11 r6,
 m d12 r0,
 o d13 (.nilc r12),
 o d14 (.fad 3 r13),
 o d15 (.ld1 r14),
 o d16 (.bin .lt r11 r15)])
 (.cond r16 .skip
 (.exit 0)))
 c89_3)
def c89_1 : AC := (.seq (.ops [m d9 r1,
 o d10 (.max false [r9,(.c (pi 0))]),
 m d6 r10])
 (.block 0 (.loop c89_2)))
def c89_5 : AC := (.seq (.ops [m d33 r5,
 m d4 r33])
 .ret)
def c89_0 : AC := (.seq (.ops [m d4 (.c .nils)])
 (.seq (.ops [m d5 (.c .nils)])
 (.seq c89_1 c89_5)))
def b89 : AC := c89_0
def s89 : List Rs := [.t .h0 .h4]
def c90_0 : AC := (.seq (.ops [m d4 (.c (.str [])),
 m d5 (.c (.bool false))])
 (.seq (.ops [m d9 r0,
 o d10 (.nilc r9),
 o d11 (.fad 0 r10),
 o d12 (.ld1 r11),
 m d13 r1,
 o d14 (.lkp (.one .i) (.str []) true r12 r13),
 m d8 r14,
 o d15 (.ext 0 r8),
 o d16 (.ext 1 r8),
 m d6 r15,
 m d7 r16])
 (.seq (.ops [m d17 r6,
 m d18 r7,
 m d4 r17,
 m d5 r18])
 .ret)))
def b90 : AC := c90_0
def s90 : List Rs := [.t .h0 .h4,.t .h0 .h5]
def c91_1 : AC := (.cond r16 (.seq (.ops [m d2 (.c .nils),
 m d3 (.c (.bool false))])
 .ret)
 .skip)
def c91_2 : AC := (.seq (.ops [m d17 r0,
 o d18 (.slc 1 r17 (.some (.c (pi 4))) .none .none),
 .o d19 (.call 92 [r18]),
 m d2 r19,
 m d3 (.c (.bool true))])
 .ret)
def c91_0 : AC := (.seq (.ops [m d2 (.c .nils),
 m d3 (.c (.bool false))])
 (.seq (.seq (.drw [q 0 (m d4 r0),
 q 0 (o d5 (.len r4)),
 q 0 (o d6 (.bin .lt r5 (.c (pi 4)))),
 q 0 (m d7 r6),
 q 0 (.g .h0 .h7 false d8 (.op (.mv r0))),
 q 0 (.g .h0 .h7 false d9 (.op (.slc 1 r8 (.some (.c (pi 4))) .none .none))),
 w (.g .h0 .h7 false d10 (.call 146 [r9])),
 q 0 (.g .h0 .h7 false d11 (.op (.slc 1 r10 .none (.some (.c (pi 4))) .none))),
 q 1 (.g .h0 .h7 false d12 (.op (.mv r0))),
 q 1 (.g .h0 .h7 false d13 (.op (.slc 1 r12 .none (.some (.c (pi 4))) .none))),
 w (.g .h0 .h7 false d14 (.call 145 [r11,r13])),
 q 0 (.g .h0 .h7 false d15 (.op (.un .not r14))),
 q 0 (o d16 (.pick r7 (.c (.bool true)) r15))]) c91_1) c91_2))
def b91 : AC := c91_0
def s91 : List Rs := [.t .h0 .h2,.t .h0 .h3]
def c92_0 : AC := (.seq (.ops [m d2 (.c .nils)])
 (.seq (.seq (.ops [m d3 r0,
 o d4 (.bin (.isnil .s) r3 (.c .nils))])
 (.cond r4 (.seq (.ops [m d2 (.c .nils)])
 .ret)
 .skip))
 (.seq (.ops [o d5 (.bslice 5 1 0 [] []),
 m d6 r0,
 o d7 (.app 5 1 r5 r6),
 m d2 r7])
 .ret)))
def b92 : AC := c92_0
def s92 : List Rs := [.t .h0 .h2]
def c93_0 : AC := (.seq (.ops [o d4 (.box 129 r1),
 m d6 (.c (.bool false)),
 m d7 (.c .nils)])
 (.seq (.seq (.drw [q 0 (m d8 r0),
 q 0 (o d9 (.nilc r8)),
 q 0 (o d10 (.fad 0 r9)),
 q 0 (o d11 (.ldn 2 r10)),
 q 0 (o d12 (.ldn 2 r4)),
 w (.o d13 (.call 133 [r11,r12])),
 q 0 (o d14 (.un .not r13))])
 (.cond r14 (.seq (.ops [m d6 (.c (.bool false)),
 m d7 (.c .nils)])
 .ret)
 .skip))
 (.seq (.ops [m d15 r0,
 o d16 (.ldn 2 r4),
 o d17 (.nilc r15),
 o d18 (.fad 0 r17),
 o .no (.stn 2 r18 r16)])
 (.seq (.ops [m d19 r0,
 m d20 r2,
 .o d21 (.call 89 [r19,r20]),
 m d6 (.c (.bool true)),
 m d7 r21])
 .ret))))
def b93 : AC := c93_0
def s93 : List Rs := [.t .h0 .h6,.t .h0 .h7]
def c94_0 : AC := (.seq (.ops [m d4 (.c (.str []))])
 (.seq (.ops [m d8 r0,
 o d9 (.nilc r8),
 o d10 (.fad 7 r9),
 o d11 (.ld1 r10),
 m d12 r1,
 .o d13 (.call 147 [r11,r12]),
 m d7 r13,
 o d14 (.ext 0 r7),
 o d15 (.ext 1 r7),
 o d5 (.alloc 138 4 (.k1 (.mk (pi 0) (pi 0) (pi 0) (.str []) .undef .undef .undef .undef .undef .undef .undef .undef .undef .undef .undef .undef))),
 o .no (.stn 4 r5 r14),
 m d6 r15])
 (.seq (.ops [o d16 (.fad 3 r5),
 o d17 (.ld1 r16),
 m d4 r17])
 .ret)))
def b94 : AC := c94_0
def s94 : List Rs := [.t .h0 .h4]
def c95_2 : AC := (.cond r15 .skip
 (.exit 0))
def c95_3 : AC := (.block 1 (.ops [m d16 r3,
 m d17 r0,
 .o d18 (.call 148 [r17,(.c (pi 65535))]),
 o d19 (.apps 5 r16 r18),
 m d3 r19]))
def c95_1 : AC := (.seq (.ops [m d5 r0,
 .o d6 (.call 75 [r5]),
 m d4 r6])
 (.block 0 (.loop (.seq (.seq (.ops [m d7 r3,
 o d8 (.len r7),
 m d9 r4,
 o d10 (.bin .lt r8 r9),
 m d11 r10,
 .g .h0 .hb true d12 (.op (.mv r0)),
 .g .h0 .hb true d13 (.call 125 [r12]),
 .g .h0 .hb true d14 (.op (.un .not r13)),
 o d15 (.pick r11 r14 (.c (.bool false)))]) c95_2) c95_3))))
def c95_4 : AC := (.seq (.ops [m d20 r3,
 o d21 (.conv .b2s r20),
 m d2 r21])
 .ret)
def c95_0 : AC := (.seq (.ops [m d2 (.c (.str []))])
 (.seq (.ops [m d3 (.c .nils)])
 (.seq c95_1 c95_4)))
def b95 : AC := c95_0
def s95 : List Rs := [.t .h0 .h2]
def c96_1 : AC := (.seq (.drw [q 0 (m d16 r0),
 q 0 (o d17 (.nilc r16)),
 q 0 (o d18 (.fad 2 r17)),
 q 0 (o d19 (.ld1 r18)),
 q 0 (o d20 (.fad 0 r3)),
 q 0 (o d21 (.ld1 r20)),
 q 0 (o d22 (.ldn 4 r3)),
 w (o .no (.mup (.one .i) r19 r21 r22))])
 (.drw [q 0 (m d23 r0),
 q 0 (m d24 r0),
 q 0 (o d25 (.nilc r24)),
 q 0 (o d26 (.fad 3 r25)),
 q 0 (o d27 (.ld1 r26)),
 q 0 (o d28 (.fad 0 r3)),
 q 0 (o d29 (.ld1 r28)),
 q 0 (o d30 (.bin .add r29 (.c (pi 1)))),
 q 0 (o d31 (.max false [r27,r30])),
 q 0 (o d32 (.nilc r23)),
 q 0 (o d33 (.fad 3 r32)),
 w (o .no (.st1 r33 r31))]))
def c96_0 : AC := (.seq (.ops [o d3 (.box 138 r1)])
 (.seq (.seq (.drw [q 0 (m d4 r0),
 q 0 (o d5 (.nilc r4)),
 q 0 (o d6 (.fad 0 r5)),
 q 0 (o d7 (.ldn 2 r6)),
 q 0 (o d8 (.fad 1 r3)),
 q 0 (o d9 (.ldn 2 r8)),
 w (.o d10 (.call 133 [r7,r9]))])
 (.cond r10 (.ops [m d11 r0,
 o d12 (.fad 1 r3),
 o d13 (.ldn 2 r12),
 o d14 (.nilc r11),
 o d15 (.fad 0 r14),
 o .no (.stn 2 r15 r13)])
 .skip))
 c96_1))
def b96 : AC := c96_0
def s96 : List Rs := []
def c97_1 : AC := (.cond r23 (.seq (.ops [m d6 (.c (.bool false))])
 .ret)
 .skip)
def c97_2 : AC := (.seq (.ops [m d24 r0,
 m d25 r0,
 o d26 (.nilc r25),
 o d27 (.fad 10 r26),
 o d28 (.ld1 r27),
 m d29 r1,
 o d30 (.bin .add r29 (.c (pi 1))),
 o d31 (.max false [r28,r30]),
 o d32 (.nilc r24),
 o d33 (.fad 10 r32),
 o .no (.st1 r33 r31)])
 (.seq (.ops [m d6 (.c (.bool true))])
 .ret))
def c97_0 : AC := (.seq (.ops [m d6 (.c (.bool false))])
 (.seq (.seq (.ops [m d7 r1,
 m d8 r0,
 o d9 (.nilc r8),
 o d10 (.fad 13 r9),
 o d11 (.fad 0 r10),
 o d12 (.ld1 r11),
 o d13 (.bin .lt r7 r12),
 m d14 r13,
 .g .h0 .he false d15 (.op (.mv r0)),
 .g .h0 .he false d16 (.op (.nilc r15)),
 .g .h0 .he false d17 (.op (.fad 9 r16)),
 .g .h0 .he false d18 (.op (.ld1 r17)),
 .g .h0 .he false d19 (.op (.mv r1)),
 .g .h0 .he false d20 (.op (.mv r2)),
 .g .h0 .he false d21 (.call 149 [r18,r19,r20]),
 .g .h0 .he false d22 (.op (.un .not r21)),
 o d23 (.pick r14 (.c (.bool true)) r22)]) c97_1) c97_2))
def b97 : AC := c97_0
def s97 : List Rs := [.t .h0 .h6]
def c98_1 : AC := (.cond r24 (.seq (.ops [m d4 (.c (.bool false))])
 .ret)
 .skip)
def c98_4 : AC := (.seq (.cond r42 .skip
 (.exit 0))
 (.block 1 (.seq (.ops [o d43 (.ent r40),
 o d44 (.ext 0 r43),
 o d45 (.ext 1 r43),
 o d5 (.alloc 125 3 (.k1 (.mk (pi 0) (pi 0) (pi 0) .undef .undef .undef .undef .undef .undef .undef .undef .undef .undef .undef .undef .undef))),
 o .no (.stn 3 r5 r44),
 m d6 r45])
 (.drw [q 0 (m d46 r0),
 q 0 (o d47 (.nilc r46)),
 q 0 (o d48 (.fad 11 r47)),
 q 0 (o d49 (.ld1 r48)),
 q 0 (o d50 (.ldn 3 r5)),
 q 0 (m d51 r6),
 q 0 (o d52 (.build [(pi 0),(pi 0)] [.mk 0 1 (.c (ni 0)),.mk 1 1 r51])),
 w (o .no (.mup (.agg [.i,.i,.i]) r49 r50 r52))]))))
def c98_3 : AC := (.seq (.ops [o d38 (.fad 2 r3),
 o d39 (.ld1 r38),
 o d40 (.rngm r39)])
 (.join (.block 0 (.loop (.seq (.ops [.o d41 (.nxt false r40),
 o d42 (.ext 0 r41)]) c98_4)))))
def c98_6 : AC := (.seq (.drw [q 0 (m d67 r0),
 q 0 (m d68 r0),
 q 0 (o d69 (.nilc r68)),
 q 0 (o d70 (.fad 10 r69)),
 q 0 (o d71 (.ld1 r70)),
 q 0 (o d72 (.fad 0 r3)),
 q 0 (o d73 (.ld1 r72)),
 q 0 (o d74 (.max false [r71,r73])),
 q 0 (o d75 (.nilc r67)),
 q 0 (o d76 (.fad 10 r75)),
 w (o .no (.st1 r76 r74))])
 (.seq (.ops [m d4 (.c (.bool true))])
 .ret))
def c98_5 : AC := (.seq (.drw [q 0 (m d53 r0),
 q 0 (o d54 (.nilc r53)),
 q 0 (o d55 (.fad 7 r54)),
 q 0 (o d56 (.ld1 r55)),
 q 0 (o d57 (.fad 0 r3)),
 q 0 (o d58 (.ld1 r57)),
 w (.o d59 (.call 143 [r56,r58]))])
 (.seq (.drw [q 0 (m d60 r0),
 q 0 (o d61 (.nilc r60)),
 q 0 (o d62 (.fad 9 r61)),
 q 0 (o d63 (.ld1 r62)),
 q 0 (o d64 (.fad 0 r3)),
 q 0 (o d65 (.ld1 r64)),
 w (.o d66 (.call 150 [r63,r65]))])
 c98_6))
def c98_2 : AC := (.seq (.ops [m d34 r0,
 o d35 (.mkmap),
 o d36 (.nilc r34),
 o d37 (.fad 11 r36),
 o .no (.st1 r37 r35)])
 (.seq c98_3 c98_5))
def c98_0 : AC := (.seq (.ops [o d3 (.box 97 r1),
 m d4 (.c (.bool false))])
 (.seq (.seq (.drw [q 0 (m d9 r0),
 q 0 (o d10 (.nilc r9)),
 q 0 (o d11 (.fad 9 r10)),
 q 0 (o d12 (.ld1 r11)),
 w (.o d13 (.call 87 [r12])),
 q 1 (o d7 (.fad 0 r3)),
 q 1 (o d8 (.ld1 r7)),
 q 0 (o d14 (.bin .le r8 r13)),
 q 0 (m d15 r14),
 q 0 (.g .h0 .hf false d16 (.op (.fad 0 r3))),
 q 0 (.g .h0 .hf false d17 (.op (.ld1 r16))),
 q 0 (.g .h0 .hf false d18 (.op (.mv r0))),
 q 0 (.g .h0 .hf false d19 (.op (.nilc r18))),
 q 0 (.g .h0 .hf false d20 (.op (.fad 13 r19))),
 q 0 (.g .h0 .hf false d21 (.op (.fad 0 r20))),
 q 0 (.g .h0 .hf false d22 (.op (.ld1 r21))),
 q 0 (.g .h0 .hf false d23 (.op (.bin .le r17 r22))),
 q 0 (o d24 (.pick r15 (.c (.bool true)) r23))]) c98_1) (.seq (.drw [q 0 (m d25 r0),
 q 0 (o d27 (.ldn 4 r3)),
 q 0 (o d30 (.nilc r25)),
 q 0 (o d31 (.fad 13 r30)),
 w (o .no (.stn 4 r31 r27)),
 q 1 (m d26 r0),
 q 1 (o d28 (.fad 1 r3)),
 q 1 (o d29 (.ld1 r28)),
 q 0 (o d32 (.nilc r26)),
 q 0 (o d33 (.fad 12 r32)),
 w (o .no (.st1 r33 r29))]) c98_2)))
def b98 : AC := c98_0
def s98 : List Rs := [.t .h0 .h4]
def c99_0 : AC := (.seq (.ops [m d4 (.c .nils)])
 (.seq (.ops [.o d6 (.call 151 []),
 m d5 r6])
 (.seq (.ops [m d7 r5,
 m d8 r0,
 .o d9 (.call 152 [r7,r8])])
 (.seq (.ops [m d10 r1,
 m d11 r5,
 .o d12 (.calld r10 [r11])])
 (.seq (.ops [m d13 r5,
 .o d14 (.call 154 [r13]),
 .o d15 (.call 153 [r14]),
 m d4 r15])
 .ret)))))
def b99 : AC := c99_0
def s99 : List Rs := [.t .h0 .h4]
def c100_0 : AC := (.ops [m d3 r0,
 o d4 (.ld1 r1),
 o d5 (.nilc r4),
 o d6 (.fad 6 r5),
 o d7 (.ld1 r6),
 .o d8 (.call 85 [r3,r7])])
def b100 : AC := c100_0
def s100 : List Rs := []
def c101_0 : AC := (.ops [m d3 r0,
 o d4 (.ld1 r1),
 o d5 (.nilc r4),
 o d6 (.fad 13 r5),
 o d7 (.ldn 4 r6),
 .o d8 (.call 102 [r3,r7])])
def b101 : AC := c101_0
def s101 : List Rs := []
def c102_2 : AC := (.seq (.ops [o d26 (.bin .lt r25 r24)])
 (.seq (.cond r26 .skip
 (.exit 0))
 (.seq (.block 1 (.seq (.ops [o d27 (.ixs 3 r23 r25),
 o d28 (.ldn 3 r27),
 o d5 (.alloc 125 3 (.k1 (.mk (pi 0) (pi 0) (pi 0) .undef .undef .undef .undef .undef .undef .undef .undef .undef .undef .undef .undef .undef))),
 o .no (.stn 3 r5 r28)])
 (.seq (.ops [m d29 r0,
 o d30 (.ldn 3 r5),
 .o d31 (.call 158 [r29,r30])])
 (.ops [m d32 r0,
 o d33 (.fad 2 r3),
 o d34 (.ld1 r33),
 o d35 (.ldn 3 r5),
 o d36 (.lkp (.agg [.i,.i,.i]) (pi 0) false r34 r35),
 .o d37 (.call 85 [r32,r36])]))))
 (.ops [o d38 (.bin .add r25 (.c (pi 1))),
 m d25 r38]))))
def c102_1 : AC := (.seq (.ops [o d19 (.fad 2 r3),
 o d20 (.ld1 r19),
 .o d21 (.call 156 [r20]),
 o d22 (.mkf 157 [r3]),
 .o d23 (.call 155 [r21,r22]),
 o d24 (.len r23),
 m d25 (.c (pi 0))])
 (.block 0 (.loop c102_2)))
def c102_3 : AC := (.ops [m d39 r0,
 o d40 (.fad 3 r3),
 o d41 (.ld1 r40),
 .o d42 (.call 105 [r39,r41])])
def c102_0 : AC := (.seq (.ops [o d3 (.box 97 r1)])
 (.seq (.ops [m d6 r0,
 o d7 (.fad 0 r3),
 o d8 (.ld1 r7),
 .o d9 (.call 85 [r6,r8])])
 (.seq (.ops [m d10 r0,
 o d11 (.fad 1 r3),
 o d12 (.ld1 r11),
 .o d13 (.call 85 [r10,r12])])
 (.seq (.ops [m d14 r0,
 o d15 (.fad 2 r3),
 o d16 (.ld1 r15),
 o d17 (.lenm r16),
 .o d18 (.call 85 [r14,r17])])
 (.seq c102_1 c102_3)))))
def b102 : AC := c102_0
def s102 : List Rs := []
def c103_0 : AC := (.seq (.ops [m d3 r0,
 o d4 (.fad 1 r1),
 o d5 (.ldn 2 r4),
 .o d6 (.call 104 [r3,r5])])
 (.seq (.ops [m d7 r0,
 o d8 (.fad 0 r1),
 o d9 (.ld1 r8),
 .o d10 (.call 85 [r7,r9])])
 (.ops [m d11 r0,
 o d12 (.fad 3 r1),
 o d13 (.ld1 r12),
 .o d14 (.call 105 [r11,r13])])))
def b103 : AC := c103_0
def s103 : List Rs := []
def c104_0 : AC := (.seq (.ops [o d3 (.box 129 r1)])
 (.seq (.ops [m d4 r0,
 o d5 (.fad 0 r3),
 o d6 (.ld1 r5),
 .o d7 (.call 85 [r4,r6])])
 (.ops [m d8 r0,
 o d9 (.fad 1 r3),
 o d10 (.ld1 r9),
 .o d11 (.call 85 [r8,r10])])))
def b104 : AC := c104_0
def s104 : List Rs := []
def c105_1 : AC := (.seq (.seq (.ops [m d9 r1,
 o d10 (.lent r9),
 o d11 (.bin .gt r10 (.c (pi 0)))])
 (.cond r11 .skip
 (.exit 0)))
 (.block 1 (.seq (.ops [m d12 r1,
 o d13 (.lent r12),
 o d14 (.max true [r13,(.c (pi 65535))]),
 m d4 r14])
 (.seq (.ops [m d15 r0,
 m d16 r1,
 m d17 r4,
 o d18 (.slcs r16 .none (.some r17)),
 .o d19 (.call 159 [r15,r18])])
 (.ops [m d20 r1,
 m d21 r4,
 o d22 (.slcs r20 (.some r21) .none),
 m d1 r22])))))
def c105_0 : AC := (.seq (.ops [m d5 r0,
 m d6 r1,
 o d7 (.lent r6),
 .o d8 (.call 85 [r5,r7])])
 (.block 0 (.loop c105_1)))
def b105 : AC := c105_0
def s105 : List Rs := []
def c106_0 : AC := (.ops [m d3 r0,
 o d4 (.ld1 r1),
 o d5 (.nilc r4),
 o d6 (.fad 7 r5),
 o d7 (.ld1 r6),
 .o d8 (.call 107 [r7]),
 .o d9 (.call 104 [r3,r8])])
def b106 : AC := c106_0
def s106 : List Rs := []
def c107_0 : AC := (.seq (.ops [o d2 (.alloc 129 2 (.k1 (.mk (pi 0) (pi 0) .undef .undef .undef .undef .undef .undef .undef .undef .undef .undef .undef .undef .undef .undef)))])
 (.seq (.ops [m d3 r0,
 o d4 (.nilc r3),
 o d5 (.fad 0 r4),
 o d6 (.ldn 2 r5),
 o .no (.stn 2 r2 r6)])
 .ret))
def b107 : AC := c107_0
def s107 : List Rs := [.agg 2 .h0 .h2]
def c108_4 : AC := (.ops [m d22 r6,
 o d23 (.bin .add r22 (.c (pi 1))),
 m d6 r23])
def c108_3 : AC := (.seq (.block 1 (.seq (.ops [m d25 r0,
 o d26 (.nilc r25),
 o d27 (.fad 9 r26),
 o d28 (.ld1 r27),
 m d29 r6,
 .o d30 (.call 90 [r28,r29]),
 m d24 r30,
 o d31 (.ext 0 r24),
 o d32 (.ext 1 r24),
 m d7 r31,
 m d8 r32])
 (.seq (.ops [m d33 r8])
 (.cond r33 (.ops [m d34 r5,
 m d35 r6,
 m d36 r7,
 o d37 (.build [(pi 0),(pi 0),(pi 0),(.str [])] [.mk 0 1 r35,.mk 3 1 r36]),
 o d38 (.bslice 138 4 1 [(pi 0),(pi 0),(pi 0),(.str [])] [.mk 0 4 r37]),
 o d39 (.app 138 4 r34 r38),
 m d5 r39])
 .skip))))
 c108_4)
def c108_2 : AC := (.seq (.seq (.ops [m d16 r6,
 m d17 r0,
 o d18 (.nilc r17),
 o d19 (.fad 10 r18),
 o d20 (.ld1 r19),
 o d21 (.bin .lt r16 r20)])
 (.cond r21 .skip
 (.exit 0)))
 c108_3)
def c108_1 : AC := (.seq (.ops [m d9 r1,
 m d10 r0,
 o d11 (.nilc r10),
 o d12 (.fad 13 r11),
 o d13 (.fad 0 r12),
 o d14 (.ld1 r13),
 o d15 (.max false [r9,r14]),
 m d6 r15])
 (.block 0 (.loop c108_2)))
def c108_5 : AC := (.seq (.ops [m d40 r5,
 m d4 r40])
 .ret)
def c108_0 : AC := (.seq (.ops [m d4 (.c .nils)])
 (.seq (.ops [m d5 (.c .nils)])
 (.seq c108_1 c108_5)))
def b108 : AC := c108_0
def s108 : List Rs := [.t .h0 .h4]
def c109_0 : AC := (.seq (.ops [m d4 (.c (.bool false))])
 (.seq (.ops [m d8 r0,
 o d9 (.nilc r8),
 o d10 (.fad 7 r9),
 o d11 (.ld1 r10),
 m d12 r1,
 .o d13 (.call 147 [r11,r12]),
 m d7 r13,
 o d14 (.ext 0 r7),
 o d15 (.ext 1 r7),
 o d5 (.alloc 138 4 (.k1 (.mk (pi 0) (pi 0) (pi 0) (.str []) .undef .undef .undef .undef .undef .undef .undef .undef .undef .undef .undef .undef))),
 o .no (.stn 4 r5 r14),
 m d6 r15])
 (.seq (.ops [m d16 r6,
 m d4 r16])
 .ret)))
def b109 : AC := c109_0
def s109 : List Rs := [.t .h0 .h4]
def c110_0 : AC := (.seq (.ops [o d4 (.box 3 r1),
 o d5 (.box 138 r2),
 m d6 (.c .nils)])
 (.seq (.ops [o d7 (.ld1 r4),
 o d8 (.mkf 160 [r5,r4]),
 .o d9 (.call 99 [r7,r8]),
 m d6 r9])
 .ret))
def b110 : AC := c110_0
def s110 : List Rs := [.t .h0 .h6]
def c111_0 : AC := (.seq (.ops [m d4 (.c (pi 0))])
 (.seq (.seq (.ops [m d5 r1,
 o d6 (.len r5),
 o d7 (.bin .gt r6 (.c (pi 4194304)))])
 (.cond r7 (.seq (.ops [m d4 (.c (pi 13))])
 .ret)
 .skip))
 (.seq (.ops [m d8 r0,
 m d9 r1,
 .o d10 (.call 92 [r9]),
 o d11 (.nilc r8),
 o d12 (.fad 0 r11),
 o .no (.st1 r12 r10)])
 (.seq (.ops [m d13 r0,
 m d14 r0,
 o d15 (.nilc r14),
 o d16 (.fad 0 r15),
 o d17 (.ld1 r16),
 o d18 (.len r17),
 o d19 (.nilc r13),
 o d20 (.fad 1 r19),
 o .no (.st1 r20 r18)])
 (.seq (.ops [m d4 (.c (pi 0))])
 .ret)))))
def b111 : AC := c111_0
def s111 : List Rs := [.t .h0 .h4]
def c112_3 : AC := (.ops [m d13 r0,
 o d14 (.nilc r13),
 o d15 (.fad 1 r14),
 o d16 (.ld1 r15),
 o d17 (.bin .add r16 (.c (pi 1))),
 o d18 (.nilc r13),
 o d19 (.fad 1 r18),
 o .no (.st1 r19 r17)])
def c112_2 : AC := (.seq (.seq (.ops [m d7 r0,
 o d8 (.nilc r7),
 o d9 (.fad 1 r8),
 o d10 (.ld1 r9),
 m d11 r4,
 o d12 (.bin .lt r10 r11)])
 (.cond r12 .skip
 (.exit 0)))
 (.seq (.block 1 (.drw [q 0 (m d21 r0),
 q 0 (o d22 (.nilc r21)),
 q 0 (o d23 (.fad 0 r22)),
 q 0 (o d24 (.ld1 r23)),
 q 0 (m d25 r0),
 q 0 (o d26 (.nilc r25)),
 q 0 (o d27 (.fad 1 r26)),
 q 0 (o d28 (.ld1 r27)),
 q 0 (o d29 (.lkp (.one .i) (.str []) false r24 r28)),
 w (o d30 (.bslice 9 1 1 [(.str [])] [.mk 0 1 r29])),
 q 1 (m d20 r3),
 w (o d31 (.app 9 1 r20 r30)),
 q 0 (m d3 r31)])) c112_3))
def c112_1 : AC := (.seq (.ops [m d5 r0,
 .o d6 (.call 53 [r5]),
 m d4 r6])
 (.block 0 (.loop c112_2)))
def c112_4 : AC := (.seq (.ops [m d32 r3,
 m d2 r32])
 .ret)
def c112_0 : AC := (.seq (.ops [m d2 (.c .nils)])
 (.seq (.ops [m d3 (.c .nils)])
 (.seq c112_1 c112_4)))
def b112 : AC := c112_0
def s112 : List Rs := [.t .h0 .h2]
def c113_1 : AC := (.seq (.ops [m d28 r10])
 (.cond r28 .ret
 .skip))
def c113_5 : AC := (.drw [q 0 (m d85 r0),
 q 0 (o d86 (.nilc r85)),
 q 0 (o d87 (.fad 0 r86)),
 q 0 (o d88 (.ld1 r87)),
 q 0 (o d89 (.nilc r88)),
 q 0 (o d90 (.fad 2 r89)),
 q 0 (o d91 (.ld1 r90)),
 q 0 (m d92 r0),
 q 0 (o d93 (.nilc r92)),
 q 0 (o d94 (.fad 1 r93)),
 q 0 (o d95 (.ld1 r94)),
 q 0 (m d96 r0),
 q 0 (o d97 (.nilc r96)),
 q 0 (o d98 (.fad 12 r97)),
 q 0 (o d99 (.ld1 r98)),
 q 0 (o d100 (.bin .sub r99 (.c (pi 1)))),
 q 0 (m d101 r8),
 q 0 (m d102 r12),
 q 0 (o d103 (.nilc r91)),
 q 0 (m d104 r91),
 w (.o d105 (.inv 4 r104 [r95,r100,r101,r102]))])
def c113_4 : AC := (.seq (.drw [q 0 (m d67 r0),
 q 0 (o d68 (.nilc r67)),
 q 0 (o d69 (.fad 11 r68)),
 q 0 (o d70 (.ld1 r69)),
 q 0 (o d71 (.ldn 3 r6)),
 q 0 (m d72 r1),
 q 0 (m d73 r0),
 q 0 (o d74 (.nilc r73)),
 q 0 (o d75 (.fad 12 r74)),
 q 0 (o d76 (.ld1 r75)),
 q 0 (o d77 (.build [(pi 0),(pi 0)] [.mk 0 1 r72,.mk 1 1 r76])),
 w (o .no (.mup (.agg [.i,.i,.i]) r70 r71 r77))])
 (.seq (.ops [m d78 r0,
 o d79 (.nilc r78),
 o d80 (.fad 12 r79),
 o d81 (.ld1 r80),
 o d82 (.bin .add r81 (.c (pi 1))),
 o d83 (.nilc r78),
 o d84 (.fad 12 r83),
 o .no (.st1 r84 r82)])
 c113_5))
def c113_3 : AC := (.seq (.seq (.ops [m d38 r7])
 (.cond r38 (.seq (.drw [q 0 (m d39 r0),
 q 0 (o d40 (.nilc r39)),
 q 0 (o d41 (.fad 11 r40)),
 q 0 (o d42 (.ld1 r41)),
 q 0 (o d43 (.ldn 3 r6)),
 q 0 (m d44 r1),
 q 0 (o d45 (.build [(pi 0),(pi 0)] [.mk 0 1 r44,.mk 1 1 (.c (ni 0))])),
 w (o .no (.mup (.agg [.i,.i,.i]) r42 r43 r45))])
 (.seq (.seq (.ops [m d46 r12])
 (.cond r46 (.drw [q 0 (m d47 r0),
 q 0 (o d48 (.nilc r47)),
 q 0 (o d49 (.fad 0 r48)),
 q 0 (o d50 (.ld1 r49)),
 q 0 (o d51 (.nilc r50)),
 q 0 (o d52 (.fad 2 r51)),
 q 0 (o d53 (.ld1 r52)),
 q 0 (m d54 r0),
 q 0 (o d55 (.nilc r54)),
 q 0 (o d56 (.fad 1 r55)),
 q 0 (o d57 (.ld1 r56)),
 q 0 (m d58 r0),
 q 0 (o d59 (.nilc r58)),
 q 0 (o d60 (.fad 12 r59)),
 q 0 (o d61 (.ld1 r60)),
 q 0 (o d62 (.fad 4 r11)),
 q 0 (o d63 (.ld1 r62)),
 q 0 (o d64 (.nilc r53)),
 q 0 (m d65 r53),
 w (.o d66 (.inv 3 r65 [r57,r61,r63]))])
 .skip))
 .ret))
 .skip))
 c113_4)
def c113_2 : AC := (.seq (.ops [m d30 r0,
 o d31 (.ldn 3 r6),
 .o d32 (.call 138 [r30,r31]),
 m d29 r32,
 o d33 (.ext 0 r29),
 o d34 (.ext 1 r29),
 o d11 (.alloc 127 6 (.k1 (.mk (pi 0) (pi 0) (pi 0) (.bool false) (.str []) (pi 0) .undef .undef .undef .undef .undef .undef .undef .undef .undef .undef))),
 o .no (.stn 6 r11 r33),
 m d12 r34])
 (.seq (.ops [m d35 r0,
 o d36 (.nilc r35),
 o d37 (.fad 22 r36),
 o .no (.st1 r37 (.c (pi 0)))])
 c113_3))
def c113_0 : AC := (.seq (.ops [m d14 r2,
 .o d15 (.call 161 [r14]),
 m d13 r15,
 o d16 (.ext 0 r13),
 o d17 (.ext 1 r13),
 o d18 (.ext 2 r13),
 o d6 (.alloc 125 3 (.k1 (.mk (pi 0) (pi 0) (pi 0) .undef .undef .undef .undef .undef .undef .undef .undef .undef .undef .undef .undef .undef))),
 o .no (.stn 3 r6 r16),
 m d7 r17,
 m d8 r18])
 (.seq (.seq (.drw [w (o d9 (.alloc 146 2 (.k1 (.mk (pi 0) (pi 0) .undef .undef .undef .undef .undef .undef .undef .undef .undef .undef .undef .undef .undef .undef)))),
 q 1 (m d20 r0),
 q 1 (o d21 (.nilc r20)),
 q 1 (o d22 (.fad 11 r21)),
 q 1 (o d23 (.ld1 r22)),
 q 1 (o d24 (.ldn 3 r6)),
 q 1 (o d25 (.lkp (.agg [.i,.i,.i]) (.agg [(pi 0),(pi 0)]) true r23 r24)),
 q 1 (m d19 r25),
 q 1 (o d26 (.ext 0 r19)),
 w (o .no (.stn 2 r9 r26)),
 q 2 (o d27 (.ext 1 r19)),
 q 0 (m d10 r27)]) c113_1) c113_2))
def b113 : AC := c113_0
def s113 : List Rs := []
def c114_1 : AC := (.cond r31 .ret
 .skip)
def c114_4 : AC := (.ops [m d56 r0,
 o d57 (.ldn 2 r6),
 m d58 r1,
 m d59 r2,
 .o d60 (.call 142 [r56,r57,r58,r59])])
def c114_3 : AC := (.seq (.seq (.drw [q 0 (m d41 r0),
 q 0 (o d42 (.nilc r41)),
 q 0 (o d43 (.fad 8 r42)),
 q 0 (o d44 (.ld1 r43)),
 q 0 (m d45 r0),
 q 0 (o d46 (.nilc r45)),
 q 0 (o d47 (.fad 1 r46)),
 q 0 (o d48 (.ld1 r47)),
 q 0 (o d49 (.ldn 2 r6)),
 q 0 (m d50 r1),
 w (.o d51 (.call 130 [r44,r48,r49,r50]))])
 (.cond r51 (.ops [m d52 r0,
 m d53 r1,
 m d54 r2,
 .o d55 (.call 132 [r52,r53,r54])])
 .skip))
 c114_4)
def c114_2 : AC := (.seq (.seq (.ops [m d32 r0,
 o d33 (.ldn 2 r6),
 m d34 r1,
 m d35 r2,
 .o d36 (.call 128 [r32,r33,r34,r35]),
 o d37 (.un .not r36)])
 (.cond r37 (.seq (.ops [m d38 r0,
 o d39 (.nilc r38),
 o d40 (.fad 19 r39),
 o .no (.st1 r40 (.c (pi 0)))])
 .ret)
 .skip))
 c114_3)
def c114_0 : AC := (.seq (.ops [m d8 r0,
 o d9 (.nilc r8),
 o d10 (.fad 8 r9),
 o d11 (.ld1 r10),
 .o d12 (.call 126 [r11]),
 o d6 (.alloc 129 2 (.k1 (.mk (pi 0) (pi 0) .undef .undef .undef .undef .undef .undef .undef .undef .undef .undef .undef .undef .undef .undef))),
 o .no (.stn 2 r6 r12)])
 (.seq (.ops [m d14 r0,
 o d15 (.nilc r14),
 o d16 (.fad 8 r15),
 o d17 (.ld1 r16),
 m d18 r1,
 m d19 r2,
 .o d20 (.call 131 [r17,r18,r19]),
 m d13 r20,
 o d21 (.ext 0 r13),
 o d22 (.ext 1 r13),
 m d2 r21,
 m d7 r22])
 (.seq (.seq (.ops [m d23 r7,
 o d24 (.un .not r23),
 m d25 r24,
 .g .h1 .h9 false d26 (.op (.mv r0)),
 .g .h1 .h9 false d27 (.op (.nilc r26)),
 .g .h1 .h9 false d28 (.op (.fad 19 r27)),
 .g .h1 .h9 false d29 (.op (.ld1 r28)),
 .g .h1 .h9 false d30 (.op (.bin .ne r29 (.c (pi 2)))),
 o d31 (.pick r25 (.c (.bool true)) r30)]) c114_1) c114_2)))
def b114 : AC := c114_0
def s114 : List Rs := []
def c115_1 : AC := (.seq (.seq (.ops [o d15 (.fad 3 r1),
 o d16 (.ld1 r15)])
 (.cond r16 (.seq (.ops [m d17 r3,
 .o d18 (.call 154 [r17]),
 o d19 (.conv .b2s r18),
 m d2 r19])
 .ret)
 .skip))
 (.seq (.drw [q 0 (m d20 r3),
 w (.o d21 (.call 154 [r20])),
 q 0 (o d22 (.conv .b2s r21)),
 q 1 (o d23 (.fad 4 r1)),
 q 1 (o d24 (.ld1 r23)),
 q 0 (o d25 (.bin .cat r22 r24)),
 q 0 (m d2 r25)]) .ret))
def c115_0 : AC := (.seq (.ops [o d1 (.box 127 r0),
 m d2 (.c (.str []))])
 (.seq (.ops [.o d5 (.call 151 []),
 m d3 r5])
 (.seq (.ops [m d6 r3,
 o d7 (.fad 0 r1),
 o d8 (.ldn 3 r7),
 .o d9 (.call 158 [r6,r8])])
 (.seq (.ops [m d4 (.c (pi 0))])
 (.seq (.seq (.ops [o d10 (.fad 3 r1),
 o d11 (.ld1 r10)])
 (.cond r11 (.ops [m d4 (.c (pi 1))])
 .skip))
 (.seq (.ops [m d12 r3,
 m d13 r4,
 .o d14 (.call 152 [r12,r13])])
 c115_1))))))
def b115 : AC := c115_0
def s115 : List Rs := [.t .h0 .h2]
def c116_2 : AC := (.seq (.ops [m d43 r0,
 o d44 (.nilc r43),
 o d45 (.fad 3 r44),
 o d46 (.ldn 2 r45),
 o .no (.stn 2 r4 r46)])
 .ret)
def c116_1 : AC := (.seq (.ops [m d26 r0,
 m d27 r1,
 o d28 (.max false [r27,(.c (pi 0))]),
 o d29 (.nilc r26),
 o d30 (.fad 5 r29),
 o .no (.st1 r30 r28)])
 (.seq (.ops [m d31 r0,
 o d32 (.mkmap),
 o d33 (.nilc r31),
 o d34 (.fad 6 r33),
 o .no (.st1 r34 r32)])
 (.seq (.ops [m d35 r0,
 o d36 (.mkmap),
 o d37 (.nilc r35),
 o d38 (.fad 7 r37),
 o .no (.st1 r38 r36)])
 (.seq (.ops [m d39 r0,
 o d40 (.mkmap),
 o d41 (.nilc r39),
 o d42 (.fad 8 r41),
 o .no (.st1 r42 r40)])
 c116_2))))
def c116_0 : AC := (.seq (.ops [o d4 (.alloc 129 2 (.k1 (.mk (pi 0) (pi 0) .undef .undef .undef .undef .undef .undef .undef .undef .undef .undef .undef .undef .undef .undef)))])
 (.seq (.ops [m d5 r0,
 m d6 r0,
 o d7 (.nilc r6),
 o d8 (.fad 2 r7),
 o d9 (.ld1 r8),
 o d10 (.max true [r9,(.c (pi 1073741823))]),
 o d11 (.bin .add r10 (.c (pi 1))),
 o d12 (.nilc r5),
 o d13 (.fad 2 r12),
 o .no (.st1 r13 r11)])
 (.seq (.drw [q 0 (m d14 r0),
 q 0 (m d15 r0),
 q 0 (o d16 (.nilc r15)),
 q 0 (o d17 (.fad 2 r16)),
 q 0 (o d18 (.ld1 r17)),
 q 0 (m d19 r0),
 q 0 (o d20 (.nilc r19)),
 q 0 (o d21 (.fad 0 r20)),
 q 0 (o d22 (.ld1 r21)),
 q 0 (o d23 (.build [(pi 0),(pi 0)] [.mk 0 1 r18,.mk 1 1 r22])),
 q 0 (o d24 (.nilc r14)),
 q 0 (o d25 (.fad 3 r24)),
 w (o .no (.stn 2 r25 r23))])
 c116_1)))
def b116 : AC := c116_0
def s116 : List Rs := [.agg 2 .h0 .h4]
def c117_0 : AC := (.seq (.ops [m d5 r0,
 o d6 (.ldn 2 r1),
 .o d7 (.call 104 [r5,r6])])
 (.seq (.ops [m d8 r0,
 o d9 (.ld1 r2),
 .o d10 (.call 85 [r8,r9])])
 (.ops [m d11 r0,
 o d12 (.ld1 r3),
 o d13 (.nilc r12),
 o d14 (.fad 6 r13),
 o d15 (.ld1 r14),
 .o d16 (.call 85 [r11,r15])])))
def b117 : AC := c117_0
def s117 : List Rs := []
def c118_0 : AC := (.cond r31 .ret
 .skip)
def c118_4 : AC := (.seq (.ops [o d87 (.bin .lt r86 r85)])
 (.seq (.cond r87 .skip
 (.exit 0))
 (.seq (.block 1 (.seq (.ops [o d88 (.ixs 1 r84 r86),
 o d89 (.ld1 r88),
 m d6 r89])
 (.ops [m d90 r0,
 m d91 r0,
 o d92 (.nilc r91),
 o d93 (.fad 21 r92),
 o d94 (.ld1 r93),
 m d95 r6,
 o d96 (.bin .add r95 (.c (pi 1))),
 o d97 (.max false [r94,r96]),
 o d98 (.nilc r90),
 o d99 (.fad 21 r98),
 o .no (.st1 r99 r97)])))
 (.ops [o d100 (.bin .add r86 (.c (pi 1))),
 m d86 r100]))))
def c118_3 : AC := (.seq (.ops [m d80 r0,
 o d81 (.nilc r80),
 o d82 (.fad 8 r81),
 o d83 (.ld1 r82),
 .o d84 (.call 141 [r83]),
 o d85 (.len r84),
 m d86 (.c (pi 0))])
 (.block 0 (.loop c118_4)))
def c118_6 : AC := (.ops [m d113 r7,
 o d114 (.bin .add r113 (.c (pi 1))),
 m d7 r114])
def c118_5 : AC := (.seq (.seq (.ops [m d110 r7,
 m d111 r8,
 o d112 (.bin .lt r110 r111)])
 (.cond r112 .skip
 (.exit 2)))
 (.seq (.block 3 (.seq (.ops [m d116 r0,
 o d117 (.nilc r116),
 o d118 (.fad 9 r117),
 o d119 (.ld1 r118),
 m d120 r7,
 .o d121 (.call 90 [r119,r120]),
 m d115 r121,
 o d122 (.ext 0 r115),
 o d123 (.ext 1 r115),
 m d9 r122,
 m d10 r123])
 (.seq (.ops [m d124 r10,
 o d125 (.un .not r124)])
 (.cond r125 (.ops [m d126 r0,
 m d127 r7,
 .o d128 (.call 114 [r126,r127,(.c (.str []))])])
 .skip))))
 c118_6))
def c118_8 : AC := (.seq (.ops [o d135 (.bin .lt r134 r133)])
 (.seq (.cond r135 .skip
 (.exit 4))
 (.seq (.block 5 (.seq (.ops [m d136 r134,
 m d11 r136])
 (.ops [m d137 r0,
 o d138 (.nilc r137),
 o d139 (.fad 17 r138),
 o d140 (.ld1 r139),
 m d141 r11,
 o d142 (.ixs 6 r140 r141),
 o d143 (.fad 5 r142),
 o .no (.st1 r143 (.c (ni 0)))])))
 (.ops [o d144 (.bin .add r134 (.c (pi 1))),
 m d134 r144]))))
def c118_7 : AC := (.seq (.ops [m d129 r0,
 o d130 (.nilc r129),
 o d131 (.fad 17 r130),
 o d132 (.ld1 r131),
 o d133 (.len r132),
 m d134 (.c (pi 0))])
 (.block 4 (.loop c118_8)))
def c118_9 : AC := (.ops [m d145 r0,
 .o d146 (.call 66 [r145])])
def c118_2 : AC := (.seq (.seq (.ops [m d48 r4,
 o d49 (.un .not r48)])
 (.cond r49 (.seq (.ops [m d50 r0,
 o d51 (.nilc r50),
 o d52 (.fad 19 r51),
 o .no (.st1 r52 (.c (pi 0)))])
 .ret)
 .skip))
 (.seq (.drw [q 0 (m d53 r0),
 q 0 (o d54 (.nilc r53)),
 q 0 (o d55 (.fad 8 r54)),
 q 0 (o d56 (.ld1 r55)),
 q 0 (m d57 r0),
 q 0 (o d58 (.nilc r57)),
 q 0 (o d59 (.fad 1 r58)),
 q 0 (o d60 (.ld1 r59)),
 q 0 (o d61 (.ldn 2 r2)),
 q 0 (m d62 r3),
 w (.o d63 (.call 127 [r56,r60,r61,r62]))])
 (.seq (.ops [m d64 r0,
 o d65 (.nilc r64),
 o d66 (.fad 19 r65),
 o .no (.st1 r66 (.c (pi 2)))])
 (.seq (.drw [q 0 (m d68 r0),
 q 0 (o d69 (.nilc r68)),
 q 0 (o d70 (.fad 9 r69)),
 q 0 (o d71 (.ld1 r70)),
 w (.o d72 (.call 53 [r71])),
 q 1 (m d67 r0),
 q 1 (m d73 r0),
 q 1 (o d74 (.nilc r73)),
 q 1 (o d75 (.fad 10 r74)),
 q 1 (o d76 (.ld1 r75)),
 q 0 (o d77 (.max false [r72,r76])),
 q 0 (o d78 (.nilc r67)),
 q 0 (o d79 (.fad 21 r78)),
 w (o .no (.st1 r79 r77))]) (.seq c118_3 (.seq (.seq (.drw [q 0 (m d101 r0),
 q 0 (o d102 (.nilc r101)),
 q 0 (o d103 (.fad 9 r102)),
 q 0 (o d104 (.ld1 r103)),
 w (.o d105 (.call 53 [r104])),
 q 1 (m d106 r0),
 q 1 (o d107 (.nilc r106)),
 q 1 (o d108 (.fad 21 r107)),
 q 1 (o d109 (.ld1 r108)),
 q 0 (m d7 r105),
 q 0 (m d8 r109)]) (.block 2 (.loop c118_5))) (.seq c118_7 c118_9)))))))
def c118_1 : AC := (.seq (.ops [m d32 r0,
 o d33 (.nilc r32),
 o d34 (.fad 8 r33),
 o d35 (.ld1 r34),
 .o d36 (.call 126 [r35]),
 o d2 (.alloc 129 2 (.k1 (.mk (pi 0) (pi 0) .undef .undef .undef .undef .undef .undef .undef .undef .undef .undef .undef .undef .undef .undef))),
 o .no (.stn 2 r2 r36)])
 (.seq (.drw [q 0 (m d40 r0),
 q 0 (o d41 (.nilc r40)),
 q 0 (o d42 (.fad 9 r41)),
 q 0 (o d43 (.ld1 r42)),
 w (.o d44 (.call 53 [r43])),
 q 1 (m d38 r0),
 q 1 (o d39 (.ldn 2 r2)),
 w (.o d45 (.call 120 [r38,r39,r44])),
 q 0 (m d37 r45),
 q 0 (o d46 (.ext 0 r37)),
 q 0 (o d47 (.ext 1 r37)),
 q 0 (m d3 r46),
 q 0 (m d4 r47)]) c118_2))
def b118 : AC := (.seq (.seq (.drw [q 0 (m d12 r0),
 q 0 (o d13 (.nilc r12)),
 q 0 (o d14 (.fad 19 r13)),
 q 0 (o d15 (.ld1 r14)),
 q 0 (o d16 (.bin .ne r15 (.c (pi 1)))),
 q 0 (m d17 r16),
 q 0 (.g .h1 .h1 false d18 (.op (.mv r0))),
 q 0 (.g .h1 .h1 false d19 (.op (.nilc r18))),
 q 0 (.g .h1 .h1 false d20 (.op (.fad 20 r19))),
 q 0 (.g .h1 .h1 false d21 (.op (.ld1 r20))),
 q 0 (.g .h1 .h1 false d22 (.op (.lenm r21))),
 q 0 (.g .h1 .h1 false d25 (.op (.mv r0))),
 q 0 (.g .h1 .h1 false d26 (.op (.nilc r25))),
 q 0 (.g .h1 .h1 false d27 (.op (.fad 0 r26))),
 q 0 (.g .h1 .h1 false d28 (.op (.ld1 r27))),
 w (.g .h1 .h1 false d29 (.call 59 [r28])),
 q 1 (.g .h1 .h1 false d23 (.op (.bin .add r22 (.c (pi 1))))),
 q 1 (.g .h1 .h1 false d24 (.op (.bin .mul (.c (pi 2)) r23))),
 q 0 (.g .h1 .h1 false d30 (.op (.bin .le r24 r29))),
 q 0 (o d31 (.pick r17 (.c (.bool true)) r30))]) c118_0) c118_1)
def s118 : List Rs := []
def c119_2 : AC := (.seq (.seq (.ops [m d13 r7,
 o d14 (.bin .gt r13 (.c (pi 0)))])
 (.cond r14 (.seq (.ops [m d15 r7,
 o d16 (.bin .sub r15 (.c (pi 1))),
 m d7 r16])
 (.seq (.ops [m d17 r5,
 o d18 (.bin .shl r17 (.c (.int .u64 (.ofNat 8)))),
 m d19 r6,
 m d20 r7,
 o d21 (.ixs 1 r19 r20),
 o d22 (.ld1 r21),
 o d23 (.conv (.toInt .u64) r22),
 o d24 (.bin .or r18 r23),
 m d5 r24])
 (.goto 0)))
 .skip))
 (.seq (.ops [m d25 r5,
 m d4 r25])
 .ret))
def c119_1 : AC := (.seq (.ops [m d5 (.c (.int .u64 (.ofNat 0)))])
 (.seq (.ops [m d8 r0,
 m d9 r1,
 .o d10 (.call 162 [r8,r9]),
 m d6 r10])
 (.seq (.ops [m d11 r6,
 o d12 (.len r11),
 m d7 r12])
 (.seq (.label 0) c119_2))))
def c119_0 : AC := (.seq (.ops [m d4 (.c (.int .u64 (.ofNat 0)))])
 (.scope c119_1))
def b119 : AC := c119_0
def s119 : List Rs := [.t .h0 .h4]
def c120_1 : AC := (.cond r23 (.seq (.ops [m d6 (.c .nils),
 m d7 (.c (.bool false))])
 .ret)
 .skip)
def c120_2 : AC := (.seq (.drw [q 0 (m d25 r0),
 q 0 (o d26 (.nilc r25)),
 q 0 (o d27 (.fad 7 r26)),
 q 0 (o d28 (.ld1 r27)),
 q 0 (o d29 (.ldn 2 r4)),
 q 0 (m d30 r2),
 w (.o d31 (.call 93 [r28,r29,r30])),
 q 0 (m d24 r31),
 q 0 (o d32 (.ext 0 r24)),
 q 0 (o d33 (.ext 1 r24)),
 q 0 (m d8 r32),
 q 0 (m d9 r33)])
 (.seq (.ops [m d34 r9,
 m d35 r8,
 m d6 r34,
 m d7 r35])
 .ret))
def c120_0 : AC := (.seq (.ops [o d4 (.box 129 r1),
 m d6 (.c .nils),
 m d7 (.c (.bool false))])
 (.seq (.seq (.drw [q 0 (m d10 r0),
 q 0 (o d11 (.nilc r10)),
 q 0 (o d12 (.fad 7 r11)),
 q 0 (o d13 (.ld1 r12)),
 w (.o d14 (.call 107 [r13])),
 q 1 (o d15 (.ldn 2 r4)),
 w (.o d16 (.call 133 [r14,r15])),
 q 0 (o d17 (.un .not r16)),
 q 0 (m d18 r17),
 q 0 (.g .h1 .h2 false d19 (.op (.mv r0))),
 q 0 (.g .h1 .h2 false d20 (.op (.mkf 163 [r4]))),
 w (.g .h1 .h2 false d21 (.call 134 [r19,(.c (.bool true)),(.c (pi 1)),r20])),
 q 0 (.g .h1 .h2 false d22 (.op (.un .not r21))),
 q 0 (o d23 (.pick r18 (.c (.bool true)) r22))]) c120_1) c120_2))
def b120 : AC := c120_0
def s120 : List Rs := [.t .h0 .h6,.t .h0 .h7]
def c121_0 : AC := (.seq (.ops [o d2 (.box 88 r0)])
 (.ops [o d4 (.ld1 r2),
 m d5 r1,
 o d6 (.mkf 164 [r2]),
 .o d7 (.call 122 [r4,r5,(.c (pi 5)),r6])]))
def b121 : AC := c121_0
def s121 : List Rs := []
def c122_0 : AC := (.seq (.ops [.o d9 (.call 151 []),
 m d8 r9])
 (.seq (.ops [m d10 r8,
 m d11 r2,
 .o d12 (.call 152 [r10,r11])])
 (.seq (.ops [m d13 r3,
 m d14 r8,
 .o d15 (.calld r13 [r14])])
 (.drw [q 0 (m d25 r8),
 w (.o d26 (.call 154 [r25])),
 q 1 (m d16 r0),
 q 1 (o d17 (.nilc r16)),
 q 1 (o d18 (.fad 0 r17)),
 q 1 (o d19 (.ld1 r18)),
 q 1 (m d20 r0),
 q 1 (o d21 (.nilc r20)),
 q 1 (o d22 (.fad 1 r21)),
 q 1 (o d23 (.ld1 r22)),
 q 1 (m d24 r1),
 w (.o d27 (.call 48 [r19,r23,r24,r26]))]))))
def b122 : AC := c122_0
def s122 : List Rs := []
def c123_2 : AC := (.seq (.ops [o d22 (.bin .lt r21 r20)])
 (.seq (.cond r22 .skip
 (.exit 0))
 (.seq (.block 1 (.seq (.ops [o d23 (.ixs 4 r19 r21),
 o d24 (.ldn 4 r23),
 o d8 (.alloc 138 4 (.k1 (.mk (pi 0) (pi 0) (pi 0) (.str []) .undef .undef .undef .undef .undef .undef .undef .undef .undef .undef .undef .undef))),
 o .no (.stn 4 r8 r24)])
 (.seq (.ops [m d25 r0,
 o d26 (.fad 1 r8),
 o d27 (.ldn 2 r26),
 .o d28 (.call 104 [r25,r27])])
 (.seq (.ops [m d29 r0,
 o d30 (.fad 0 r8),
 o d31 (.ld1 r30),
 .o d32 (.call 85 [r29,r31])])
 (.ops [m d33 r0,
 o d34 (.fad 3 r8),
 o d35 (.ld1 r34),
 .o d36 (.call 105 [r33,r35])])))))
 (.ops [o d37 (.bin .add r21 (.c (pi 1))),
 m d21 r37]))))
def c123_1 : AC := (.seq (.ops [o d19 (.ld1 r3),
 o d20 (.len r19),
 m d21 (.c (pi 0))])
 (.block 0 (.loop c123_2)))
def c123_3 : AC := (.ops [m d38 r0,
 o d39 (.ld1 r4),
 o d40 (.ld1 r5),
 .o d41 (.call 108 [r39,r40]),
 .o d42 (.call 124 [r38,r41])])
def c123_0 : AC := (.seq (.ops [m d9 r0,
 o d10 (.ldn 2 r1),
 .o d11 (.call 104 [r9,r10])])
 (.seq (.ops [m d12 r0,
 o d13 (.ld1 r2),
 .o d14 (.call 85 [r12,r13])])
 (.seq (.ops [m d15 r0,
 o d16 (.ld1 r3),
 o d17 (.len r16),
 .o d18 (.call 85 [r15,r17])])
 (.seq c123_1 c123_3))))
def b123 : AC := c123_0
def s123 : List Rs := []
def c124_1 : AC := (.seq (.ops [o d13 (.bin .lt r12 r11)])
 (.seq (.cond r13 .skip
 (.exit 0))
 (.seq (.block 1 (.seq (.ops [o d14 (.ixs 4 r10 r12),
 o d15 (.ldn 4 r14),
 o d5 (.alloc 138 4 (.k1 (.mk (pi 0) (pi 0) (pi 0) (.str []) .undef .undef .undef .undef .undef .undef .undef .undef .undef .undef .undef .undef))),
 o .no (.stn 4 r5 r15)])
 (.seq (.ops [m d16 r0,
 o d17 (.fad 0 r5),
 o d18 (.ld1 r17),
 .o d19 (.call 85 [r16,r18])])
 (.ops [m d20 r0,
 o d21 (.fad 3 r5),
 o d22 (.ld1 r21),
 .o d23 (.call 105 [r20,r22])]))))
 (.ops [o d24 (.bin .add r12 (.c (pi 1))),
 m d12 r24]))))
def c124_0 : AC := (.seq (.ops [m d6 r0,
 m d7 r1,
 o d8 (.len r7),
 .o d9 (.call 85 [r6,r8])])
 (.seq (.ops [m d10 r1,
 o d11 (.len r10),
 m d12 (.c (pi 0))])
 (.block 0 (.loop c124_1))))
def b124 : AC := c124_0
def s124 : List Rs := []
def c125_0 : AC := (.seq (.ops [m d2 (.c (.bool false))])
 (.seq (.ops [m d3 r0,
 o d4 (.nilc r3),
 o d5 (.fad 2 r4),
 o d6 (.ld1 r5),
 o d7 (.bin .ne r6 (.c (pi 0))),
 m d2 r7])
 .ret))
def b125 : AC := c125_0
def s125 : List Rs := [.t .h0 .h2]
def c126_0 : AC := (.seq (.ops [o d2 (.alloc 129 2 (.k1 (.mk (pi 0) (pi 0) .undef .undef .undef .undef .undef .undef .undef .undef .undef .undef .undef .undef .undef .undef)))])
 (.seq (.ops [m d3 r0,
 o d4 (.nilc r3),
 o d5 (.fad 3 r4),
 o d6 (.ldn 2 r5),
 o .no (.stn 2 r2 r6)])
 .ret))
def b126 : AC := c126_0
def s126 : List Rs := [.agg 2 .h0 .h2]
def c127_2 : AC := (.cond r40 (.goto 0)
 .skip)
def c127_6 : AC := (.cond r67 (.goto 1)
 .skip)
def c127_7 : AC := (.cond r86 (.drw [q 0 (m d87 r0),
 q 0 (o d88 (.nilc r87)),
 q 0 (o d89 (.fad 7 r88)),
 q 0 (o d90 (.ld1 r89)),
 q 0 (o d91 (.fad 0 r9)),
 q 0 (o d92 (.ld1 r91)),
 q 0 (o d93 (.ldn 4 r9)),
 w (o .no (.mup (.one .i) r90 r92 r93))])
 .skip)
def c127_5 : AC := (.seq (.ops [m d50 r3,
 m d51 r8,
 o d52 (.ixs 4 r50 r51),
 o d53 (.ldn 4 r52),
 o d9 (.alloc 138 4 (.k1 (.mk (pi 0) (pi 0) (pi 0) (.str []) .undef .undef .undef .undef .undef .undef .undef .undef .undef .undef .undef .undef))),
 o .no (.stn 4 r9 r53)])
 (.seq (.ops [m d54 r8,
 o d55 (.bin .add r54 (.c (pi 1))),
 m d8 r55])
 (.seq (.seq (.drw [q 0 (o d56 (.fad 0 r9)),
 q 0 (o d57 (.ld1 r56)),
 q 0 (m d58 r0),
 q 0 (o d59 (.nilc r58)),
 q 0 (o d60 (.fad 5 r59)),
 q 0 (o d61 (.ld1 r60)),
 q 0 (o d62 (.bin .lt r57 r61)),
 q 0 (m d63 r62),
 q 0 (.g .h3 .hf false d64 (.op (.fad 0 r9))),
 q 0 (.g .h3 .hf false d65 (.op (.ld1 r64))),
 q 0 (.g .h3 .hf false d66 (.op (.bin .ge r65 (.c (pi 1048576))))),
 q 0 (o d67 (.pick r63 (.c (.bool true)) r66))]) c127_6) (.seq (.seq (.drw [w (o d10 (.alloc 138 4 (.k1 (.mk (pi 0) (pi 0) (pi 0) (.str []) .undef .undef .undef .undef .undef .undef .undef .undef .undef .undef .undef .undef)))),
 q 1 (m d69 r0),
 q 1 (o d70 (.nilc r69)),
 q 1 (o d71 (.fad 7 r70)),
 q 1 (o d72 (.ld1 r71)),
 q 1 (o d73 (.fad 0 r9)),
 q 1 (o d74 (.ld1 r73)),
 q 1 (o d75 (.lkp (.one .i) (.agg [(pi 0),(pi 0),(pi 0),(.str [])]) true r72 r74)),
 q 1 (m d68 r75),
 q 1 (o d76 (.ext 0 r68)),
 w (o .no (.stn 4 r10 r76)),
 q 2 (o d77 (.ext 1 r68)),
 q 0 (m d11 r77)]) (.seq (.ops [m d78 r11,
 o d79 (.un .not r78),
 m d80 r79,
 .g .h5 .h0 false d81 (.op (.fad 1 r10)),
 .g .h5 .h0 false d82 (.op (.ldn 2 r81)),
 .g .h5 .h0 false d83 (.op (.fad 1 r9)),
 .g .h5 .h0 false d84 (.op (.ldn 2 r83)),
 .g .h5 .h0 false d85 (.call 133 [r82,r84]),
 o d86 (.pick r80 (.c (.bool true)) r85)]) c127_7)) (.goto 1)))))
def c127_4 : AC := (.seq (.ops [m d46 r8,
 m d47 r3,
 o d48 (.len r47),
 o d49 (.bin .lt r46 r48)])
 (.cond r49 c127_5 .skip))
def c127_3 : AC := (.seq (.ops [m d41 r0,
 o d42 (.nilc r41),
 o d43 (.fad 6 r42),
 o d44 (.ld1 r43),
 m d45 r1,
 o .no (.mup (.one .i) r44 r45 (.c (pi 1)))])
 (.seq (.label 1) (.seq c127_4 (.label 0))))
def c127_1 : AC := (.seq (.ops [m d12 r0,
 o d13 (.ldn 2 r6),
 .o d14 (.call 70 [r12,r13])])
 (.seq (.ops [m d8 (.c (pi 0))])
 (.seq (.seq (.drw [q 0 (o d15 (.ldn 2 r6)),
 q 0 (m d16 r0),
 q 0 (o d17 (.nilc r16)),
 q 0 (o d18 (.fad 3 r17)),
 q 0 (o d19 (.ldn 2 r18)),
 q 0 (o d20 (.bin (.ane [.i,.i]) r15 r19)),
 q 0 (m d21 r20),
 q 0 (.g .h1 .h5 false d22 (.op (.ldn 2 r6))),
 q 0 (.g .h1 .h5 false d23 (.op (.build [(pi 0),(pi 0)] []))),
 q 0 (.g .h1 .h5 false d24 (.op (.bin (.aeq [.i,.i]) r22 r23))),
 q 0 (o d25 (.pick r21 (.c (.bool true)) r24)),
 q 0 (m d26 r25),
 q 0 (.g .h1 .ha false d27 (.op (.mv r0))),
 q 0 (.g .h1 .ha false d28 (.op (.mv r1))),
 w (.g .h1 .ha false d29 (.call 165 [r27,r28])),
 q 0 (.g .h1 .ha false d30 (.op (.un .not r29))),
 q 0 (o d31 (.pick r26 (.c (.bool true)) r30)),
 q 0 (m d32 r31),
 q 0 (.g .h2 .h0 false d33 (.op (.mv r0))),
 q 0 (.g .h2 .h0 false d34 (.op (.nilc r33))),
 q 0 (.g .h2 .h0 false d35 (.op (.fad 6 r34))),
 q 0 (.g .h2 .h0 false d36 (.op (.ld1 r35))),
 q 0 (.g .h2 .h0 false d37 (.op (.mv r1))),
 q 0 (.g .h2 .h0 false d38 (.op (.lkp (.one .i) (pi 0) false r36 r37))),
 q 0 (.g .h2 .h0 false d39 (.op (.bin .gt r38 (.c (pi 0))))),
 q 0 (o d40 (.pick r32 (.c (.bool true)) r39))]) c127_2) c127_3)))
def c127_0 : AC := (.seq (.ops [o d6 (.box 129 r2)])
 (.scope c127_1))
def b127 : AC := c127_0
def s127 : List Rs := []
def c128_1 : AC := (.cond r35 (.seq (.ops [m d8 (.c (.bool false))])
 .ret)
 .skip)
def c128_3 : AC := (.cond r45 (.ops [o .no (.st1 r9 (.c (pi 3)))])
 .skip)
def c128_4 : AC := (.seq (.ops [m d46 r0,
 o d47 (.ld1 r9),
 o d48 (.mkf 166 [r5,r6,r9,r7]),
 .o d49 (.call 134 [r46,(.c (.bool true)),r47,r48]),
 m d10 r49])
 (.seq (.drw [q 0 (m d50 r10),
 q 0 (m d51 r50),
 q 0 (.g .h3 .h3 true d52 (.op (.mv r0))),
 q 0 (.g .h3 .h3 true d53 (.op (.nilc r52))),
 q 0 (.g .h3 .h3 true d54 (.op (.fad 7 r53))),
 q 0 (.g .h3 .h3 true d55 (.op (.ld1 r54))),
 q 0 (.g .h3 .h3 true d56 (.op (.ldn 2 r5))),
 q 0 (.g .h3 .h3 true d57 (.op (.ld1 r6))),
 q 0 (.g .h3 .h3 true d58 (.op (.ld1 r7))),
 w (.g .h3 .h3 true d59 (.call 167 [r55,r56,r57,r58])),
 q 0 (o d60 (.pick r51 r59 (.c (.bool false)))),
 q 0 (m d8 r60)]) .ret))
def c128_2 : AC := (.seq (.ops [o d9 (.alloc 3 1 (.k1 (.mk (pi 0) .undef .undef .undef .undef .undef .undef .undef .undef .undef .undef .undef .undef .undef .undef .undef))),
 o .no (.st1 r9 (.c (pi 2)))])
 (.seq (.seq (.drw [q 0 (m d36 r0),
 q 0 (o d37 (.ld1 r6)),
 w (.o d38 (.call 109 [r36,r37])),
 q 0 (m d39 r38),
 q 0 (.g .h2 .h7 true d40 (.op (.mv r0))),
 q 0 (.g .h2 .h7 true d41 (.op (.ld1 r6))),
 w (.g .h2 .h7 true d42 (.call 94 [r40,r41])),
 q 1 (.g .h2 .h7 true d43 (.op (.ld1 r7))),
 q 0 (.g .h2 .h7 true d44 (.op (.bin .seq r42 r43))),
 q 0 (o d45 (.pick r39 r44 (.c (.bool false))))]) c128_3) c128_4))
def c128_0 : AC := (.seq (.ops [o d5 (.box 129 r1),
 o d6 (.box 3 r2),
 o d7 (.box 9 r3),
 m d8 (.c (.bool false))])
 (.seq (.seq (.drw [q 0 (m d12 r0),
 q 0 (o d13 (.nilc r12)),
 q 0 (o d14 (.fad 7 r13)),
 q 0 (o d15 (.ld1 r14)),
 w (.o d16 (.call 107 [r15])),
 q 1 (o d11 (.ldn 2 r5)),
 w (.o d17 (.call 133 [r11,r16])),
 q 0 (m d18 r17),
 q 0 (.g .h1 .h2 false d19 (.op (.ldn 2 r5))),
 q 0 (.g .h1 .h2 false d20 (.op (.build [(pi 0),(pi 0)] []))),
 q 0 (.g .h1 .h2 false d21 (.op (.bin (.aeq [.i,.i]) r19 r20))),
 q 0 (o d22 (.pick r18 (.c (.bool true)) r21)),
 q 0 (m d23 r22),
 q 0 (.g .h1 .h7 false d24 (.op (.ld1 r6))),
 q 0 (.g .h1 .h7 false d25 (.op (.mv r0))),
 q 0 (.g .h1 .h7 false d26 (.op (.nilc r25))),
 q 0 (.g .h1 .h7 false d27 (.op (.fad 13 r26))),
 q 0 (.g .h1 .h7 false d28 (.op (.fad 0 r27))),
 q 0 (.g .h1 .h7 false d29 (.op (.ld1 r28))),
 q 0 (.g .h1 .h7 false d30 (.op (.bin .lt r24 r29))),
 q 0 (o d31 (.pick r23 (.c (.bool true)) r30)),
 q 0 (m d32 r31),
 q 0 (.g .h2 .h0 false d33 (.op (.ld1 r6))),
 q 0 (.g .h2 .h0 false d34 (.op (.bin .ge r33 (.c (pi 1048576))))),
 q 0 (o d35 (.pick r32 (.c (.bool true)) r34))]) c128_1) c128_2))
def b128 : AC := c128_0
def s128 : List Rs := [.t .h0 .h8]
def c129_0 : AC := (.seq (.ops [m d4 r0,
 o d5 (.ldn 2 r1),
 .o d6 (.call 104 [r4,r5])])
 (.ops [m d7 r0,
 o d8 (.ld1 r2),
 .o d9 (.call 85 [r7,r8])]))
def b129 : AC := c129_0
def s129 : List Rs := []
def c130_1 : AC := (.cond r31 (.seq (.ops [m d8 (.c (.bool false))])
 .ret)
 .skip)
def c130_2 : AC := (.seq (.ops [m d32 r9,
 o d33 (.nilc r32),
 o d34 (.fad 1 r33),
 o d35 (.ld1 r34),
 m d36 r1,
 o .no (.mup (.one .i) r35 r36 (.c (pi 1)))])
 (.seq (.ops [m d37 r0,
 m d38 r9,
 o d39 (.nilc r38),
 o d40 (.fad 1 r39),
 o d41 (.ld1 r40),
 o d42 (.lenm r41),
 .o d43 (.call 168 [r37,r42]),
 m d8 r43])
 .ret))
def c130_0 : AC := (.seq (.ops [o d6 (.box 129 r2),
 m d8 (.c (.bool false))])
 (.seq (.ops [m d10 r0,
 o d11 (.nilc r10),
 o d12 (.fad 8 r11),
 o d13 (.ld1 r12),
 m d14 r3,
 o d15 (.lkp (.one .i) .nilp false r13 r14),
 m d9 r15])
 (.seq (.seq (.drw [q 0 (o d16 (.ldn 2 r6)),
 q 0 (m d17 r0),
 q 0 (o d18 (.nilc r17)),
 q 0 (o d19 (.fad 3 r18)),
 q 0 (o d20 (.ldn 2 r19)),
 q 0 (o d21 (.bin (.ane [.i,.i]) r16 r20)),
 q 0 (m d22 r21),
 q 0 (.g .h1 .h6 false d23 (.op (.mv r0))),
 q 0 (.g .h1 .h6 false d24 (.op (.mv r1))),
 w (.g .h1 .h6 false d25 (.call 165 [r23,r24])),
 q 0 (.g .h1 .h6 false d26 (.op (.un .not r25))),
 q 0 (o d27 (.pick r22 (.c (.bool true)) r26)),
 q 0 (m d28 r27),
 q 0 (.g .h1 .hc false d29 (.op (.mv r9))),
 q 0 (.g .h1 .hc false d30 (.op (.bin .peq r29 (.c .nilp)))),
 q 0 (o d31 (.pick r28 (.c (.bool true)) r30))]) c130_1) c130_2)))
def b130 : AC := c130_0
def s130 : List Rs := [.t .h0 .h8]
def c131_1 : AC := (.cond r25 (.seq (.ops [m d6 (.c (.str [])),
 m d7 (.c (.bool false))])
 .ret)
 .skip)
def c131_4 : AC := (.seq (.ops [m d50 r0,
 o d51 (.nilc r50),
 o d52 (.fad 8 r51),
 o d53 (.ld1 r52),
 m d54 r1,
 m d55 r2,
 o d56 (.mkmap),
 o d57 (.build [(.str []),.nilm] [.mk 0 1 r55,.mk 1 1 r56]),
 o d58 (.box 218 r57),
 o .no (.mup (.one .i) r53 r54 r58)])
 (.seq (.ops [m d59 r2,
 m d6 r59,
 m d7 (.c (.bool true))])
 .ret))
def c131_3 : AC := (.seq (.seq (.ops [m d39 r0,
 o d40 (.nilc r39),
 o d41 (.fad 7 r40),
 o d42 (.ld1 r41),
 m d43 r1,
 o d44 (.lkp (.one .i) (.agg [(pi 0),(pi 0),(pi 0),(.str [])]) true r42 r43),
 m d38 r44,
 o d45 (.ext 0 r38),
 o d46 (.ext 1 r38),
 o d9 (.alloc 138 4 (.k1 (.mk (pi 0) (pi 0) (pi 0) (.str []) .undef .undef .undef .undef .undef .undef .undef .undef .undef .undef .undef .undef))),
 o .no (.stn 4 r9 r45),
 m d10 r46])
 (.seq (.ops [m d47 r10])
 (.cond r47 (.ops [o d48 (.fad 3 r9),
 o d49 (.ld1 r48),
 m d2 r49])
 .skip)))
 c131_4)
def c131_2 : AC := (.seq (.seq (.ops [m d26 r0,
 o d27 (.nilc r26),
 o d28 (.fad 8 r27),
 o d29 (.ld1 r28),
 m d30 r1,
 o d31 (.lkp (.one .i) .nilp false r29 r30),
 m d8 r31])
 (.seq (.ops [m d32 r8,
 o d33 (.bin .pne r32 (.c .nilp))])
 (.cond r33 (.seq (.ops [m d34 r8,
 o d35 (.nilc r34),
 o d36 (.fad 0 r35),
 o d37 (.ld1 r36),
 m d6 r37,
 m d7 (.c (.bool true))])
 .ret)
 .skip)))
 c131_3)
def c131_0 : AC := (.seq (.ops [m d6 (.c (.str [])),
 m d7 (.c (.bool false))])
 (.seq (.seq (.ops [m d11 r0,
 .o d12 (.call 169 [r11]),
 o d13 (.un .not r12),
 m d14 r13,
 .g .h0 .he false d15 (.op (.mv r1)),
 .g .h0 .he false d16 (.op (.mv r0)),
 .g .h0 .he false d17 (.op (.nilc r16)),
 .g .h0 .he false d18 (.op (.fad 5 r17)),
 .g .h0 .he false d19 (.op (.ld1 r18)),
 .g .h0 .he false d20 (.op (.bin .lt r15 r19)),
 o d21 (.pick r14 (.c (.bool true)) r20),
 m d22 r21,
 .g .h1 .h6 false d23 (.op (.mv r1)),
 .g .h1 .h6 false d24 (.op (.bin .ge r23 (.c (pi 1048576)))),
 o d25 (.pick r22 (.c (.bool true)) r24)]) c131_1) c131_2))
def b131 : AC := c131_0
def s131 : List Rs := [.t .h0 .h6,.t .h0 .h7]
def c132_2 : AC := (.cond r26 .ret
 .skip)
def c132_1 : AC := (.seq (.drw [q 0 (m d9 r0),
 q 0 (o d10 (.nilc r9)),
 q 0 (o d11 (.fad 9 r10)),
 q 0 (o d12 (.ld1 r11)),
 q 0 (o d13 (.ld1 r4)),
 w (.o d14 (.call 90 [r12,r13])),
 q 0 (m d8 r14),
 q 0 (o d15 (.ext 0 r8)),
 q 0 (o d16 (.ext 1 r8)),
 q 0 (m d6 r15),
 q 0 (m d7 r16)])
 (.seq (.drw [q 0 (m d17 r7),
 q 0 (m d18 r17),
 q 0 (.g .h1 .h2 false d20 (.op (.mv r0))),
 q 0 (.g .h1 .h2 false d21 (.op (.nilc r20))),
 q 0 (.g .h1 .h2 false d22 (.op (.fad 9 r21))),
 q 0 (.g .h1 .h2 false d23 (.op (.ld1 r22))),
 w (.g .h1 .h2 false d24 (.call 87 [r23])),
 q 1 (.g .h1 .h2 false d19 (.op (.ld1 r4))),
 q 0 (.g .h1 .h2 false d25 (.op (.bin .lt r19 r24))),
 q 0 (o d26 (.pick r18 (.c (.bool true)) r25))]) c132_2))
def c132_3 : AC := (.seq (.ops [m d27 r0,
 o d28 (.ld1 r4),
 o d29 (.ld1 r5),
 .o d30 (.call 78 [r27,r28,r29])])
 (.ops [m d31 r0,
 o d32 (.mkf 170 [r4,r5]),
 .o d33 (.call 83 [r31,(.c (pi 6)),r32])]))
def c132_0 : AC := (.seq (.ops [o d4 (.box 3 r1),
 o d5 (.box 9 r2)])
 (.seq c132_1 c132_3))
def b132 : AC := c132_0
def s132 : List Rs := []
def c133_0 : AC := (.seq (.ops [o d2 (.box 129 r0),
 o d3 (.box 129 r1),
 m d4 (.c (.bool false))])
 (.seq (.ops [o d5 (.ldn 2 r2),
 o d6 (.ldn 2 r3),
 .o d7 (.call 171 [r5,r6]),
 o d8 (.bin .lt r7 (.c (pi 0))),
 m d4 r8])
 .ret))
def b133 : AC := c133_0
def s133 : List Rs := [.t .h0 .h4]
def c134_2 : AC := (.seq (.seq (.ops [m d39 r1])
 (.cond r39 (.ops [m d40 r0,
 o d41 (.nilc r40),
 o d42 (.fad 2 r41),
 o d43 (.ld1 r42),
 .o d44 (.call 173 [r43])])
 .skip))
 (.seq (.ops [m d8 (.c (.bool true))])
 .ret))
def c134_1 : AC := (.seq (.seq (.ops [m d23 r0,
 o d24 (.nilc r23),
 o d25 (.fad 2 r24),
 o d26 (.ld1 r25),
 m d27 r9,
 .o d28 (.call 172 [r26,r27]),
 o d29 (.bin .ne r28 (.c (pi 0)))])
 (.cond r29 (.seq (.ops [m d8 (.c (.bool false))])
 .ret)
 .skip))
 (.seq (.ops [m d30 r0,
 o d31 (.nilc r30),
 o d32 (.fad 5 r31),
 o d33 (.ld1 r32),
 m d34 r9,
 o d35 (.len r34),
 o d36 (.bin .add r33 r35),
 o d37 (.nilc r30),
 o d38 (.fad 5 r37),
 o .no (.st1 r38 r36)])
 c134_2))
def c134_0 : AC := (.seq (.ops [m d8 (.c (.bool false))])
 (.seq (.ops [m d10 r2,
 m d11 r3,
 .o d12 (.call 99 [r10,r11]),
 m d9 r12])
 (.seq (.seq (.ops [m d13 r0,
 o d14 (.nilc r13),
 o d15 (.fad 5 r14),
 o d16 (.ld1 r15),
 m d17 r9,
 o d18 (.len r17),
 o d19 (.bin .add r16 r18),
 o d20 (.bin .gt r19 (.c (pi 2097152)))])
 (.cond r20 (.ops [m d21 r0,
 .o d22 (.call 64 [r21])])
 .skip))
 c134_1)))
def b134 : AC := c134_0
def s134 : List Rs := [.t .h0 .h8]
def c135_0 : AC := (.seq (.ops [m d5 r0,
 o d6 (.ld1 r1),
 .o d7 (.call 85 [r5,r6])])
 (.seq (.ops [o d8 (.ld1 r2),
 o d9 (.bin .eq r8 (.c (pi 4)))])
 (.cond r9 (.ops [m d10 r0,
 o d11 (.ld1 r3),
 .o d12 (.call 105 [r10,r11])])
 .skip)))
def b135 : AC := c135_0
def s135 : List Rs := []
def c136_0 : AC := (.ops [m d3 r0,
 o d4 (.ld1 r1),
 o d5 (.nilc r4),
 o d6 (.fad 13 r5),
 o d7 (.ldn 4 r6),
 .o d8 (.call 102 [r3,r7])])
def b136 : AC := c136_0
def s136 : List Rs := []
def c137_0 : AC := (.ops [m d3 r0,
 o d4 (.ld1 r1),
 .o d5 (.call 124 [r3,r4])])
def b137 : AC := c137_0
def s137 : List Rs := []
def c138_2 : AC := (.seq (.ops [o d36 (.ldn 6 r7),
 o .no (.stn 6 r4 r36),
 m d5 (.c (.bool true))])
 .ret)
def c138_1 : AC := (.seq (.ops [m d17 r0,
 o d18 (.nilc r17),
 o d19 (.fad 17 r18),
 o d20 (.ld1 r19),
 m d21 r6,
 o d22 (.ixs 6 r20 r21),
 o d23 (.ldn 6 r22),
 o d7 (.alloc 127 6 (.k1 (.mk (pi 0) (pi 0) (pi 0) (.bool false) (.str []) (pi 0) .undef .undef .undef .undef .undef .undef .undef .undef .undef .undef))),
 o .no (.stn 6 r7 r23)])
 (.seq (.ops [m d24 r0,
 m d25 r0,
 o d26 (.nilc r25),
 o d27 (.fad 17 r26),
 o d28 (.ld1 r27),
 .o d29 (.call 177 [r28]),
 m d30 r6,
 m d31 r6,
 o d32 (.bin .add r31 (.c (pi 1))),
 .o d33 (.call 176 [r29,r30,r32]),
 o d34 (.nilc r24),
 o d35 (.fad 17 r34),
 o .no (.st1 r35 r33)])
 c138_2))
def c138_0 : AC := (.seq (.ops [o d3 (.box 125 r1),
 o d4 (.alloc 127 6 (.k1 (.mk (pi 0) (pi 0) (pi 0) (.bool false) (.str []) (pi 0) .undef .undef .undef .undef .undef .undef .undef .undef .undef .undef))),
 m d5 (.c (.bool false))])
 (.seq (.ops [m d8 r0,
 o d9 (.nilc r8),
 o d10 (.fad 17 r9),
 o d11 (.ld1 r10),
 o d12 (.mkf 175 [r3]),
 .o d13 (.call 174 [r11,r12]),
 m d6 r13])
 (.seq (.seq (.ops [m d14 r6,
 o d15 (.bin .lt r14 (.c (pi 0)))])
 (.cond r15 (.seq (.ops [o d16 (.build [(pi 0),(pi 0),(pi 0),(.bool false),(.str []),(pi 0)] []),
 o .no (.stn 6 r4 r16),
 m d5 (.c (.bool false))])
 .ret)
 .skip))
 c138_1)))
def b138 : AC := c138_0
def s138 : List Rs := [.agg 6 .h0 .h4,.t .h0 .h5]
def c139_0 : AC := (.seq (.ops [o d2 (.alloc 125 3 (.k1 (.mk (pi 0) (pi 0) (pi 0) .undef .undef .undef .undef .undef .undef .undef .undef .undef .undef .undef .undef .undef)))])
 (.seq (.ops [m d4 r0,
 .o d5 (.call 75 [r4]),
 o d6 (.build [(pi 0),(pi 0),(pi 0)] [.mk 0 1 r5]),
 o d3 (.alloc 125 3 (.k1 (.mk (pi 0) (pi 0) (pi 0) .undef .undef .undef .undef .undef .undef .undef .undef .undef .undef .undef .undef .undef))),
 o .no (.stn 3 r3 r6)])
 (.seq (.ops [m d7 r0,
 .o d8 (.call 75 [r7]),
 o d9 (.fad 1 r3),
 o .no (.st1 r9 r8)])
 (.seq (.ops [m d10 r0,
 .o d11 (.call 75 [r10]),
 o d12 (.fad 2 r3),
 o .no (.st1 r12 r11)])
 (.seq (.ops [o d13 (.ldn 3 r3),
 o .no (.stn 3 r2 r13)])
 .ret)))))
def b139 : AC := c139_0
def s139 : List Rs := [.agg 3 .h0 .h2]
def c140_1 : AC := (.seq (.seq (.ops [m d8 r6,
 o d9 (.bin .eq r8 (.c (pi 0)))])
 (.cond r9 .ret
 .skip))
 (.seq (.ops [m d10 r0,
 m d11 r0,
 o d12 (.nilc r11),
 o d13 (.fad 0 r12),
 o d14 (.ld1 r13),
 m d15 r1,
 o d16 (.conv (.toInt .u8) r15),
 o d17 (.bslice 5 1 1 [(.int .u8 (.ofNat 0))] [.mk 0 1 r16]),
 o d18 (.app 5 1 r14 r17),
 o d19 (.nilc r10),
 o d20 (.fad 0 r19),
 o .no (.st1 r20 r18)])
 (.seq (.ops [m d21 r1,
 o d22 (.bin .shr r21 (.c (.int .u64 (.ofNat 8)))),
 m d1 r22])
 (.seq (.ops [m d23 r6,
 o d24 (.bin .sub r23 (.c (pi 1))),
 m d6 r24])
 (.goto 0)))))
def c140_0 : AC := (.seq (.ops [m d7 r2,
 m d6 r7])
 (.seq (.label 0) c140_1))
def b140 : AC := (.scope c140_0)
def s140 : List Rs := []
def c141_2 : AC := (.seq (.cond r13 .skip
 (.exit 0))
 (.block 1 (.seq (.ops [o d14 (.ent r11),
 o d15 (.ext 0 r14),
 m d4 r15])
 (.ops [m d16 r3,
 m d17 r4,
 o .no (.mup (.one .i) r16 r17 (.c (pi 1)))]))))
def c141_1 : AC := (.seq (.ops [o d7 (.ld1 r1),
 o d8 (.nilc r7),
 o d9 (.fad 7 r8),
 o d10 (.ld1 r9),
 o d11 (.rngm r10)])
 (.join (.block 0 (.loop (.seq (.ops [.o d12 (.nxt false r11),
 o d13 (.ext 0 r12)]) c141_2)))))
def c141_4 : AC := (.seq (.cond r24 .skip
 (.exit 2))
 (.block 3 (.seq (.ops [o d25 (.ent r22),
 o d26 (.ext 0 r25),
 m d5 r26])
 (.ops [m d27 r3,
 m d28 r5,
 o .no (.mup (.one .i) r27 r28 (.c (pi 1)))]))))
def c141_3 : AC := (.seq (.ops [o d18 (.ld1 r1),
 o d19 (.nilc r18),
 o d20 (.fad 8 r19),
 o d21 (.ld1 r20),
 o d22 (.rngm r21)])
 (.join (.block 2 (.loop (.seq (.ops [.o d23 (.nxt false r22),
 o d24 (.ext 0 r23)]) c141_4)))))
def c141_5 : AC := (.seq (.ops [m d29 r3,
 .o d30 (.call 180 [r29]),
 .o d31 (.call 179 [r30]),
 o d32 (.mkf 181 [r1]),
 .o d33 (.call 178 [r31,r32]),
 m d2 r33])
 .ret)
def c141_0 : AC := (.seq (.ops [o d1 (.box 92 r0),
 m d2 (.c .nils)])
 (.seq (.ops [o d6 (.mkmap),
 m d3 r6])
 (.seq c141_1 (.seq c141_3 c141_5))))
def b141 : AC := c141_0
def s141 : List Rs := [.t .h0 .h2]
def c142_0 : AC := (.seq (.ops [o d5 (.box 129 r1),
 o d6 (.box 3 r2),
 o d7 (.box 9 r3)])
 (.ops [m d8 r0,
 o d9 (.mkf 182 [r5,r6,r7]),
 .o d10 (.call 83 [r8,(.c (pi 3)),r9])]))
def b142 : AC := c142_0
def s142 : List Rs := []
def c143_0 : AC := (.seq (.ops [o d3 (.box 3 r1)])
 (.ops [m d4 r0,
 o d5 (.nilc r4),
 o d6 (.fad 2 r5),
 o d7 (.ld1 r6),
 o d8 (.mkf 184 [r3]),
 .o d9 (.call 183 [r7,r8])]))
def b143 : AC := c143_0
def s143 : List Rs := []
def c144_0 : AC := (.seq (.ops [o d3 (.box 3 r1)])
 (.ops [m d4 r0,
 o d5 (.nilc r4),
 o d6 (.fad 0 r5),
 o d7 (.ld1 r6),
 o d8 (.mkf 186 [r3]),
 .o d9 (.call 185 [r7,r8])]))
def b144 : AC := c144_0
def s144 : List Rs := []
def c145_2 : AC := (.seq (.ops [o d14 (.bin .lt r13 r12)])
 (.seq (.cond r14 .skip
 (.exit 0))
 (.seq (.block 1 (.seq (.ops [m d15 r13,
 m d5 r15])
 (.seq (.drw [q 0 (m d16 r0),
 q 0 (m d17 r5),
 q 0 (o d18 (.ixs 1 r16 r17)),
 q 0 (o d19 (.ld1 r18)),
 q 0 (m d20 r1),
 q 0 (m d21 r5),
 q 0 (o d22 (.ixs 1 r20 r21)),
 q 0 (o d23 (.ld1 r22)),
 q 0 (o d24 (.bin .ne r19 r23))])
 (.cond r24 (.seq (.ops [m d4 (.c (.bool false))])
 .ret)
 .skip))))
 (.ops [o d25 (.bin .add r13 (.c (pi 1))),
 m d13 r25]))))
def c145_1 : AC := (.seq (.ops [m d11 r0,
 o d12 (.len r11),
 m d13 (.c (pi 0))])
 (.block 0 (.loop c145_2)))
def c145_3 : AC := (.seq (.ops [m d4 (.c (.bool true))])
 .ret)
def c145_0 : AC := (.seq (.ops [m d4 (.c (.bool false))])
 (.seq (.seq (.ops [m d6 r0,
 o d7 (.len r6),
 m d8 r1,
 o d9 (.len r8),
 o d10 (.bin .ne r7 r9)])
 (.cond r10 (.seq (.ops [m d4 (.c (.bool false))])
 .ret)
 .skip))
 (.seq c145_1 c145_3)))
def b145 : AC := c145_0
def s145 : List Rs := [.t .h0 .h4]
def c146_0 : AC := (.seq (.ops [m d2 (.c .nils)])
 (.seq (.ops [m d4 r0,
 .o d5 (.call 187 [r4]),
 m d3 r5])
 (.seq (.ops [m d6 r3,
 o d7 (.conv (.toInt .u8) r6),
 m d8 r3,
 o d9 (.bin .shr r8 (.c (.int .u64 (.ofNat 8)))),
 o d10 (.conv (.toInt .u8) r9),
 m d11 r3,
 o d12 (.bin .shr r11 (.c (.int .u64 (.ofNat 16)))),
 o d13 (.conv (.toInt .u8) r12),
 m d14 r3,
 o d15 (.bin .shr r14 (.c (.int .u64 (.ofNat 24)))),
 o d16 (.conv (.toInt .u8) r15),
 o d17 (.bslice 5 1 4 [(.int .u8 (.ofNat 0)),(.int .u8 (.ofNat 0)),(.int .u8 (.ofNat 0)),(.int .u8 (.ofNat 0))] [.mk 0 1 r7,.mk 1 1 r10,.mk 2 1 r13,.mk 3 1 r16]),
 m d18 r0,
 o d19 (.app 5 1 r17 r18),
 m d2 r19])
 .ret)))
def b146 : AC := c146_0
def s146 : List Rs := [.t .h0 .h2]
def c147_0 : AC := (.seq (.ops [o d4 (.alloc 138 4 (.k1 (.mk (pi 0) (pi 0) (pi 0) (.str []) .undef .undef .undef .undef .undef .undef .undef .undef .undef .undef .undef .undef))),
 m d5 (.c (.bool false))])
 (.seq (.ops [m d9 r0,
 o d10 (.nilc r9),
 o d11 (.fad 2 r10),
 o d12 (.ld1 r11),
 m d13 r1,
 o d14 (.lkp (.one .i) (.agg [(pi 0),(pi 0),(pi 0),(.str [])]) true r12 r13),
 m d8 r14,
 o d15 (.ext 0 r8),
 o d16 (.ext 1 r8),
 o d6 (.alloc 138 4 (.k1 (.mk (pi 0) (pi 0) (pi 0) (.str []) .undef .undef .undef .undef .undef .undef .undef .undef .undef .undef .undef .undef))),
 o .no (.stn 4 r6 r15),
 m d7 r16])
 (.seq (.ops [o d17 (.ldn 4 r6),
 m d18 r7,
 o .no (.stn 4 r4 r17),
 m d5 r18])
 .ret)))
def b147 : AC := c147_0
def s147 : List Rs := [.agg 4 .h0 .h4,.t .h0 .h5]
def c148_1 : AC := (.cond r23 (.ops [m d24 r0,
 m d25 r5,
 .o d26 (.call 189 [r24,(.c (pi 3)),r25])])
 .skip)
def c148_2 : AC := (.seq (.ops [m d27 r0,
 m d28 r6,
 .o d29 (.call 162 [r27,r28]),
 o d30 (.conv .b2s r29),
 m d4 r30])
 .ret)
def c148_0 : AC := (.seq (.ops [m d4 (.c (.str []))])
 (.seq (.ops [m d7 r0,
 o d8 (.nilc r7),
 o d9 (.fad 1 r8),
 o d10 (.ld1 r9),
 m d5 r10])
 (.seq (.ops [m d11 r0,
 .o d12 (.call 188 [r11]),
 m d6 r12])
 (.seq (.seq (.ops [m d13 r0,
 o d14 (.nilc r13),
 o d15 (.fad 2 r14),
 o d16 (.ld1 r15),
 o d17 (.bin .eq r16 (.c (pi 0))),
 m d18 r17,
 .g .h1 .h2 true d19 (.op (.mv r6)),
 .g .h1 .h2 true d20 (.op (.mv r1)),
 .g .h1 .h2 true d21 (.op (.max false [r20,(.c (pi 0))])),
 .g .h1 .h2 true d22 (.op (.bin .gt r19 r21)),
 o d23 (.pick r18 r22 (.c (.bool false)))]) c148_1) c148_2))))
def b148 : AC := c148_0
def s148 : List Rs := [.t .h0 .h4]
def c149_2 : AC := (.cond r30 (.seq (.ops [m d6 (.c (.bool false))])
 .ret)
 .skip)
def c149_1 : AC := (.seq (.ops [m d10 r0,
 o d11 (.nilc r10),
 o d12 (.fad 0 r11),
 o d13 (.ld1 r12),
 m d14 r1,
 o d15 (.lkp (.one .i) (.str []) true r13 r14),
 m d9 r15,
 o d16 (.ext 0 r9),
 o d17 (.ext 1 r9),
 m d7 r16,
 m d8 r17])
 (.seq (.ops [m d18 r8,
 m d19 r18,
 .g .h1 .h3 false d20 (.op (.mv r1)),
 .g .h1 .h3 false d21 (.op (.mv r0)),
 .g .h1 .h3 false d22 (.op (.nilc r21)),
 .g .h1 .h3 false d23 (.op (.fad 1 r22)),
 .g .h1 .h3 false d24 (.op (.ld1 r23)),
 .g .h1 .h3 false d25 (.op (.bin .lt r20 r24)),
 o d26 (.pick r19 (.c (.bool true)) r25),
 m d27 r26,
 .g .h1 .hb false d28 (.op (.mv r1)),
 .g .h1 .hb false d29 (.op (.bin .ge r28 (.c (pi 1048576)))),
 o d30 (.pick r27 (.c (.bool true)) r29)]) c149_2))
def c149_3 : AC := (.seq (.ops [m d31 r0,
 o d32 (.nilc r31),
 o d33 (.fad 0 r32),
 o d34 (.ld1 r33),
 m d35 r1,
 m d36 r2,
 o .no (.mup (.one .i) r34 r35 r36)])
 (.seq (.ops [m d6 (.c (.bool true))])
 .ret))
def c149_0 : AC := (.seq (.ops [m d6 (.c (.bool false))])
 (.seq c149_1 c149_3))
def b149 : AC := c149_0
def s149 : List Rs := [.t .h0 .h6]
def c150_0 : AC := (.seq (.ops [m d4 r1,
 m d5 r0,
 o d6 (.nilc r5),
 o d7 (.fad 1 r6),
 o d8 (.ld1 r7),
 o d9 (.bin .gt r4 r8)])
 (.cond r9 (.seq (.ops [m d10 r0,
 m d11 r1,
 .o d12 (.call 144 [r10,r11])])
 (.ops [m d13 r0,
 m d14 r1,
 o d15 (.nilc r13),
 o d16 (.fad 1 r15),
 o .no (.st1 r16 r14)]))
 .skip))
def b150 : AC := c150_0
def s150 : List Rs := []
def c151_0 : AC := (.seq (.ops [m d0 (.c .nilp)])
 (.seq (.ops [o d1 (.build [.nils] []),
 o d2 (.box 225 r1),
 m d0 r2])
 .ret))
def b151 : AC := c151_0
def s151 : List Rs := [.t .h0 .h0]
def c152_0 : AC := (.ops [m d4 r0,
 m d5 r1,
 o d6 (.conv (.toInt .u64) r5),
 .o d7 (.call 140 [r4,r6,(.c (pi 1))])])
def b152 : AC := c152_0
def s152 : List Rs := []
def c153_0 : AC := (.seq (.ops [m d2 (.c .nils)])
 (.seq (.ops [.o d5 (.call 151 []),
 m d3 r5])
 (.seq (.ops [m d6 r0,
 .o d7 (.call 146 [r6]),
 m d4 r7])
 (.seq (.ops [m d8 r3,
 m d9 r4,
 o d10 (.len r9),
 .o d11 (.call 85 [r8,r10])])
 (.seq (.ops [m d12 r3,
 .o d13 (.call 154 [r12]),
 m d14 r4,
 o d15 (.app 5 1 r13 r14),
 m d2 r15])
 .ret)))))
def b153 : AC := c153_0
def s153 : List Rs := [.t .h0 .h2]
def c154_0 : AC := (.seq (.ops [m d2 (.c .nils)])
 (.seq (.ops [m d3 r0,
 o d4 (.nilc r3),
 o d5 (.fad 0 r4),
 o d6 (.ld1 r5),
 .o d7 (.call 92 [r6]),
 m d2 r7])
 .ret))
def b154 : AC := c154_0
def s154 : List Rs := [.t .h0 .h2]
def c155_0 : AC := (.seq (.ops [m d4 (.c .nils)])
 (.seq (.ops [m d6 r0,
 .o d7 (.call 190 [r6]),
 m d5 r7])
 (.seq (.ops [m d8 r5,
 m d9 r1,
 .o d10 (.call 191 [r8,r9])])
 (.seq (.ops [m d11 r5,
 m d4 r11])
 .ret))))
def b155 : AC := c155_0
def s155 : List Rs := [.t .h0 .h4]
def c156_0 : AC := (.seq (.ops [o d1 (.box 95 r0),
 m d2 (.c .nilf)])
 (.seq (.ops [o d3 (.mkf 192 [r1]),
 m d2 r3])
 .ret))
def b156 : AC := c156_0
def s156 : List Rs := [.t .h0 .h2]
def c157_0 : AC := (.seq (.ops [o d3 (.box 125 r0),
 o d4 (.box 125 r1),
 m d5 (.c (pi 0))])
 (.seq (.drw [q 0 (o d6 (.fad 2 r2)),
 q 0 (o d7 (.ld1 r6)),
 q 0 (o d8 (.ldn 3 r3)),
 q 0 (o d9 (.lkp (.agg [.i,.i,.i]) (pi 0) false r7 r8)),
 q 0 (o d10 (.fad 2 r2)),
 q 0 (o d11 (.ld1 r10)),
 q 0 (o d12 (.ldn 3 r4)),
 q 0 (o d13 (.lkp (.agg [.i,.i,.i]) (pi 0) false r11 r12)),
 q 0 (o d14 (.bin .sub r9 r13)),
 q 0 (m d5 r14)])
 .ret))
def b157 : AC := c157_0
def s157 : List Rs := [.t .h0 .h5]
def c158_0 : AC := (.seq (.ops [o d3 (.box 125 r1)])
 (.seq (.ops [m d4 r0,
 o d5 (.fad 0 r3),
 o d6 (.ld1 r5),
 .o d7 (.call 85 [r4,r6])])
 (.seq (.ops [m d8 r0,
 o d9 (.fad 1 r3),
 o d10 (.ld1 r9),
 .o d11 (.call 85 [r8,r10])])
 (.ops [m d12 r0,
 o d13 (.fad 2 r3),
 o d14 (.ld1 r13),
 .o d15 (.call 85 [r12,r14])]))))
def b158 : AC := c158_0
def s158 : List Rs := []
def c159_0 : AC := (.seq (.ops [m d4 r0,
 m d5 r1,
 o d6 (.lent r5),
 .o d7 (.call 193 [r4,r6])])
 (.ops [m d8 r0,
 m d9 r0,
 o d10 (.nilc r9),
 o d11 (.fad 0 r10),
 o d12 (.ld1 r11),
 m d13 r1,
 o d14 (.apps 5 r12 r13),
 o d15 (.nilc r8),
 o d16 (.fad 0 r15),
 o .no (.st1 r16 r14)]))
def b159 : AC := c159_0
def s159 : List Rs := []
def c160_0 : AC := (.seq (.ops [m d4 r0,
 o d5 (.fad 0 r1),
 o d6 (.ld1 r5),
 .o d7 (.call 85 [r4,r6])])
 (.seq (.ops [o d8 (.ld1 r2),
 o d9 (.bin .eq r8 (.c (pi 4)))])
 (.cond r9 (.ops [m d10 r0,
 o d11 (.fad 3 r1),
 o d12 (.ld1 r11),
 .o d13 (.call 105 [r10,r12])])
 .skip)))
def b160 : AC := c160_0
def s160 : List Rs := []
def c161_0 : AC := (.seq (.ops [o d2 (.alloc 125 3 (.k1 (.mk (pi 0) (pi 0) (pi 0) .undef .undef .undef .undef .undef .undef .undef .undef .undef .undef .undef .undef .undef))),
 m d3 (.c (.bool false)),
 m d4 (.c (.str []))])
 (.seq (.ops [m d8 r0,
 o d9 (.conv (.s2b 5) r8),
 .o d10 (.call 63 [r9]),
 m d5 r10])
 (.seq (.ops [m d11 r5,
 .o d12 (.call 139 [r11]),
 o d6 (.alloc 125 3 (.k1 (.mk (pi 0) (pi 0) (pi 0) .undef .undef .undef .undef .undef .undef .undef .undef .undef .undef .undef .undef .undef))),
 o .no (.stn 3 r6 r12)])
 (.seq (.ops [m d13 r5,
 .o d14 (.call 68 [r13]),
 o d15 (.bin .eq r14 (.c (pi 1))),
 m d7 r15])
 (.seq (.drw [q 0 (m d21 r5),
 w (.o d22 (.call 194 [r21])),
 q 1 (o d16 (.ldn 3 r6)),
 w (o .no (.stn 3 r2 r16)),
 q 2 (m d17 r7),
 q 2 (m d18 r0),
 q 2 (m d19 r0),
 q 2 (o d20 (.lent r19)),
 q 1 (o d23 (.bin .sub r20 r22)),
 q 1 (o d24 (.slcs r18 (.some r23) .none)),
 q 0 (m d3 r17),
 q 0 (m d4 r24)]) .ret)))))
def b161 : AC := c161_0
def s161 : List Rs := [.agg 3 .h0 .h2,.t .h0 .h3,.t .h0 .h4]
def c162_3 : AC := (.seq (.drw [q 0 (m d37 r0),
 q 0 (o d38 (.nilc r37)),
 q 0 (o d39 (.fad 0 r38)),
 q 0 (o d40 (.ld1 r39)),
 q 0 (m d41 r0),
 q 0 (o d42 (.nilc r41)),
 q 0 (o d43 (.fad 1 r42)),
 q 0 (o d44 (.ld1 r43)),
 q 0 (m d45 r1),
 q 0 (o d46 (.bin .sub r44 r45)),
 q 0 (m d47 r0),
 q 0 (o d48 (.nilc r47)),
 q 0 (o d49 (.fad 1 r48)),
 q 0 (o d50 (.ld1 r49)),
 q 0 (o d51 (.slc 1 r40 (.some r46) (.some r50) .none)),
 q 0 (m d4 r51)])
 .ret)
def c162_2 : AC := (.seq (.ops [m d29 r0,
 o d30 (.nilc r29),
 o d31 (.fad 1 r30),
 o d32 (.ld1 r31),
 m d33 r1,
 o d34 (.bin .add r32 r33),
 o d35 (.nilc r29),
 o d36 (.fad 1 r35),
 o .no (.st1 r36 r34)])
 c162_3)
def c162_1 : AC := (.seq (.seq (.drw [q 0 (m d10 r1),
 q 0 (m d11 r0),
 q 0 (o d12 (.nilc r11)),
 q 0 (o d13 (.fad 0 r12)),
 q 0 (o d14 (.ld1 r13)),
 q 0 (o d15 (.len r14)),
 q 0 (m d16 r0),
 q 0 (o d17 (.nilc r16)),
 q 0 (o d18 (.fad 1 r17)),
 q 0 (o d19 (.ld1 r18)),
 q 0 (o d20 (.bin .sub r15 r19)),
 q 0 (o d21 (.bin .gt r10 r20))])
 (.cond r21 (.seq (.ops [m d22 r0,
 m d23 r0,
 o d24 (.nilc r23),
 o d25 (.fad 0 r24),
 o d26 (.ld1 r25),
 o d27 (.len r26),
 .o d28 (.call 189 [r22,(.c (pi 10)),r27])])
 (.seq (.ops [m d4 (.c .nils)])
 .ret))
 .skip))
 c162_2)
def c162_0 : AC := (.seq (.ops [m d4 (.c .nils)])
 (.seq (.seq (.ops [m d5 r0,
 o d6 (.nilc r5),
 o d7 (.fad 2 r6),
 o d8 (.ld1 r7),
 o d9 (.bin .ne r8 (.c (pi 0)))])
 (.cond r9 (.seq (.ops [m d4 (.c .nils)])
 .ret)
 .skip))
 c162_1))
def b162 : AC := c162_0
def s162 : List Rs := [.t .h0 .h4]
def c163_0 : AC := (.ops [m d3 r0,
 o d4 (.ldn 2 r1),
 .o d5 (.call 104 [r3,r4])])
def b163 : AC := c163_0
def s163 : List Rs := []
def c164_0 : AC := (.ops [m d3 r0,
 o d4 (.ld1 r1),
 o d5 (.nilc r4),
 o d6 (.fad 7 r5),
 o d7 (.ld1 r6),
 .o d8 (.call 107 [r7]),
 .o d9 (.call 104 [r3,r8])])
def b164 : AC := c164_0
def s164 : List Rs := []
def c165_0 : AC := (.seq (.ops [m d4 (.c (.bool false))])
 (.seq (.ops [m d5 r1,
 o d6 (.bin .ge r5 (.c (pi 0))),
 m d7 r6,
 .g .h0 .h7 true d8 (.op (.mv r1)),
 .g .h0 .h7 true d9 (.op (.mv r0)),
 .g .h0 .h7 true d10 (.op (.nilc r9)),
 .g .h0 .h7 true d11 (.op (.fad 1 r10)),
 .g .h0 .h7 true d12 (.op (.ld1 r11)),
 .g .h0 .h7 true d13 (.op (.bin .lt r8 r12)),
 o d14 (.pick r7 r13 (.c (.bool false))),
 m d4 r14]) .ret))
def b165 : AC := c165_0
def s165 : List Rs := [.t .h0 .h4]
def c166_0 : AC := (.seq (.ops [m d6 r0,
 o d7 (.ldn 2 r1),
 .o d8 (.call 104 [r6,r7])])
 (.seq (.ops [m d9 r0,
 o d10 (.ld1 r2),
 .o d11 (.call 85 [r9,r10])])
 (.seq (.ops [o d12 (.ld1 r3),
 o d13 (.bin .eq r12 (.c (pi 2)))])
 (.cond r13 (.ops [m d14 r0,
 o d15 (.ld1 r4),
 .o d16 (.call 105 [r14,r15])])
 .skip))))
def b166 : AC := c166_0
def s166 : List Rs := []
def c167_1 : AC := (.cond r27 (.seq (.ops [m d8 (.c (.bool false))])
 .ret)
 .skip)
def c167_3 : AC := (.seq (.ops [m d41 r0,
 m d42 r0,
 o d43 (.nilc r42),
 o d44 (.fad 3 r43),
 o d45 (.ld1 r44),
 m d46 r2,
 o d47 (.bin .add r46 (.c (pi 1))),
 o d48 (.max false [r45,r47]),
 o d49 (.nilc r41),
 o d50 (.fad 3 r49),
 o .no (.st1 r50 r48)])
 (.seq (.ops [m d8 (.c (.bool true))])
 .ret))
def c167_2 : AC := (.seq (.ops [m d28 r0,
 o d29 (.ldn 2 r5),
 o d30 (.nilc r28),
 o d31 (.fad 0 r30),
 o .no (.stn 2 r31 r29)])
 (.seq (.drw [q 0 (m d32 r0),
 q 0 (o d33 (.nilc r32)),
 q 0 (o d34 (.fad 2 r33)),
 q 0 (o d35 (.ld1 r34)),
 q 0 (m d36 r2),
 q 0 (m d37 r2),
 q 0 (o d38 (.ldn 2 r5)),
 q 0 (m d39 r3),
 q 0 (o d40 (.build [(pi 0),(pi 0),(pi 0),(.str [])] [.mk 0 1 r37,.mk 1 2 r38,.mk 3 1 r39])),
 w (o .no (.mup (.one .i) r35 r36 r40))])
 c167_3))
def c167_0 : AC := (.seq (.ops [o d5 (.box 129 r1),
 m d8 (.c (.bool false))])
 (.seq (.seq (.drw [q 0 (o d9 (.ldn 2 r5)),
 q 0 (m d10 r0),
 q 0 (o d11 (.nilc r10)),
 q 0 (o d12 (.fad 0 r11)),
 q 0 (o d13 (.ldn 2 r12)),
 w (.o d14 (.call 133 [r9,r13])),
 q 0 (m d15 r14),
 q 0 (.g .h0 .hf false d16 (.op (.ldn 2 r5))),
 q 0 (.g .h0 .hf false d17 (.op (.build [(pi 0),(pi 0)] []))),
 q 0 (.g .h0 .hf false d18 (.op (.bin (.aeq [.i,.i]) r16 r17))),
 q 0 (o d19 (.pick r15 (.c (.bool true)) r18)),
 q 0 (m d20 r19),
 q 0 (.g .h1 .h4 false d21 (.op (.mv r2))),
 q 0 (.g .h1 .h4 false d22 (.op (.bin .lt r21 (.c (pi 0))))),
 q 0 (o d23 (.pick r20 (.c (.bool true)) r22)),
 q 0 (m d24 r23),
 q 0 (.g .h1 .h8 false d25 (.op (.mv r2))),
 q 0 (.g .h1 .h8 false d26 (.op (.bin .ge r25 (.c (pi 1048576))))),
 q 0 (o d27 (.pick r24 (.c (.bool true)) r26))]) c167_1) c167_2))
def b167 : AC := c167_0
def s167 : List Rs := [.t .h0 .h8]
def c168_0 : AC := (.seq (.ops [m d4 (.c (.bool false))])
 (.seq (.ops [m d5 r1,
 o d6 (.bin .mul (.c (pi 2)) r5),
 m d7 r0,
 o d8 (.nilc r7),
 o d9 (.fad 1 r8),
 o d10 (.ld1 r9),
 o d11 (.bin .gt r6 r10),
 m d4 r11])
 .ret))
def b168 : AC := c168_0
def s168 : List Rs := [.t .h0 .h4]
def c169_0 : AC := (.seq (.ops [m d2 (.c (.bool false))])
 (.seq (.ops [m d3 r0,
 m d4 r0,
 o d5 (.nilc r4),
 o d6 (.fad 6 r5),
 o d7 (.ld1 r6),
 o d8 (.lenm r7),
 .o d9 (.call 168 [r3,r8]),
 m d2 r9])
 .ret))
def b169 : AC := c169_0
def s169 : List Rs := [.t .h0 .h2]
def c170_0 : AC := (.ops [m d4 r0,
 o d5 (.ld1 r1),
 o d6 (.ld1 r2),
 o d7 (.build [(pi 0),(pi 0),(pi 0),(.str [])] [.mk 0 1 r5,.mk 3 1 r6]),
 o d8 (.bslice 138 4 1 [(pi 0),(pi 0),(pi 0),(.str [])] [.mk 0 4 r7]),
 .o d9 (.call 124 [r4,r8])])
def b170 : AC := c170_0
def s170 : List Rs := []
def c171_0 : AC := (.seq (.ops [o d2 (.box 129 r0),
 o d3 (.box 129 r1),
 m d4 (.c (pi 0))])
 (.seq (.drw [q 0 (o d5 (.fad 0 r2)),
 q 0 (o d6 (.ld1 r5)),
 q 0 (o d7 (.fad 0 r3)),
 q 0 (o d8 (.ld1 r7)),
 w (.o d9 (.call 196 [r6,r8])),
 q 1 (o d10 (.fad 1 r2)),
 q 1 (o d11 (.ld1 r10)),
 q 1 (o d12 (.fad 1 r3)),
 q 1 (o d13 (.ld1 r12)),
 w (.o d14 (.call 196 [r11,r13])),
 w (o d15 (.bslice 3 1 2 [(pi 0),(pi 0)] [.mk 0 1 r9,.mk 1 1 r14])),
 w (.o d16 (.call 195 [r15])),
 q 0 (m d4 r16)]) .ret))
def b171 : AC := c171_0
def s171 : List Rs := [.t .h0 .h4]
def c172_0 : AC := (.seq (.ops [m d4 (.c (pi 0))])
 (.seq (.seq (.ops [m d5 r1,
 o d6 (.len r5),
 m d7 r0,
 o d8 (.nilc r7),
 o d9 (.fad 0 r8),
 o d10 (.ld1 r9),
 o d11 (.len r10),
 o d12 (.bin .sub (.c (pi 4194304)) r11),
 o d13 (.bin .gt r6 r12)])
 (.cond r13 (.seq (.ops [m d4 (.c (pi 13))])
 .ret)
 .skip))
 (.seq (.ops [m d14 r0,
 m d15 r0,
 o d16 (.nilc r15),
 o d17 (.fad 0 r16),
 o d18 (.ld1 r17),
 m d19 r1,
 o d20 (.app 5 1 r18 r19),
 o d21 (.nilc r14),
 o d22 (.fad 0 r21),
 o .no (.st1 r22 r20)])
 (.seq (.ops [m d4 (.c (pi 0))])
 .ret))))
def b172 : AC := c172_0
def s172 : List Rs := [.t .h0 .h4]
def c173_0 : AC := (.ops [m d2 r0,
 m d3 r0,
 o d4 (.nilc r3),
 o d5 (.fad 0 r4),
 o d6 (.ld1 r5),
 o d7 (.len r6),
 o d8 (.nilc r2),
 o d9 (.fad 1 r8),
 o .no (.st1 r9 r7)])
def b173 : AC := c173_0
def s173 : List Rs := []
def c174_2 : AC := (.seq (.ops [o d9 (.bin .lt r8 r7)])
 (.seq (.cond r9 .skip
 (.exit 0))
 (.seq (.block 1 (.seq (.ops [m d10 r8,
 m d5 r10])
 (.seq (.ops [m d11 r1,
 m d12 r0,
 m d13 r5,
 o d14 (.ixs 6 r12 r13),
 o d15 (.ldn 6 r14),
 .o d16 (.calld r11 [r15])])
 (.cond r16 (.seq (.ops [m d17 r5,
 m d4 r17])
 .ret)
 .skip))))
 (.ops [o d18 (.bin .add r8 (.c (pi 1))),
 m d8 r18]))))
def c174_1 : AC := (.seq (.ops [m d6 r0,
 o d7 (.len r6),
 m d8 (.c (pi 0))])
 (.block 0 (.loop c174_2)))
def c174_3 : AC := (.seq (.ops [m d4 (.c (ni 0))])
 .ret)
def c174_0 : AC := (.seq (.ops [m d4 (.c (pi 0))])
 (.seq c174_1 c174_3))
def b174 : AC := c174_0
def s174 : List Rs := [.t .h0 .h4]
def c175_0 : AC := (.seq (.ops [o d2 (.box 127 r0),
 m d3 (.c (.bool false))])
 (.seq (.ops [o d4 (.fad 0 r2),
 o d5 (.ldn 3 r4),
 o d6 (.ldn 3 r1),
 o d7 (.bin (.aeq [.i,.i,.i]) r5 r6),
 m d3 r7])
 .ret))
def b175 : AC := c175_0
def s175 : List Rs := [.t .h0 .h3]
def c176_1 : AC := (.seq (.drw [q 0 (m d20 r0),
 q 0 (m d21 r1),
 q 0 (o d22 (.slc 6 r20 .none (.some r21) .none)),
 q 0 (m d23 r0),
 q 0 (m d24 r2),
 q 0 (o d25 (.slc 6 r23 (.some r24) .none .none)),
 w (o d26 (.app 127 6 r22 r25)),
 q 0 (m d0 r26)])
 (.seq (.ops [m d27 r0,
 m d28 r0,
 o d29 (.len r28),
 m d30 r7,
 o d31 (.slc 6 r27 (.some r29) (.some r30) .none),
 o .no (.clr [(pi 0),(pi 0),(pi 0),(.bool false),(.str []),(pi 0)] r31)])
 (.seq (.ops [m d32 r0,
 m d6 r32])
 .ret)))
def c176_0 : AC := (.seq (.ops [m d6 (.c .nils)])
 (.seq (.ops [m d8 r0,
 m d9 r1,
 m d10 r2,
 m d11 r0,
 o d12 (.len r11),
 o d13 (.slc 6 r8 (.some r9) (.some r10) (.some r12))])
 (.seq (.seq (.ops [m d14 r1,
 m d15 r2,
 o d16 (.bin .eq r14 r15)])
 (.cond r16 (.seq (.ops [m d17 r0,
 m d6 r17])
 .ret)
 .skip))
 (.seq (.ops [m d18 r0,
 o d19 (.len r18),
 m d7 r19])
 c176_1))))
def b176 : AC := c176_0
def s176 : List Rs := [.t .h0 .h6]
def c177_0 : AC := (.seq (.ops [m d2 (.c .nils)])
 (.seq (.seq (.ops [m d3 r0,
 o d4 (.bin (.isnil .s) r3 (.c .nils))])
 (.cond r4 (.seq (.ops [m d2 (.c .nils)])
 .ret)
 .skip))
 (.seq (.ops [o d5 (.bslice 127 6 0 [] []),
 m d6 r0,
 o d7 (.app 127 6 r5 r6),
 m d2 r7])
 .ret)))
def b177 : AC := c177_0
def s177 : List Rs := [.t .h0 .h2]
def c178_3 : AC := (.ops [m d20 r6,
 o d21 (.bin .add r20 (.c (pi 1))),
 m d6 r21])
def c178_2 : AC := (.seq (.seq (.ops [m d16 r6,
 m d17 r0,
 o d18 (.len r17),
 o d19 (.bin .lt r16 r18)])
 (.cond r19 .skip
 (.exit 0)))
 (.seq (.block 1 (.seq (.ops [m d22 r0,
 m d23 r6,
 o d24 (.ixs 1 r22 r23),
 o d25 (.ld1 r24),
 m d7 r25])
 (.seq (.ops [m d26 r1,
 m d27 r7,
 .o d28 (.calld r26 [r27]),
 o d29 (.un .not r28)])
 (.cond r29 (.seq (.ops [m d30 r0,
 m d31 r5,
 m d32 r7,
 o d33 (.ixs 1 r30 r31),
 o .no (.st1 r33 r32)])
 (.ops [m d34 r5,
 o d35 (.bin .add r34 (.c (pi 1))),
 m d5 r35]))
 .skip))))
 c178_3))
def c178_1 : AC := (.seq (.ops [m d14 r5,
 o d15 (.bin .add r14 (.c (pi 1))),
 m d6 r15])
 (.block 0 (.loop c178_2)))
def c178_4 : AC := (.seq (.ops [m d36 r0,
 m d37 r5,
 o d38 (.slc 1 r36 (.some r37) .none .none),
 o .no (.clr [(pi 0)] r38)])
 (.seq (.ops [m d39 r0,
 m d40 r5,
 o d41 (.slc 1 r39 .none (.some r40) .none),
 m d4 r41])
 .ret))
def c178_0 : AC := (.seq (.ops [m d4 (.c .nils)])
 (.seq (.ops [m d8 r0,
 m d9 r1,
 .o d10 (.call 197 [r8,r9]),
 m d5 r10])
 (.seq (.seq (.ops [m d11 r5,
 o d12 (.bin .eq r11 (.c (ni 0)))])
 (.cond r12 (.seq (.ops [m d13 r0,
 m d4 r13])
 .ret)
 .skip))
 (.seq c178_1 c178_4))))
def b178 : AC := c178_0
def s178 : List Rs := [.t .h0 .h4]
def c179_0 : AC := (.seq (.ops [m d2 (.c .nils)])
 (.seq (.ops [m d4 r0,
 .o d5 (.call 198 [r4]),
 m d3 r5])
 (.seq (.ops [m d6 r3,
 .o d7 (.call 199 [r6])])
 (.seq (.ops [m d8 r3,
 m d2 r8])
 .ret))))
def b179 : AC := c179_0
def s179 : List Rs := [.t .h0 .h2]
def c180_0 : AC := (.seq (.ops [o d1 (.box 99 r0),
 m d2 (.c .nilf)])
 (.seq (.ops [o d3 (.mkf 200 [r1]),
 m d2 r3])
 .ret))
def b180 : AC := c180_0
def s180 : List Rs := [.t .h0 .h2]
def c181_0 : AC := (.seq (.ops [m d3 (.c (.bool false))])
 (.seq (.ops [o d5 (.ld1 r1),
 o d6 (.nilc r5),
 o d7 (.fad 8 r6),
 o d8 (.ld1 r7),
 m d9 r0,
 o d10 (.lkp (.one .i) .nilp false r8 r9),
 m d4 r10])
 (.seq (.drw [q 0 (m d11 r4),
 q 0 (o d12 (.bin .pne r11 (.c .nilp))),
 q 0 (m d13 r12),
 q 0 (.g .h0 .hd true d14 (.op (.ld1 r1))),
 q 0 (.g .h0 .hd true d15 (.op (.mv r4))),
 q 0 (.g .h0 .hd true d16 (.op (.nilc r15))),
 q 0 (.g .h0 .hd true d17 (.op (.fad 1 r16))),
 q 0 (.g .h0 .hd true d18 (.op (.ld1 r17))),
 q 0 (.g .h0 .hd true d19 (.op (.lenm r18))),
 w (.g .h0 .hd true d20 (.call 168 [r14,r19])),
 q 0 (o d21 (.pick r13 r20 (.c (.bool false)))),
 q 0 (m d3 r21)]) .ret)))
def b181 : AC := c181_0
def s181 : List Rs := [.t .h0 .h3]
def c182_0 : AC := (.seq (.ops [m d5 r0,
 o d6 (.ldn 2 r1),
 .o d7 (.call 104 [r5,r6])])
 (.seq (.ops [m d8 r0,
 o d9 (.ld1 r2),
 .o d10 (.call 85 [r8,r9])])
 (.ops [m d11 r0,
 o d12 (.ld1 r3),
 .o d13 (.call 105 [r11,r12])])))
def b182 : AC := c182_0
def s182 : List Rs := []
def c183_1 : AC := (.seq (.cond r9 .skip
 (.exit 0))
 (.block 1 (.seq (.ops [o d10 (.ent r7),
 o d11 (.ext 0 r10),
 o d12 (.ext 1 r10),
 o d5 (.alloc 138 4 (.k1 (.mk (pi 0) (pi 0) (pi 0) (.str []) .undef .undef .undef .undef .undef .undef .undef .undef .undef .undef .undef .undef))),
 m d4 r11,
 o .no (.stn 4 r5 r12)])
 (.seq (.ops [m d13 r1,
 m d14 r4,
 o d15 (.ldn 4 r5),
 .o d16 (.calld r13 [r14,r15])])
 (.cond r16 (.ops [m d17 r0,
 m d18 r4,
 o .no (.del (.one .i) r17 r18)])
 .skip)))))
def c183_0 : AC := (.seq (.ops [m d6 r0,
 o d7 (.rngm r6)])
 (.join (.block 0 (.loop (.seq (.ops [.o d8 (.nxt false r7),
 o d9 (.ext 0 r8)]) c183_1)))))
def b183 : AC := c183_0
def s183 : List Rs := []
def c184_0 : AC := (.seq (.ops [o d4 (.box 138 r1),
 m d5 (.c (.bool false))])
 (.seq (.ops [m d6 r0,
 o d7 (.ld1 r2),
 o d8 (.bin .lt r6 r7),
 m d5 r8])
 .ret))
def b184 : AC := c184_0
def s184 : List Rs := [.t .h0 .h5]
def c185_1 : AC := (.seq (.cond r9 .skip
 (.exit 0))
 (.block 1 (.seq (.ops [o d10 (.ent r7),
 o d11 (.ext 0 r10),
 o d12 (.ext 1 r10),
 m d4 r11,
 m d5 r12])
 (.seq (.ops [m d13 r1,
 m d14 r4,
 m d15 r5,
 .o d16 (.calld r13 [r14,r15])])
 (.cond r16 (.ops [m d17 r0,
 m d18 r4,
 o .no (.del (.one .i) r17 r18)])
 .skip)))))
def c185_0 : AC := (.seq (.ops [m d6 r0,
 o d7 (.rngm r6)])
 (.join (.block 0 (.loop (.seq (.ops [.o d8 (.nxt false r7),
 o d9 (.ext 0 r8)]) c185_1)))))
def b185 : AC := c185_0
def s185 : List Rs := []
def c186_0 : AC := (.seq (.ops [m d5 (.c (.bool false))])
 (.seq (.ops [m d6 r0,
 o d7 (.ld1 r2),
 o d8 (.bin .lt r6 r7),
 m d5 r8])
 .ret))
def b186 : AC := c186_0
def s186 : List Rs := [.t .h0 .h5]
def c187_4 : AC := (.seq (.ops [o d18 (.bin .lt r17 (.c (pi 8)))])
 (.seq (.cond r18 .skip
 (.exit 2))
 (.seq (.block 3 (.seq (.ops [m d19 r3,
 o d20 (.bin .and r19 (.c (.int .u32 (.ofNat 1)))),
 m d6 r20])
 (.seq (.ops [m d21 r3,
 o d22 (.bin .shr r21 (.c (.int .u64 (.ofNat 1)))),
 m d3 r22])
 (.seq (.ops [m d23 r6,
 o d24 (.bin .eq r23 (.c (.int .u32 (.ofNat 1))))])
 (.cond r24 (.ops [m d25 r3,
 o d26 (.bin .xor r25 (.c (.int .u32 (.ofNat 3988292384)))),
 m d3 r26])
 .skip)))))
 (.ops [o d27 (.bin .add r17 (.c (pi 1))),
 m d17 r27]))))
def c187_3 : AC := (.seq (.ops [o d11 (.ixs 1 r7 r9),
 o d12 (.ld1 r11),
 m d5 r12])
 (.seq (.ops [m d13 r3,
 m d14 r5,
 o d15 (.conv (.toInt .u32) r14),
 o d16 (.bin .xor r13 r15),
 m d3 r16])
 (.seq (.ops [m d17 (.c (pi 0))])
 (.block 2 (.loop c187_4)))))
def c187_5 : AC := (.ops [o d28 (.bin .add r9 (.c (pi 1))),
 m d9 r28])
def c187_2 : AC := (.seq (.ops [o d10 (.bin .lt r9 r8)])
 (.seq (.cond r10 .skip
 (.exit 0))
 (.seq (.block 1 c187_3) c187_5)))
def c187_1 : AC := (.seq (.ops [m d7 r0,
 o d8 (.len r7),
 m d9 (.c (pi 0))])
 (.block 0 (.loop c187_2)))
def c187_6 : AC := (.seq (.ops [m d29 r3,
 o d30 (.un .com r29),
 m d2 r30])
 .ret)
def c187_0 : AC := (.seq (.ops [m d2 (.c (.int .u32 (.ofNat 0)))])
 (.seq (.ops [m d3 (.c (.int .u32 (.ofNat 4294967295)))])
 (.seq c187_1 c187_6)))
def b187 : AC := c187_0
def s187 : List Rs := [.t .h0 .h2]
def c188_0 : AC := (.seq (.ops [m d2 (.c (pi 0))])
 (.seq (.ops [m d3 r0,
 .o d4 (.call 119 [r3,(.c (pi 2))]),
 o d5 (.conv (.toInt .i64) r4),
 m d2 r5])
 .ret))
def b188 : AC := c188_0
def s188 : List Rs := [.t .h0 .h2]
def c189_0 : AC := (.seq (.ops [m d6 r0,
 o d7 (.nilc r6),
 o d8 (.fad 2 r7),
 o d9 (.ld1 r8),
 o d10 (.bin .eq r9 (.c (pi 0)))])
 (.cond r10 (.ops [m d11 r0,
 m d12 r0,
 m d13 r1,
 m d14 r2,
 o d15 (.nilc r11),
 o d16 (.fad 2 r15),
 o .no (.st1 r16 r13),
 o d17 (.nilc r12),
 o d18 (.fad 3 r17),
 o .no (.st1 r18 r14)])
 .skip))
def b189 : AC := c189_0
def s189 : List Rs := []
def c190_0 : AC := (.seq (.ops [m d2 (.c .nils)])
 (.seq (.ops [m d3 r0,
 .o d4 (.call 201 [(.c .nils),r3]),
 m d2 r4])
 .ret))
def b190 : AC := c190_0
def s190 : List Rs := [.t .h0 .h2]
def c191_0 : AC := (.seq (.ops [m d5 r0,
 o d6 (.len r5),
 m d4 r6])
 (.ops [m d7 r0,
 m d8 r4,
 m d9 r4,
 o d10 (.conv (.toInt .u64) r9),
 .o d11 (.call 203 [r10]),
 m d12 r1,
 .o d13 (.call 202 [r7,(.c (pi 0)),r8,r11,r12])]))
def b191 : AC := c191_0
def s191 : List Rs := []
def c192_1 : AC := (.seq (.cond r7 .skip
 (.exit 0))
 (.block 1 (.seq (.ops [o d8 (.ent r5),
 o d9 (.ext 0 r8),
 o d3 (.alloc 125 3 (.k1 (.mk (pi 0) (pi 0) (pi 0) .undef .undef .undef .undef .undef .undef .undef .undef .undef .undef .undef .undef .undef))),
 o .no (.stn 3 r3 r9)])
 (.seq (.ops [m d10 r0,
 o d11 (.ldn 3 r3),
 .o d12 (.calld r10 [r11]),
 o d13 (.un .not r12)])
 (.cond r13 .ret
 .skip)))))
def c192_0 : AC := (.seq (.ops [o d4 (.ld1 r1),
 o d5 (.rngm r4)])
 (.join (.block 0 (.loop (.seq (.ops [.o d6 (.nxt false r5),
 o d7 (.ext 0 r6)]) c192_1)))))
def b192 : AC := c192_0
def s192 : List Rs := []
def c193_0 : AC := (.ops [m d4 r0,
 m d5 r1,
 o d6 (.conv (.toInt .u64) r5),
 .o d7 (.call 140 [r4,r6,(.c (pi 2))])])
def b193 : AC := c193_0
def s193 : List Rs := []
def c194_0 : AC := (.seq (.ops [m d2 (.c (pi 0))])
 (.seq (.seq (.ops [m d3 r0,
 o d4 (.nilc r3),
 o d5 (.fad 2 r4),
 o d6 (.ld1 r5),
 o d7 (.bin .ne r6 (.c (pi 0)))])
 (.cond r7 (.seq (.ops [m d2 (.c (pi 0))])
 .ret)
 .skip))
 (.seq (.drw [q 0 (m d8 r0),
 q 0 (o d9 (.nilc r8)),
 q 0 (o d10 (.fad 0 r9)),
 q 0 (o d11 (.ld1 r10)),
 q 0 (o d12 (.len r11)),
 q 0 (m d13 r0),
 q 0 (o d14 (.nilc r13)),
 q 0 (o d15 (.fad 1 r14)),
 q 0 (o d16 (.ld1 r15)),
 q 0 (o d17 (.bin .sub r12 r16)),
 q 0 (m d2 r17)])
 .ret)))
def b194 : AC := c194_0
def s194 : List Rs := [.t .h0 .h2]
def c195_2 : AC := (.seq (.ops [o d9 (.bin .lt r8 r7)])
 (.seq (.cond r9 .skip
 (.exit 0))
 (.seq (.block 1 (.seq (.ops [o d10 (.ixs 1 r6 r8),
 o d11 (.ld1 r10),
 m d5 r11])
 (.seq (.ops [m d12 r5,
 m d13 r3,
 o d14 (.bin .ne r12 r13)])
 (.cond r14 (.seq (.ops [m d15 r5,
 m d2 r15])
 .ret)
 .skip))))
 (.ops [o d16 (.bin .add r8 (.c (pi 1))),
 m d8 r16]))))
def c195_1 : AC := (.seq (.ops [m d6 r0,
 o d7 (.len r6),
 m d8 (.c (pi 0))])
 (.block 0 (.loop c195_2)))
def c195_3 : AC := (.seq (.ops [m d17 r3,
 m d2 r17])
 .ret)
def c195_0 : AC := (.seq (.ops [m d2 (.c (pi 0))])
 (.seq (.ops [m d3 (.c (pi 0))])
 (.seq c195_1 c195_3)))
def b195 : AC := c195_0
def s195 : List Rs := [.t .h0 .h2]
def c196_1 : AC := (.seq (.seq (.ops [m d14 r0,
 m d15 r1,
 o d16 (.bin .lt r14 r15)])
 (.cond r16 (.seq (.ops [m d4 (.c (ni 0))])
 .ret)
 .skip))
 (.seq (.seq (.ops [m d17 r0,
 m d18 r1,
 o d19 (.bin .gt r17 r18)])
 (.cond r19 (.seq (.ops [m d4 (.c (pi 1))])
 .ret)
 .skip))
 (.seq (.ops [m d4 (.c (pi 0))])
 .ret)))
def c196_0 : AC := (.seq (.ops [m d4 (.c (pi 0))])
 (.seq (.ops [m d7 r0,
 .o d8 (.call 204 [r7]),
 m d5 r8])
 (.seq (.ops [m d9 r1,
 .o d10 (.call 204 [r9]),
 m d6 r10])
 (.seq (.seq (.ops [m d11 r5])
 (.cond r11 (.seq (.seq (.ops [m d12 r6])
 (.cond r12 (.seq (.ops [m d4 (.c (pi 0))])
 .ret)
 .skip))
 (.seq (.ops [m d4 (.c (ni 0))])
 .ret))
 .skip))
 (.seq (.seq (.ops [m d13 r6])
 (.cond r13 (.seq (.ops [m d4 (.c (pi 1))])
 .ret)
 .skip))
 c196_1)))))
def b196 : AC := c196_0
def s196 : List Rs := [.t .h0 .h4]
def c197_2 : AC := (.seq (.ops [o d9 (.bin .lt r8 r7)])
 (.seq (.cond r9 .skip
 (.exit 0))
 (.seq (.block 1 (.seq (.ops [m d10 r8,
 m d5 r10])
 (.seq (.ops [m d11 r1,
 m d12 r0,
 m d13 r5,
 o d14 (.ixs 1 r12 r13),
 o d15 (.ld1 r14),
 .o d16 (.calld r11 [r15])])
 (.cond r16 (.seq (.ops [m d17 r5,
 m d4 r17])
 .ret)
 .skip))))
 (.ops [o d18 (.bin .add r8 (.c (pi 1))),
 m d8 r18]))))
def c197_1 : AC := (.seq (.ops [m d6 r0,
 o d7 (.len r6),
 m d8 (.c (pi 0))])
 (.block 0 (.loop c197_2)))
def c197_3 : AC := (.seq (.ops [m d4 (.c (ni 0))])
 .ret)
def c197_0 : AC := (.seq (.ops [m d4 (.c (pi 0))])
 (.seq c197_1 c197_3))
def b197 : AC := c197_0
def s197 : List Rs := [.t .h0 .h4]
def c198_0 : AC := (.seq (.ops [m d2 (.c .nils)])
 (.seq (.ops [m d3 r0,
 .o d4 (.call 205 [(.c .nils),r3]),
 m d2 r4])
 .ret))
def b198 : AC := c198_0
def s198 : List Rs := [.t .h0 .h2]
def c199_0 : AC := (.seq (.ops [m d3 r0,
 o d4 (.len r3),
 m d2 r4])
 (.ops [m d5 r0,
 m d6 r2,
 m d7 r2,
 o d8 (.conv (.toInt .u64) r7),
 .o d9 (.call 203 [r8]),
 .o d10 (.call 206 [r5,(.c (pi 0)),r6,r9])]))
def b199 : AC := c199_0
def s199 : List Rs := []
def c200_1 : AC := (.seq (.cond r7 .skip
 (.exit 0))
 (.block 1 (.seq (.ops [o d8 (.ent r5),
 o d9 (.ext 0 r8),
 m d3 r9])
 (.seq (.ops [m d10 r0,
 m d11 r3,
 .o d12 (.calld r10 [r11]),
 o d13 (.un .not r12)])
 (.cond r13 .ret
 .skip)))))
def c200_0 : AC := (.seq (.ops [o d4 (.ld1 r1),
 o d5 (.rngm r4)])
 (.join (.block 0 (.loop (.seq (.ops [.o d6 (.nxt false r5),
 o d7 (.ext 0 r6)]) c200_1)))))
def b200 : AC := c200_0
def s200 : List Rs := []
def c201_1 : AC := (.seq (.ops [m d6 r1])
 (.block 0 (.bad 402)))
def c201_2 : AC := (.seq (.ops [o d12 (.ld1 r2),
 m d4 r12])
 .ret)
def c201_0 : AC := (.seq (.ops [o d2 (.box 202 r0),
 m d4 (.c .nils)])
 (.seq c201_1 c201_2))
def b201 : AC := c201_0
def s201 : List Rs := [.t .h0 .h4]
def c202_5 : AC := (.cond r75 (.seq (.ops [m d76 r0,
 m d77 r1,
 m d78 r2,
 m d79 r4,
 .o d80 (.call 212 [r76,r77,r78,r79])])
 (.cond r80 .ret
 .skip))
 .skip)
def c202_6 : AC := (.cond r97 (.seq (.ops [m d98 r0,
 m d99 r1,
 m d100 r2,
 m d101 r13,
 m d102 r4,
 .o d103 (.call 213 [r98,r99,r100,r101,r102]),
 m d15 r103])
 (.seq (.ops [m d104 r15,
 m d1 r104])
 (.exit 1)))
 .skip)
def c202_9 : AC := (.cond r125 (.seq (.ops [m d126 r18,
 m d127 r20,
 o d128 (.bin .ge r126 r127),
 m d10 r128])
 (.seq (.ops [m d129 r0,
 m d130 r1,
 m d131 r16,
 m d132 r3,
 m d133 r4,
 .o d134 (.call 202 [r129,r130,r131,r132,r133])])
 (.ops [m d135 r16,
 o d136 (.bin .add r135 (.c (pi 1))),
 m d1 r136])))
 (.seq (.ops [m d137 r19,
 m d138 r20,
 o d139 (.bin .ge r137 r138),
 m d10 r139])
 (.seq (.ops [m d140 r0,
 m d141 r16,
 o d142 (.bin .add r141 (.c (pi 1))),
 m d143 r2,
 m d144 r3,
 m d145 r4,
 .o d146 (.call 202 [r140,r142,r143,r144,r145])])
 (.ops [m d147 r16,
 m d2 r147]))))
def c202_8 : AC := (.seq (.ops [m d123 r18,
 m d124 r19,
 o d125 (.bin .lt r123 r124)])
 c202_9)
def c202_7 : AC := (.seq (.ops [m d106 r0,
 m d107 r1,
 m d108 r2,
 m d109 r13,
 m d110 r4,
 .o d111 (.call 214 [r106,r107,r108,r109,r110]),
 m d105 r111,
 o d112 (.ext 0 r105),
 o d113 (.ext 1 r105),
 m d16 r112,
 m d17 r113])
 (.seq (.ops [m d114 r17,
 m d11 r114])
 (.seq (.ops [m d115 r16,
 m d116 r1,
 o d117 (.bin .sub r115 r116),
 m d118 r2,
 m d119 r16,
 o d120 (.bin .sub r118 r119),
 m d18 r117,
 m d19 r120])
 (.seq (.ops [m d121 r12,
 o d122 (.bin .quo r121 (.c (pi 8))),
 m d20 r122])
 c202_8))))
def c202_4 : AC := (.seq (.seq (.ops [m d55 r14,
 o d56 (.bin .eq r55 (.c (pi 2)))])
 (.cond r56 (.seq (.ops [m d57 r0,
 m d58 r1,
 m d59 r2,
 m d60 r4,
 .o d61 (.call 211 [r57,r58,r59,r60])])
 (.seq (.ops [m d62 r2,
 o d63 (.bin .sub r62 (.c (pi 1))),
 m d64 r13,
 m d65 r1,
 o d66 (.bin .sub r64 r65),
 o d67 (.bin .sub r63 r66),
 m d13 r67])
 (.ops [m d14 (.c (pi 1))])))
 .skip))
 (.seq (.seq (.ops [m d68 r10,
 m d69 r68,
 .g .h4 .h5 true d70 (.op (.mv r11)),
 o d71 (.pick r69 r70 (.c (.bool false))),
 m d72 r71,
 .g .h4 .h8 true d73 (.op (.mv r14)),
 .g .h4 .h8 true d74 (.op (.bin .eq r73 (.c (pi 1)))),
 o d75 (.pick r72 r74 (.c (.bool false)))]) c202_5) (.seq (.seq (.drw [q 0 (m d81 r1),
 q 0 (o d82 (.bin .gt r81 (.c (pi 0)))),
 q 0 (m d83 r82),
 q 0 (.g .h5 .h3 true d84 (.op (.mv r4))),
 q 0 (.g .h5 .h3 true d85 (.op (.mv r0))),
 q 0 (.g .h5 .h3 true d86 (.op (.mv r1))),
 q 0 (.g .h5 .h3 true d87 (.op (.bin .sub r86 (.c (pi 1))))),
 q 0 (.g .h5 .h3 true d88 (.op (.ixs 3 r85 r87))),
 q 0 (.g .h5 .h3 true d89 (.op (.ldn 3 r88))),
 q 0 (.g .h5 .h3 true d90 (.op (.mv r0))),
 q 0 (.g .h5 .h3 true d91 (.op (.mv r13))),
 q 0 (.g .h5 .h3 true d92 (.op (.ixs 3 r90 r91))),
 q 0 (.g .h5 .h3 true d93 (.op (.ldn 3 r92))),
 w (.g .h5 .h3 true d94 (.calld r84 [r89,r93])),
 q 0 (.g .h5 .h3 true d95 (.op (.bin .lt r94 (.c (pi 0))))),
 q 0 (.g .h5 .h3 true d96 (.op (.un .not r95))),
 q 0 (o d97 (.pick r83 r96 (.c (.bool false))))]) c202_6) c202_7)))
def c202_3 : AC := (.seq (.ops [m d48 r0,
 m d49 r1,
 m d50 r2,
 m d51 r4,
 .o d52 (.call 210 [r48,r49,r50,r51]),
 m d47 r52,
 o d53 (.ext 0 r47),
 o d54 (.ext 1 r47),
 m d13 r53,
 m d14 r54])
 c202_4)
def c202_2 : AC := (.seq (.seq (.ops [m d38 r10,
 o d39 (.un .not r38)])
 (.cond r39 (.seq (.ops [m d40 r0,
 m d41 r1,
 m d42 r2,
 m d43 r4,
 .o d44 (.call 209 [r40,r41,r42,r43])])
 (.ops [m d45 r3,
 o d46 (.bin .sub r45 (.c (pi 1))),
 m d3 r46]))
 .skip))
 c202_3)
def c202_1 : AC := (.seq (.ops [m d21 r2,
 m d22 r1,
 o d23 (.bin .sub r21 r22),
 m d12 r23])
 (.seq (.seq (.ops [m d24 r12,
 o d25 (.bin .le r24 (.c (pi 12)))])
 (.cond r25 (.seq (.ops [m d26 r0,
 m d27 r1,
 m d28 r2,
 m d29 r4,
 .o d30 (.call 207 [r26,r27,r28,r29])])
 .ret)
 .skip))
 (.seq (.seq (.ops [m d31 r3,
 o d32 (.bin .eq r31 (.c (pi 0)))])
 (.cond r32 (.seq (.ops [m d33 r0,
 m d34 r1,
 m d35 r2,
 m d36 r4,
 .o d37 (.call 208 [r33,r34,r35,r36])])
 .ret)
 .skip))
 c202_2)))
def c202_0 : AC := (.seq (.ops [m d10 (.c (.bool true))])
 (.seq (.ops [m d11 (.c (.bool true))])
 (.block 0 (.loop (.block 1 c202_1)))))
def b202 : AC := c202_0
def s202 : List Rs := []
def c203_0 : AC := (.seq (.ops [m d2 (.c (pi 0))])
 (.seq (.cond (.c (.bool false)) (.seq (.ops [m d3 r0,
 o d4 (.conv (.toInt .u32) r3),
 .o d5 (.call 215 [r4]),
 m d2 r5])
 .ret)
 .skip)
 (.seq (.ops [m d6 r0,
 .o d7 (.call 216 [r6]),
 m d2 r7])
 .ret)))
def b203 : AC := c203_0
def s203 : List Rs := [.t .h0 .h2]
def c204_0 : AC := (.seq (.ops [m d2 (.c (.bool false))])
 (.seq (.ops [m d3 r0,
 m d4 r0,
 o d5 (.bin .ne r3 r4),
 m d2 r5])
 .ret))
def b204 : AC := c204_0
def s204 : List Rs := [.t .h0 .h2]
def c205_1 : AC := (.seq (.ops [m d6 r1])
 (.block 0 (.bad 402)))
def c205_2 : AC := (.seq (.ops [o d12 (.ld1 r2),
 m d4 r12])
 .ret)
def c205_0 : AC := (.seq (.ops [o d2 (.box 34 r0),
 m d4 (.c .nils)])
 (.seq c205_1 c205_2))
def b205 : AC := c205_0
def s205 : List Rs := [.t .h0 .h4]
def c206_4 : AC := (.cond r68 (.seq (.ops [m d69 r0,
 m d70 r1,
 m d71 r2,
 .o d72 (.call 222 [r69,r70,r71])])
 (.cond r72 .ret
 .skip))
 .skip)
def c206_5 : AC := (.cond r87 (.seq (.ops [m d88 r0,
 m d89 r1,
 m d90 r2,
 m d91 r11,
 .o d92 (.call 224 [r88,r89,r90,r91]),
 m d13 r92])
 (.seq (.ops [m d93 r13,
 m d1 r93])
 (.exit 1)))
 .skip)
def c206_8 : AC := (.cond r113 (.seq (.ops [m d114 r16,
 m d115 r18,
 o d116 (.bin .ge r114 r115),
 m d8 r116])
 (.seq (.ops [m d117 r0,
 m d118 r1,
 m d119 r14,
 m d120 r3,
 .o d121 (.call 206 [r117,r118,r119,r120])])
 (.ops [m d122 r14,
 o d123 (.bin .add r122 (.c (pi 1))),
 m d1 r123])))
 (.seq (.ops [m d124 r17,
 m d125 r18,
 o d126 (.bin .ge r124 r125),
 m d8 r126])
 (.seq (.ops [m d127 r0,
 m d128 r14,
 o d129 (.bin .add r128 (.c (pi 1))),
 m d130 r2,
 m d131 r3,
 .o d132 (.call 206 [r127,r129,r130,r131])])
 (.ops [m d133 r14,
 m d2 r133]))))
def c206_7 : AC := (.seq (.ops [m d111 r16,
 m d112 r17,
 o d113 (.bin .lt r111 r112)])
 c206_8)
def c206_6 : AC := (.seq (.ops [m d95 r0,
 m d96 r1,
 m d97 r2,
 m d98 r11,
 .o d99 (.call 225 [r95,r96,r97,r98]),
 m d94 r99,
 o d100 (.ext 0 r94),
 o d101 (.ext 1 r94),
 m d14 r100,
 m d15 r101])
 (.seq (.ops [m d102 r15,
 m d9 r102])
 (.seq (.ops [m d103 r14,
 m d104 r1,
 o d105 (.bin .sub r103 r104),
 m d106 r2,
 m d107 r14,
 o d108 (.bin .sub r106 r107),
 m d16 r105,
 m d17 r108])
 (.seq (.ops [m d109 r10,
 o d110 (.bin .quo r109 (.c (pi 8))),
 m d18 r110])
 c206_7))))
def c206_3 : AC := (.seq (.ops [m d43 r0,
 m d44 r1,
 m d45 r2,
 .o d46 (.call 220 [r43,r44,r45]),
 m d42 r46,
 o d47 (.ext 0 r42),
 o d48 (.ext 1 r42),
 m d11 r47,
 m d12 r48])
 (.seq (.seq (.ops [m d49 r12,
 o d50 (.bin .eq r49 (.c (pi 2)))])
 (.cond r50 (.seq (.ops [m d51 r0,
 m d52 r1,
 m d53 r2,
 .o d54 (.call 221 [r51,r52,r53])])
 (.seq (.ops [m d55 r2,
 o d56 (.bin .sub r55 (.c (pi 1))),
 m d57 r11,
 m d58 r1,
 o d59 (.bin .sub r57 r58),
 o d60 (.bin .sub r56 r59),
 m d11 r60])
 (.ops [m d12 (.c (pi 1))])))
 .skip))
 (.seq (.seq (.ops [m d61 r8,
 m d62 r61,
 .g .h3 .he true d63 (.op (.mv r9)),
 o d64 (.pick r62 r63 (.c (.bool false))),
 m d65 r64,
 .g .h4 .h1 true d66 (.op (.mv r12)),
 .g .h4 .h1 true d67 (.op (.bin .eq r66 (.c (pi 1)))),
 o d68 (.pick r65 r67 (.c (.bool false)))]) c206_4) (.seq (.seq (.drw [q 0 (m d73 r1),
 q 0 (o d74 (.bin .gt r73 (.c (pi 0)))),
 q 0 (m d75 r74),
 q 0 (.g .h4 .hb true d76 (.op (.mv r0))),
 q 0 (.g .h4 .hb true d77 (.op (.mv r1))),
 q 0 (.g .h4 .hb true d78 (.op (.bin .sub r77 (.c (pi 1))))),
 q 0 (.g .h4 .hb true d79 (.op (.ixs 1 r76 r78))),
 q 0 (.g .h4 .hb true d80 (.op (.ld1 r79))),
 q 0 (.g .h4 .hb true d81 (.op (.mv r0))),
 q 0 (.g .h4 .hb true d82 (.op (.mv r11))),
 q 0 (.g .h4 .hb true d83 (.op (.ixs 1 r81 r82))),
 q 0 (.g .h4 .hb true d84 (.op (.ld1 r83))),
 w (.g .h4 .hb true d85 (.call 223 [r80,r84])),
 q 0 (.g .h4 .hb true d86 (.op (.un .not r85))),
 q 0 (o d87 (.pick r75 r86 (.c (.bool false))))]) c206_5) c206_6))))
def c206_2 : AC := (.seq (.seq (.ops [m d34 r8,
 o d35 (.un .not r34)])
 (.cond r35 (.seq (.ops [m d36 r0,
 m d37 r1,
 m d38 r2,
 .o d39 (.call 219 [r36,r37,r38])])
 (.ops [m d40 r3,
 o d41 (.bin .sub r40 (.c (pi 1))),
 m d3 r41]))
 .skip))
 c206_3)
def c206_1 : AC := (.seq (.ops [m d19 r2,
 m d20 r1,
 o d21 (.bin .sub r19 r20),
 m d10 r21])
 (.seq (.seq (.ops [m d22 r10,
 o d23 (.bin .le r22 (.c (pi 12)))])
 (.cond r23 (.seq (.ops [m d24 r0,
 m d25 r1,
 m d26 r2,
 .o d27 (.call 217 [r24,r25,r26])])
 .ret)
 .skip))
 (.seq (.seq (.ops [m d28 r3,
 o d29 (.bin .eq r28 (.c (pi 0)))])
 (.cond r29 (.seq (.ops [m d30 r0,
 m d31 r1,
 m d32 r2,
 .o d33 (.call 218 [r30,r31,r32])])
 .ret)
 .skip))
 c206_2)))
def c206_0 : AC := (.seq (.ops [m d8 (.c (.bool true))])
 (.seq (.ops [m d9 (.c (.bool true))])
 (.block 0 (.loop (.block 1 c206_1)))))
def b206 : AC := c206_0
def s206 : List Rs := []
def c207_3 : AC := (.cond r34 .skip
 (.exit 2))
def c207_4 : AC := (.ops [m d35 r9,
 o d36 (.bin .sub r35 (.c (pi 1))),
 m d9 r36])
def c207_2 : AC := (.seq (.ops [m d17 r8,
 m d9 r17])
 (.block 2 (.loop (.seq (.seq (.drw [q 0 (m d18 r9),
 q 0 (m d19 r1),
 q 0 (o d20 (.bin .gt r18 r19)),
 q 0 (m d21 r20),
 q 0 (.g .h1 .h5 true d22 (.op (.mv r3))),
 q 0 (.g .h1 .h5 true d23 (.op (.mv r0))),
 q 0 (.g .h1 .h5 true d24 (.op (.mv r9))),
 q 0 (.g .h1 .h5 true d25 (.op (.ixs 3 r23 r24))),
 q 0 (.g .h1 .h5 true d26 (.op (.ldn 3 r25))),
 q 0 (.g .h1 .h5 true d27 (.op (.mv r0))),
 q 0 (.g .h1 .h5 true d28 (.op (.mv r9))),
 q 0 (.g .h1 .h5 true d29 (.op (.bin .sub r28 (.c (pi 1))))),
 q 0 (.g .h1 .h5 true d30 (.op (.ixs 3 r27 r29))),
 q 0 (.g .h1 .h5 true d31 (.op (.ldn 3 r30))),
 w (.g .h1 .h5 true d32 (.calld r22 [r26,r31])),
 q 0 (.g .h1 .h5 true d33 (.op (.bin .lt r32 (.c (pi 0))))),
 q 0 (o d34 (.pick r21 r33 (.c (.bool false))))]) c207_3) (.seq (.block 3 (.drw [q 0 (m d37 r0),
 q 0 (m d38 r9),
 q 0 (m d42 r0),
 q 0 (m d43 r9),
 q 0 (o d44 (.bin .sub r43 (.c (pi 1)))),
 q 0 (o d45 (.ixs 3 r42 r44)),
 q 0 (o d46 (.ldn 3 r45)),
 q 0 (m d47 r0),
 q 0 (m d48 r9),
 q 0 (o d49 (.ixs 3 r47 r48)),
 q 0 (o d50 (.ldn 3 r49)),
 q 0 (o d51 (.ixs 3 r37 r38)),
 w (o .no (.stn 3 r51 r46)),
 q 1 (m d39 r0),
 q 1 (m d40 r9),
 q 1 (o d41 (.bin .sub r40 (.c (pi 1)))),
 q 0 (o d52 (.ixs 3 r39 r41)),
 w (o .no (.stn 3 r52 r50))])) c207_4)))))
def c207_5 : AC := (.ops [m d15 r8,
 o d16 (.bin .add r15 (.c (pi 1))),
 m d8 r16])
def c207_1 : AC := (.seq (.seq (.ops [m d12 r8,
 m d13 r2,
 o d14 (.bin .lt r12 r13)])
 (.cond r14 .skip
 (.exit 0)))
 (.seq (.block 1 c207_2) c207_5))
def c207_0 : AC := (.seq (.ops [m d10 r1,
 o d11 (.bin .add r10 (.c (pi 1))),
 m d8 r11])
 (.block 0 (.loop c207_1)))
def b207 : AC := c207_0
def s207 : List Rs := []
def c208_2 : AC := (.seq (.seq (.ops [m d20 r11,
 o d21 (.bin .ge r20 (.c (pi 0)))])
 (.cond r21 .skip
 (.exit 0)))
 (.seq (.block 1 (.ops [m d24 r0,
 m d25 r11,
 m d26 r10,
 m d27 r8,
 m d28 r3,
 .o d29 (.call 226 [r24,r25,r26,r27,r28])]))
 (.ops [m d22 r11,
 o d23 (.bin .sub r22 (.c (pi 1))),
 m d11 r23])))
def c208_1 : AC := (.seq (.ops [m d17 r10,
 o d18 (.bin .sub r17 (.c (pi 1))),
 o d19 (.bin .quo r18 (.c (pi 2))),
 m d11 r19])
 (.block 0 (.loop c208_2)))
def c208_5 : AC := (.ops [m d54 r0,
 m d55 r9,
 m d56 r12,
 m d57 r8,
 m d58 r3,
 .o d59 (.call 226 [r54,r55,r56,r57,r58])])
def c208_6 : AC := (.ops [m d34 r12,
 o d35 (.bin .sub r34 (.c (pi 1))),
 m d12 r35])
def c208_4 : AC := (.seq (.seq (.ops [m d32 r12,
 o d33 (.bin .ge r32 (.c (pi 0)))])
 (.cond r33 .skip
 (.exit 2)))
 (.seq (.block 3 (.seq (.drw [q 0 (m d36 r0),
 q 0 (m d37 r8),
 q 0 (m d42 r0),
 q 0 (m d43 r8),
 q 0 (m d44 r12),
 q 0 (o d45 (.bin .add r43 r44)),
 q 0 (o d46 (.ixs 3 r42 r45)),
 q 0 (o d47 (.ldn 3 r46)),
 q 0 (m d48 r0),
 q 0 (m d49 r8),
 q 0 (o d50 (.ixs 3 r48 r49)),
 q 0 (o d51 (.ldn 3 r50)),
 q 0 (o d52 (.ixs 3 r36 r37)),
 w (o .no (.stn 3 r52 r47)),
 q 1 (m d38 r0),
 q 1 (m d39 r8),
 q 1 (m d40 r12),
 q 1 (o d41 (.bin .add r39 r40)),
 q 0 (o d53 (.ixs 3 r38 r41)),
 w (o .no (.stn 3 r53 r51))]) c208_5)) c208_6))
def c208_3 : AC := (.seq (.ops [m d30 r10,
 o d31 (.bin .sub r30 (.c (pi 1))),
 m d12 r31])
 (.block 2 (.loop c208_4)))
def c208_0 : AC := (.seq (.ops [m d13 r1,
 m d8 r13])
 (.seq (.ops [m d9 (.c (pi 0))])
 (.seq (.ops [m d14 r2,
 m d15 r1,
 o d16 (.bin .sub r14 r15),
 m d10 r16])
 (.seq c208_1 c208_3))))
def b208 : AC := c208_0
def s208 : List Rs := []
def c209_3 : AC := (.seq (.ops [.o d38 (.call 228 [r9]),
 m d39 r10,
 o d40 (.bin .sub r39 (.c (.int .u64 (.ofNat 1)))),
 o d41 (.bin .and r38 r40),
 o d42 (.conv (.toInt .i64) r41),
 m d12 r42])
 (.seq (.seq (.ops [m d43 r12,
 m d44 r8,
 o d45 (.bin .ge r43 r44)])
 (.cond r45 (.ops [m d46 r12,
 m d47 r8,
 o d48 (.bin .sub r46 r47),
 m d12 r48])
 .skip))
 (.drw [q 0 (m d49 r0),
 q 0 (m d50 r11),
 q 0 (m d55 r0),
 q 0 (m d56 r1),
 q 0 (m d57 r12),
 q 0 (o d58 (.bin .add r56 r57)),
 q 0 (o d59 (.ixs 3 r55 r58)),
 q 0 (o d60 (.ldn 3 r59)),
 q 0 (m d61 r0),
 q 0 (m d62 r11),
 q 0 (o d63 (.ixs 3 r61 r62)),
 q 0 (o d64 (.ldn 3 r63)),
 q 0 (o d65 (.ixs 3 r49 r50)),
 w (o .no (.stn 3 r65 r60)),
 q 1 (m d51 r0),
 q 1 (m d52 r1),
 q 1 (m d53 r12),
 q 1 (o d54 (.bin .add r52 r53)),
 q 0 (o d66 (.ixs 3 r51 r54)),
 w (o .no (.stn 3 r66 r64))])))
def c209_4 : AC := (.ops [m d36 r11,
 o d37 (.bin .add r36 (.c (pi 1))),
 m d11 r37])
def c209_2 : AC := (.seq (.seq (.ops [m d28 r11,
 m d29 r1,
 m d30 r8,
 o d31 (.bin .quo r30 (.c (pi 4))),
 o d32 (.bin .mul r31 (.c (pi 2))),
 o d33 (.bin .add r29 r32),
 o d34 (.bin .add r33 (.c (pi 1))),
 o d35 (.bin .le r28 r34)])
 (.cond r35 .skip
 (.exit 0)))
 (.seq (.block 1 c209_3) c209_4))
def c209_1 : AC := (.seq (.ops [m d18 r8,
 o d19 (.conv (.toInt .u64) r18),
 o d9 (.alloc 265 1 (.k1 (.mk (.int .u64 (.ofNat 0)) .undef .undef .undef .undef .undef .undef .undef .undef .undef .undef .undef .undef .undef .undef .undef))),
 o .no (.st1 r9 r19)])
 (.seq (.ops [m d20 r8,
 .o d21 (.call 227 [r20]),
 m d10 r21])
 (.seq (.ops [m d22 r1,
 m d23 r8,
 o d24 (.bin .quo r23 (.c (pi 4))),
 o d25 (.bin .mul r24 (.c (pi 2))),
 o d26 (.bin .add r22 r25),
 o d27 (.bin .sub r26 (.c (pi 1))),
 m d11 r27])
 (.block 0 (.loop c209_2)))))
def c209_0 : AC := (.seq (.ops [m d13 r2,
 m d14 r1,
 o d15 (.bin .sub r13 r14),
 m d8 r15])
 (.seq (.ops [m d16 r8,
 o d17 (.bin .ge r16 (.c (pi 8)))])
 (.cond r17 c209_1 .skip)))
def b209 : AC := c209_0
def s209 : List Rs := []
def c210_3 : AC := (.seq (.ops [o d55 (.ld1 r11)])
 (.block 0 (.seq (.ops [o d58 (.bin .eq r55 (.c (pi 0))),
 m d57 r58])
 (.cond r57 (.seq (.ops [m d59 r13,
 m d8 r59,
 m d9 (.c (pi 1))])
 .ret)
 (.seq (.ops [o d61 (.bin .eq r55 (.c (pi 12))),
 m d60 r61])
 (.cond r60 (.seq (.ops [m d62 r13,
 m d8 r62,
 m d9 (.c (pi 2))])
 .ret)
 (.seq (.ops [m d56 r13,
 m d8 r56,
 m d9 (.c (pi 0))])
 .ret)))))))
def c210_2 : AC := (.seq (.seq (.ops [m d33 r10,
 o d34 (.bin .ge r33 (.c (pi 8)))])
 (.cond r34 (.seq (.seq (.ops [m d35 r10,
 o d36 (.bin .ge r35 (.c (pi 50)))])
 (.cond r36 (.seq (.ops [m d37 r0,
 m d38 r12,
 m d39 r3,
 .o d40 (.call 229 [r37,r38,r11,r39]),
 m d12 r40])
 (.seq (.ops [m d41 r0,
 m d42 r13,
 m d43 r3,
 .o d44 (.call 229 [r41,r42,r11,r43]),
 m d13 r44])
 (.ops [m d45 r0,
 m d46 r14,
 m d47 r3,
 .o d48 (.call 229 [r45,r46,r11,r47]),
 m d14 r48])))
 .skip))
 (.ops [m d49 r0,
 m d50 r12,
 m d51 r13,
 m d52 r14,
 m d53 r3,
 .o d54 (.call 230 [r49,r50,r51,r52,r11,r53]),
 m d13 r54]))
 .skip))
 c210_3)
def c210_1 : AC := (.seq (.ops [m d28 r1,
 m d29 r10,
 o d30 (.bin .quo r29 (.c (pi 4))),
 o d31 (.bin .mul r30 (.c (pi 3))),
 o d32 (.bin .add r28 r31),
 m d14 r32])
 c210_2)
def c210_0 : AC := (.seq (.ops [m d8 (.c (pi 0)),
 m d9 (.c (pi 0))])
 (.seq (.ops [m d15 r2,
 m d16 r1,
 o d17 (.bin .sub r15 r16),
 m d10 r17])
 (.seq (.ops [o d11 (.alloc 3 1 (.k1 (.mk (pi 0) .undef .undef .undef .undef .undef .undef .undef .undef .undef .undef .undef .undef .undef .undef .undef)))])
 (.seq (.ops [m d18 r1,
 m d19 r10,
 o d20 (.bin .quo r19 (.c (pi 4))),
 o d21 (.bin .mul r20 (.c (pi 1))),
 o d22 (.bin .add r18 r21),
 m d12 r22])
 (.seq (.ops [m d23 r1,
 m d24 r10,
 o d25 (.bin .quo r24 (.c (pi 4))),
 o d26 (.bin .mul r25 (.c (pi 2))),
 o d27 (.bin .add r23 r26),
 m d13 r27])
 c210_1)))))
def b210 : AC := c210_0
def s210 : List Rs := [.t .h0 .h8,.t .h0 .h9]
def c211_2 : AC := (.seq (.ops [m d30 r8,
 o d31 (.bin .add r30 (.c (pi 1))),
 m d8 r31])
 (.ops [m d32 r9,
 o d33 (.bin .sub r32 (.c (pi 1))),
 m d9 r33]))
def c211_1 : AC := (.seq (.seq (.ops [m d13 r8,
 m d14 r9,
 o d15 (.bin .lt r13 r14)])
 (.cond r15 .skip
 (.exit 0)))
 (.block 1 (.seq (.drw [q 0 (m d16 r0),
 q 0 (m d17 r8),
 q 0 (m d20 r0),
 q 0 (m d21 r9),
 q 0 (o d22 (.ixs 3 r20 r21)),
 q 0 (o d23 (.ldn 3 r22)),
 q 0 (m d24 r0),
 q 0 (m d25 r8),
 q 0 (o d26 (.ixs 3 r24 r25)),
 q 0 (o d27 (.ldn 3 r26)),
 q 0 (o d28 (.ixs 3 r16 r17)),
 w (o .no (.stn 3 r28 r23)),
 q 1 (m d18 r0),
 q 1 (m d19 r9),
 q 0 (o d29 (.ixs 3 r18 r19)),
 w (o .no (.stn 3 r29 r27))]) c211_2)))
def c211_0 : AC := (.seq (.ops [m d10 r1,
 m d8 r10])
 (.seq (.ops [m d11 r2,
 o d12 (.bin .sub r11 (.c (pi 1))),
 m d9 r12])
 (.block 0 (.loop c211_1))))
def b211 : AC := c211_0
def s211 : List Rs := []
def c212_3 : AC := (.cond r36 .skip
 (.exit 2))
def c212_4 : AC := (.block 3 (.ops [m d37 r9,
 o d38 (.bin .add r37 (.c (pi 1))),
 m d9 r38]))
def c212_9 : AC := (.seq (.seq (.drw [q 0 (m d72 r3),
 q 0 (m d73 r0),
 q 0 (m d74 r11),
 q 0 (o d75 (.ixs 3 r73 r74)),
 q 0 (o d76 (.ldn 3 r75)),
 q 0 (m d77 r0),
 q 0 (m d78 r11),
 q 0 (o d79 (.bin .sub r78 (.c (pi 1)))),
 q 0 (o d80 (.ixs 3 r77 r79)),
 q 0 (o d81 (.ldn 3 r80)),
 w (.o d82 (.calld r72 [r76,r81])),
 q 0 (o d83 (.bin .lt r82 (.c (pi 0)))),
 q 0 (o d84 (.un .not r83))])
 (.cond r84 (.exit 4)
 .skip))
 (.drw [q 0 (m d85 r0),
 q 0 (m d86 r11),
 q 0 (m d90 r0),
 q 0 (m d91 r11),
 q 0 (o d92 (.bin .sub r91 (.c (pi 1)))),
 q 0 (o d93 (.ixs 3 r90 r92)),
 q 0 (o d94 (.ldn 3 r93)),
 q 0 (m d95 r0),
 q 0 (m d96 r11),
 q 0 (o d97 (.ixs 3 r95 r96)),
 q 0 (o d98 (.ldn 3 r97)),
 q 0 (o d99 (.ixs 3 r85 r86)),
 w (o .no (.stn 3 r99 r94)),
 q 1 (m d87 r0),
 q 1 (m d88 r11),
 q 1 (o d89 (.bin .sub r88 (.c (pi 1)))),
 q 0 (o d100 (.ixs 3 r87 r89)),
 w (o .no (.stn 3 r100 r98))]))
def c212_10 : AC := (.ops [m d70 r11,
 o d71 (.bin .sub r70 (.c (pi 1))),
 m d11 r71])
def c212_8 : AC := (.seq (.seq (.ops [m d68 r11,
 o d69 (.bin .ge r68 (.c (pi 1)))])
 (.cond r69 .skip
 (.exit 4)))
 (.seq (.block 5 c212_9) c212_10))
def c212_7 : AC := (.seq (.ops [m d66 r9,
 o d67 (.bin .sub r66 (.c (pi 1))),
 m d11 r67])
 (.block 4 (.loop c212_8)))
def c212_6 : AC := (.seq (.ops [m d62 r9,
 m d63 r1,
 o d64 (.bin .sub r62 r63),
 o d65 (.bin .ge r64 (.c (pi 2)))])
 (.cond r65 c212_7 .skip))
def c212_14 : AC := (.seq (.seq (.drw [q 0 (m d112 r3),
 q 0 (m d113 r0),
 q 0 (m d114 r12),
 q 0 (o d115 (.ixs 3 r113 r114)),
 q 0 (o d116 (.ldn 3 r115)),
 q 0 (m d117 r0),
 q 0 (m d118 r12),
 q 0 (o d119 (.bin .sub r118 (.c (pi 1)))),
 q 0 (o d120 (.ixs 3 r117 r119)),
 q 0 (o d121 (.ldn 3 r120)),
 w (.o d122 (.calld r112 [r116,r121])),
 q 0 (o d123 (.bin .lt r122 (.c (pi 0)))),
 q 0 (o d124 (.un .not r123))])
 (.cond r124 (.exit 6)
 .skip))
 (.drw [q 0 (m d125 r0),
 q 0 (m d126 r12),
 q 0 (m d130 r0),
 q 0 (m d131 r12),
 q 0 (o d132 (.bin .sub r131 (.c (pi 1)))),
 q 0 (o d133 (.ixs 3 r130 r132)),
 q 0 (o d134 (.ldn 3 r133)),
 q 0 (m d135 r0),
 q 0 (m d136 r12),
 q 0 (o d137 (.ixs 3 r135 r136)),
 q 0 (o d138 (.ldn 3 r137)),
 q 0 (o d139 (.ixs 3 r125 r126)),
 w (o .no (.stn 3 r139 r134)),
 q 1 (m d127 r0),
 q 1 (m d128 r12),
 q 1 (o d129 (.bin .sub r128 (.c (pi 1)))),
 q 0 (o d140 (.ixs 3 r127 r129)),
 w (o .no (.stn 3 r140 r138))]))
def c212_15 : AC := (.ops [m d110 r12,
 o d111 (.bin .add r110 (.c (pi 1))),
 m d12 r111])
def c212_13 : AC := (.seq (.seq (.ops [m d107 r12,
 m d108 r2,
 o d109 (.bin .lt r107 r108)])
 (.cond r109 .skip
 (.exit 6)))
 (.seq (.block 7 c212_14) c212_15))
def c212_12 : AC := (.seq (.ops [m d105 r9,
 o d106 (.bin .add r105 (.c (pi 1))),
 m d12 r106])
 (.block 6 (.loop c212_13)))
def c212_11 : AC := (.seq (.ops [m d101 r2,
 m d102 r9,
 o d103 (.bin .sub r101 r102),
 o d104 (.bin .ge r103 (.c (pi 2)))])
 (.cond r104 c212_12 .skip))
def c212_5 : AC := (.seq (.seq (.ops [m d39 r9,
 m d40 r2,
 o d41 (.bin .eq r39 r40)])
 (.cond r41 (.seq (.ops [m d8 (.c (.bool true))])
 .ret)
 .skip))
 (.seq (.seq (.ops [m d42 r2,
 m d43 r1,
 o d44 (.bin .sub r42 r43),
 o d45 (.bin .lt r44 (.c (pi 50)))])
 (.cond r45 (.seq (.ops [m d8 (.c (.bool false))])
 .ret)
 .skip))
 (.seq (.drw [q 0 (m d46 r0),
 q 0 (m d47 r9),
 q 0 (m d51 r0),
 q 0 (m d52 r9),
 q 0 (o d53 (.bin .sub r52 (.c (pi 1)))),
 q 0 (o d54 (.ixs 3 r51 r53)),
 q 0 (o d55 (.ldn 3 r54)),
 q 0 (m d56 r0),
 q 0 (m d57 r9),
 q 0 (o d58 (.ixs 3 r56 r57)),
 q 0 (o d59 (.ldn 3 r58)),
 q 0 (o d60 (.ixs 3 r46 r47)),
 w (o .no (.stn 3 r60 r55)),
 q 1 (m d48 r0),
 q 1 (m d49 r9),
 q 1 (o d50 (.bin .sub r49 (.c (pi 1)))),
 q 0 (o d61 (.ixs 3 r48 r50)),
 w (o .no (.stn 3 r61 r59))]) (.seq c212_6 c212_11))))
def c212_16 : AC := (.ops [m d17 r10,
 o d18 (.bin .add r17 (.c (pi 1))),
 m d10 r18])
def c212_2 : AC := (.seq (.seq (.ops [m d15 r10,
 o d16 (.bin .lt r15 (.c (pi 5)))])
 (.cond r16 .skip
 (.exit 0)))
 (.seq (.block 1 (.seq (.block 2 (.loop (.seq (.seq (.drw [q 0 (m d19 r9),
 q 0 (m d20 r2),
 q 0 (o d21 (.bin .lt r19 r20)),
 q 0 (m d22 r21),
 q 0 (.g .h1 .h6 true d23 (.op (.mv r3))),
 q 0 (.g .h1 .h6 true d24 (.op (.mv r0))),
 q 0 (.g .h1 .h6 true d25 (.op (.mv r9))),
 q 0 (.g .h1 .h6 true d26 (.op (.ixs 3 r24 r25))),
 q 0 (.g .h1 .h6 true d27 (.op (.ldn 3 r26))),
 q 0 (.g .h1 .h6 true d28 (.op (.mv r0))),
 q 0 (.g .h1 .h6 true d29 (.op (.mv r9))),
 q 0 (.g .h1 .h6 true d30 (.op (.bin .sub r29 (.c (pi 1))))),
 q 0 (.g .h1 .h6 true d31 (.op (.ixs 3 r28 r30))),
 q 0 (.g .h1 .h6 true d32 (.op (.ldn 3 r31))),
 w (.g .h1 .h6 true d33 (.calld r23 [r27,r32])),
 q 0 (.g .h1 .h6 true d34 (.op (.bin .lt r33 (.c (pi 0))))),
 q 0 (.g .h1 .h6 true d35 (.op (.un .not r34))),
 q 0 (o d36 (.pick r22 r35 (.c (.bool false))))]) c212_3) c212_4))) c212_5)) c212_16))
def c212_1 : AC := (.seq (.ops [m d10 (.c (pi 0))])
 (.block 0 (.loop c212_2)))
def c212_17 : AC := (.seq (.ops [m d8 (.c (.bool false))])
 .ret)
def c212_0 : AC := (.seq (.ops [m d8 (.c (.bool false))])
 (.seq (.ops [m d13 r1,
 o d14 (.bin .add r13 (.c (pi 1))),
 m d9 r14])
 (.seq c212_1 c212_17)))
def b212 : AC := c212_0
def s212 : List Rs := [.t .h0 .h8]
end
end Go.Am.Seat
