/- Code of the abstract machine, written by program. Nothing is asked. -/
import Derived.Test.YtammkfjhlofmaaaGreatCode0
set_option linter.all false
namespace Go.Am.Seat
set_option linter.unusedVariables false
set_option maxRecDepth 20000
noncomputable section
def c213_2 : AC := (.cond r47 .skip
 (.exit 2))
def c213_3 : AC := (.block 3 (.ops [m d48 r11,
 o d49 (.bin .add r48 (.c (pi 1))),
 m d11 r49]))
def c213_4 : AC := (.cond r65 .skip
 (.exit 4))
def c213_5 : AC := (.block 5 (.ops [m d66 r12,
 o d67 (.bin .sub r66 (.c (pi 1))),
 m d12 r67]))
def c213_7 : AC := (.seq (.ops [m d85 r11,
 o d86 (.bin .add r85 (.c (pi 1))),
 m d11 r86])
 (.ops [m d87 r12,
 o d88 (.bin .sub r87 (.c (pi 1))),
 m d12 r88]))
def c213_6 : AC := (.seq (.seq (.ops [m d68 r11,
 m d69 r12,
 o d70 (.bin .gt r68 r69)])
 (.cond r70 (.exit 0)
 .skip))
 (.seq (.drw [q 0 (m d71 r0),
 q 0 (m d72 r11),
 q 0 (m d75 r0),
 q 0 (m d76 r12),
 q 0 (o d77 (.ixs 3 r75 r76)),
 q 0 (o d78 (.ldn 3 r77)),
 q 0 (m d79 r0),
 q 0 (m d80 r11),
 q 0 (o d81 (.ixs 3 r79 r80)),
 q 0 (o d82 (.ldn 3 r81)),
 q 0 (o d83 (.ixs 3 r71 r72)),
 w (o .no (.stn 3 r83 r78)),
 q 1 (m d73 r0),
 q 1 (m d74 r12),
 q 0 (o d84 (.ixs 3 r73 r74)),
 w (o .no (.stn 3 r84 r82))]) c213_7))
def c213_8 : AC := (.seq (.ops [m d89 r11,
 m d10 r89])
 .ret)
def c213_1 : AC := (.seq (.ops [m d27 r1,
 o d28 (.bin .add r27 (.c (pi 1))),
 m d29 r2,
 o d30 (.bin .sub r29 (.c (pi 1))),
 m d11 r28,
 m d12 r30])
 (.seq (.block 0 (.loop (.block 1 (.seq (.block 2 (.loop (.seq (.seq (.drw [q 0 (m d31 r11),
 q 0 (m d32 r12),
 q 0 (o d33 (.bin .le r31 r32)),
 q 0 (m d34 r33),
 q 0 (.g .h2 .h2 true d35 (.op (.mv r4))),
 q 0 (.g .h2 .h2 true d36 (.op (.mv r0))),
 q 0 (.g .h2 .h2 true d37 (.op (.mv r1))),
 q 0 (.g .h2 .h2 true d38 (.op (.ixs 3 r36 r37))),
 q 0 (.g .h2 .h2 true d39 (.op (.ldn 3 r38))),
 q 0 (.g .h2 .h2 true d40 (.op (.mv r0))),
 q 0 (.g .h2 .h2 true d41 (.op (.mv r11))),
 q 0 (.g .h2 .h2 true d42 (.op (.ixs 3 r40 r41))),
 q 0 (.g .h2 .h2 true d43 (.op (.ldn 3 r42))),
 w (.g .h2 .h2 true d44 (.calld r35 [r39,r43])),
 q 0 (.g .h2 .h2 true d45 (.op (.bin .lt r44 (.c (pi 0))))),
 q 0 (.g .h2 .h2 true d46 (.op (.un .not r45))),
 q 0 (o d47 (.pick r34 r46 (.c (.bool false))))]) c213_2) c213_3))) (.seq (.block 4 (.loop (.seq (.seq (.drw [q 0 (m d50 r11),
 q 0 (m d51 r12),
 q 0 (o d52 (.bin .le r50 r51)),
 q 0 (m d53 r52),
 q 0 (.g .h3 .h5 true d54 (.op (.mv r4))),
 q 0 (.g .h3 .h5 true d55 (.op (.mv r0))),
 q 0 (.g .h3 .h5 true d56 (.op (.mv r1))),
 q 0 (.g .h3 .h5 true d57 (.op (.ixs 3 r55 r56))),
 q 0 (.g .h3 .h5 true d58 (.op (.ldn 3 r57))),
 q 0 (.g .h3 .h5 true d59 (.op (.mv r0))),
 q 0 (.g .h3 .h5 true d60 (.op (.mv r12))),
 q 0 (.g .h3 .h5 true d61 (.op (.ixs 3 r59 r60))),
 q 0 (.g .h3 .h5 true d62 (.op (.ldn 3 r61))),
 w (.g .h3 .h5 true d63 (.calld r54 [r58,r62])),
 q 0 (.g .h3 .h5 true d64 (.op (.bin .lt r63 (.c (pi 0))))),
 q 0 (o d65 (.pick r53 r64 (.c (.bool false))))]) c213_4) c213_5))) c213_6))))) c213_8))
def c213_0 : AC := (.seq (.ops [m d10 (.c (pi 0))])
 (.seq (.drw [q 0 (m d13 r0),
 q 0 (m d14 r1),
 q 0 (m d17 r0),
 q 0 (m d18 r3),
 q 0 (o d19 (.ixs 3 r17 r18)),
 q 0 (o d20 (.ldn 3 r19)),
 q 0 (m d21 r0),
 q 0 (m d22 r1),
 q 0 (o d23 (.ixs 3 r21 r22)),
 q 0 (o d24 (.ldn 3 r23)),
 q 0 (o d25 (.ixs 3 r13 r14)),
 w (o .no (.stn 3 r25 r20)),
 q 1 (m d15 r0),
 q 1 (m d16 r3),
 q 0 (o d26 (.ixs 3 r15 r16)),
 w (o .no (.stn 3 r26 r24))]) c213_1))
def b213 : AC := c213_0
def s213 : List Rs := [.t .h0 .ha]
def c214_2 : AC := (.cond r47 .skip
 (.exit 0))
def c214_3 : AC := (.block 1 (.ops [m d48 r12,
 o d49 (.bin .add r48 (.c (pi 1))),
 m d12 r49]))
def c214_4 : AC := (.cond r66 .skip
 (.exit 2))
def c214_5 : AC := (.block 3 (.ops [m d67 r13,
 o d68 (.bin .sub r67 (.c (pi 1))),
 m d13 r68]))
def c214_7 : AC := (.seq (.ops [m d86 r13,
 m d10 r86,
 m d11 (.c (.bool true))])
 .ret)
def c214_6 : AC := (.seq (.ops [m d69 r12,
 m d70 r13,
 o d71 (.bin .gt r69 r70)])
 (.cond r71 (.seq (.drw [q 0 (m d72 r0),
 q 0 (m d73 r13),
 q 0 (m d76 r0),
 q 0 (m d77 r1),
 q 0 (o d78 (.ixs 3 r76 r77)),
 q 0 (o d79 (.ldn 3 r78)),
 q 0 (m d80 r0),
 q 0 (m d81 r13),
 q 0 (o d82 (.ixs 3 r80 r81)),
 q 0 (o d83 (.ldn 3 r82)),
 q 0 (o d84 (.ixs 3 r72 r73)),
 w (o .no (.stn 3 r84 r79)),
 q 1 (m d74 r0),
 q 1 (m d75 r1),
 q 0 (o d85 (.ixs 3 r74 r75)),
 w (o .no (.stn 3 r85 r83))]) c214_7) .skip))
def c214_9 : AC := (.cond r120 .skip
 (.exit 6))
def c214_10 : AC := (.block 7 (.ops [m d121 r12,
 o d122 (.bin .add r121 (.c (pi 1))),
 m d12 r122]))
def c214_11 : AC := (.cond r139 .skip
 (.exit 8))
def c214_12 : AC := (.block 9 (.ops [m d140 r13,
 o d141 (.bin .sub r140 (.c (pi 1))),
 m d13 r141]))
def c214_14 : AC := (.seq (.ops [m d159 r12,
 o d160 (.bin .add r159 (.c (pi 1))),
 m d12 r160])
 (.ops [m d161 r13,
 o d162 (.bin .sub r161 (.c (pi 1))),
 m d13 r162]))
def c214_13 : AC := (.seq (.seq (.ops [m d142 r12,
 m d143 r13,
 o d144 (.bin .gt r142 r143)])
 (.cond r144 (.exit 4)
 .skip))
 (.seq (.drw [q 0 (m d145 r0),
 q 0 (m d146 r12),
 q 0 (m d149 r0),
 q 0 (m d150 r13),
 q 0 (o d151 (.ixs 3 r149 r150)),
 q 0 (o d152 (.ldn 3 r151)),
 q 0 (m d153 r0),
 q 0 (m d154 r12),
 q 0 (o d155 (.ixs 3 r153 r154)),
 q 0 (o d156 (.ldn 3 r155)),
 q 0 (o d157 (.ixs 3 r145 r146)),
 w (o .no (.stn 3 r157 r152)),
 q 1 (m d147 r0),
 q 1 (m d148 r13),
 q 0 (o d158 (.ixs 3 r147 r148)),
 w (o .no (.stn 3 r158 r156))]) c214_14))
def c214_15 : AC := (.seq (.ops [m d177 r13,
 m d10 r177,
 m d11 (.c (.bool false))])
 .ret)
def c214_8 : AC := (.seq (.ops [m d101 r12,
 o d102 (.bin .add r101 (.c (pi 1))),
 m d12 r102])
 (.seq (.ops [m d103 r13,
 o d104 (.bin .sub r103 (.c (pi 1))),
 m d13 r104])
 (.seq (.block 4 (.loop (.block 5 (.seq (.block 6 (.loop (.seq (.seq (.drw [q 0 (m d105 r12),
 q 0 (m d106 r13),
 q 0 (o d107 (.bin .le r105 r106)),
 q 0 (m d108 r107),
 q 0 (.g .h6 .hc true d109 (.op (.mv r4))),
 q 0 (.g .h6 .hc true d110 (.op (.mv r0))),
 q 0 (.g .h6 .hc true d111 (.op (.mv r12))),
 q 0 (.g .h6 .hc true d112 (.op (.ixs 3 r110 r111))),
 q 0 (.g .h6 .hc true d113 (.op (.ldn 3 r112))),
 q 0 (.g .h6 .hc true d114 (.op (.mv r0))),
 q 0 (.g .h6 .hc true d115 (.op (.mv r1))),
 q 0 (.g .h6 .hc true d116 (.op (.ixs 3 r114 r115))),
 q 0 (.g .h6 .hc true d117 (.op (.ldn 3 r116))),
 w (.g .h6 .hc true d118 (.calld r109 [r113,r117])),
 q 0 (.g .h6 .hc true d119 (.op (.bin .lt r118 (.c (pi 0))))),
 q 0 (o d120 (.pick r108 r119 (.c (.bool false))))]) c214_9) c214_10))) (.seq (.block 8 (.loop (.seq (.seq (.drw [q 0 (m d123 r12),
 q 0 (m d124 r13),
 q 0 (o d125 (.bin .le r123 r124)),
 q 0 (m d126 r125),
 q 0 (.g .h7 .he true d127 (.op (.mv r4))),
 q 0 (.g .h7 .he true d128 (.op (.mv r0))),
 q 0 (.g .h7 .he true d129 (.op (.mv r13))),
 q 0 (.g .h7 .he true d130 (.op (.ixs 3 r128 r129))),
 q 0 (.g .h7 .he true d131 (.op (.ldn 3 r130))),
 q 0 (.g .h7 .he true d132 (.op (.mv r0))),
 q 0 (.g .h7 .he true d133 (.op (.mv r1))),
 q 0 (.g .h7 .he true d134 (.op (.ixs 3 r132 r133))),
 q 0 (.g .h7 .he true d135 (.op (.ldn 3 r134))),
 w (.g .h7 .he true d136 (.calld r127 [r131,r135])),
 q 0 (.g .h7 .he true d137 (.op (.bin .lt r136 (.c (pi 0))))),
 q 0 (.g .h7 .he true d138 (.op (.un .not r137))),
 q 0 (o d139 (.pick r126 r138 (.c (.bool false))))]) c214_11) c214_12))) c214_13))))) (.seq (.drw [q 0 (m d163 r0),
 q 0 (m d164 r13),
 q 0 (m d167 r0),
 q 0 (m d168 r1),
 q 0 (o d169 (.ixs 3 r167 r168)),
 q 0 (o d170 (.ldn 3 r169)),
 q 0 (m d171 r0),
 q 0 (m d172 r13),
 q 0 (o d173 (.ixs 3 r171 r172)),
 q 0 (o d174 (.ldn 3 r173)),
 q 0 (o d175 (.ixs 3 r163 r164)),
 w (o .no (.stn 3 r175 r170)),
 q 1 (m d165 r0),
 q 1 (m d166 r1),
 q 0 (o d176 (.ixs 3 r165 r166)),
 w (o .no (.stn 3 r176 r174))]) c214_15))))
def c214_1 : AC := (.seq (.ops [m d28 r1,
 o d29 (.bin .add r28 (.c (pi 1))),
 m d30 r2,
 o d31 (.bin .sub r30 (.c (pi 1))),
 m d12 r29,
 m d13 r31])
 (.seq (.block 0 (.loop (.seq (.seq (.drw [q 0 (m d32 r12),
 q 0 (m d33 r13),
 q 0 (o d34 (.bin .le r32 r33)),
 q 0 (m d35 r34),
 q 0 (.g .h2 .h3 true d36 (.op (.mv r4))),
 q 0 (.g .h2 .h3 true d37 (.op (.mv r0))),
 q 0 (.g .h2 .h3 true d38 (.op (.mv r12))),
 q 0 (.g .h2 .h3 true d39 (.op (.ixs 3 r37 r38))),
 q 0 (.g .h2 .h3 true d40 (.op (.ldn 3 r39))),
 q 0 (.g .h2 .h3 true d41 (.op (.mv r0))),
 q 0 (.g .h2 .h3 true d42 (.op (.mv r1))),
 q 0 (.g .h2 .h3 true d43 (.op (.ixs 3 r41 r42))),
 q 0 (.g .h2 .h3 true d44 (.op (.ldn 3 r43))),
 w (.g .h2 .h3 true d45 (.calld r36 [r40,r44])),
 q 0 (.g .h2 .h3 true d46 (.op (.bin .lt r45 (.c (pi 0))))),
 q 0 (o d47 (.pick r35 r46 (.c (.bool false))))]) c214_2) c214_3))) (.seq (.block 2 (.loop (.seq (.seq (.drw [q 0 (m d50 r12),
 q 0 (m d51 r13),
 q 0 (o d52 (.bin .le r50 r51)),
 q 0 (m d53 r52),
 q 0 (.g .h3 .h5 true d54 (.op (.mv r4))),
 q 0 (.g .h3 .h5 true d55 (.op (.mv r0))),
 q 0 (.g .h3 .h5 true d56 (.op (.mv r13))),
 q 0 (.g .h3 .h5 true d57 (.op (.ixs 3 r55 r56))),
 q 0 (.g .h3 .h5 true d58 (.op (.ldn 3 r57))),
 q 0 (.g .h3 .h5 true d59 (.op (.mv r0))),
 q 0 (.g .h3 .h5 true d60 (.op (.mv r1))),
 q 0 (.g .h3 .h5 true d61 (.op (.ixs 3 r59 r60))),
 q 0 (.g .h3 .h5 true d62 (.op (.ldn 3 r61))),
 w (.g .h3 .h5 true d63 (.calld r54 [r58,r62])),
 q 0 (.g .h3 .h5 true d64 (.op (.bin .lt r63 (.c (pi 0))))),
 q 0 (.g .h3 .h5 true d65 (.op (.un .not r64))),
 q 0 (o d66 (.pick r53 r65 (.c (.bool false))))]) c214_4) c214_5))) (.seq c214_6 (.seq (.drw [q 0 (m d87 r0),
 q 0 (m d88 r12),
 q 0 (m d91 r0),
 q 0 (m d92 r13),
 q 0 (o d93 (.ixs 3 r91 r92)),
 q 0 (o d94 (.ldn 3 r93)),
 q 0 (m d95 r0),
 q 0 (m d96 r12),
 q 0 (o d97 (.ixs 3 r95 r96)),
 q 0 (o d98 (.ldn 3 r97)),
 q 0 (o d99 (.ixs 3 r87 r88)),
 w (o .no (.stn 3 r99 r94)),
 q 1 (m d89 r0),
 q 1 (m d90 r13),
 q 0 (o d100 (.ixs 3 r89 r90)),
 w (o .no (.stn 3 r100 r98))]) c214_8)))))
def c214_0 : AC := (.seq (.ops [m d10 (.c (pi 0)),
 m d11 (.c (.bool false))])
 (.seq (.drw [q 0 (m d14 r0),
 q 0 (m d15 r1),
 q 0 (m d18 r0),
 q 0 (m d19 r3),
 q 0 (o d20 (.ixs 3 r18 r19)),
 q 0 (o d21 (.ldn 3 r20)),
 q 0 (m d22 r0),
 q 0 (m d23 r1),
 q 0 (o d24 (.ixs 3 r22 r23)),
 q 0 (o d25 (.ldn 3 r24)),
 q 0 (o d26 (.ixs 3 r14 r15)),
 w (o .no (.stn 3 r26 r21)),
 q 1 (m d16 r0),
 q 1 (m d17 r3),
 q 0 (o d27 (.ixs 3 r16 r17)),
 w (o .no (.stn 3 r27 r25))]) c214_1))
def b214 : AC := c214_0
def s214 : List Rs := [.t .h0 .ha,.t .h0 .hb]
def c215_1 : AC := (.seq (.seq (.ops [m d7 r0,
 o d8 (.bin .ge r7 (.c (.int .u32 (.ofNat 256))))])
 (.cond r8 (.seq (.ops [m d9 r0,
 o d10 (.bin .shr r9 (.c (.int .u64 (.ofNat 8)))),
 m d0 r10])
 (.ops [m d11 r2,
 o d12 (.bin .add r11 (.c (pi 8))),
 m d2 r12]))
 .skip))
 (.seq (.ops [m d13 r2,
 m d14 r0,
 o d15 (.conv (.toInt .u8) r14),
 o d16 (.idxs (.c (.str [0,1,2,2,3,3,3,3,4,4,4,4,4,4,4,4,5,5,5,5,5,5,5,5,5,5,5,5,5,5,5,5,6,6,6,6,6,6,6,6,6,6,6,6,6,6,6,6,6,6,6,6,6,6,6,6,6,6,6,6,6,6,6,6,7,7,7,7,7,7,7,7,7,7,7,7,7,7,7,7,7,7,7,7,7,7,7,7,7,7,7,7,7,7,7,7,7,7,7,7,7,7,7,7,7,7,7,7,7,7,7,7,7,7,7,7,7,7,7,7,7,7,7,7,7,7,7,7,8,8,8,8,8,8,8,8,8,8,8,8,8,8,8,8,8,8,8,8,8,8,8,8,8,8,8,8,8,8,8,8,8,8,8,8,8,8,8,8,8,8,8,8,8,8,8,8,8,8,8,8,8,8,8,8,8,8,8,8,8,8,8,8,8,8,8,8,8,8,8,8,8,8,8,8,8,8,8,8,8,8,8,8,8,8,8,8,8,8,8,8,8,8,8,8,8,8,8,8,8,8,8,8,8,8,8,8,8,8,8,8,8,8,8,8,8,8,8,8,8,8,8,8,8,8,8,8])) r15),
 o d17 (.conv (.toInt .i64) r16),
 o d18 (.bin .add r13 r17),
 m d2 r18])
 .ret))
def c215_0 : AC := (.seq (.ops [m d2 (.c (pi 0))])
 (.seq (.seq (.ops [m d3 r0,
 o d4 (.bin .ge r3 (.c (.int .u32 (.ofNat 65536))))])
 (.cond r4 (.seq (.ops [m d5 r0,
 o d6 (.bin .shr r5 (.c (.int .u64 (.ofNat 16)))),
 m d0 r6])
 (.ops [m d2 (.c (pi 16))]))
 .skip))
 c215_1))
def b215 : AC := c215_0
def s215 : List Rs := [.t .h0 .h2]
def c216_2 : AC := (.seq (.seq (.ops [m d13 r0,
 o d14 (.bin .ge r13 (.c (.int .u64 (.ofNat 256))))])
 (.cond r14 (.seq (.ops [m d15 r0,
 o d16 (.bin .shr r15 (.c (.int .u64 (.ofNat 8)))),
 m d0 r16])
 (.ops [m d17 r2,
 o d18 (.bin .add r17 (.c (pi 8))),
 m d2 r18]))
 .skip))
 (.seq (.ops [m d19 r2,
 m d20 r0,
 o d21 (.conv (.toInt .u8) r20),
 o d22 (.idxs (.c (.str [0,1,2,2,3,3,3,3,4,4,4,4,4,4,4,4,5,5,5,5,5,5,5,5,5,5,5,5,5,5,5,5,6,6,6,6,6,6,6,6,6,6,6,6,6,6,6,6,6,6,6,6,6,6,6,6,6,6,6,6,6,6,6,6,7,7,7,7,7,7,7,7,7,7,7,7,7,7,7,7,7,7,7,7,7,7,7,7,7,7,7,7,7,7,7,7,7,7,7,7,7,7,7,7,7,7,7,7,7,7,7,7,7,7,7,7,7,7,7,7,7,7,7,7,7,7,7,7,8,8,8,8,8,8,8,8,8,8,8,8,8,8,8,8,8,8,8,8,8,8,8,8,8,8,8,8,8,8,8,8,8,8,8,8,8,8,8,8,8,8,8,8,8,8,8,8,8,8,8,8,8,8,8,8,8,8,8,8,8,8,8,8,8,8,8,8,8,8,8,8,8,8,8,8,8,8,8,8,8,8,8,8,8,8,8,8,8,8,8,8,8,8,8,8,8,8,8,8,8,8,8,8,8,8,8,8,8,8,8,8,8,8,8,8,8,8,8,8,8,8,8,8,8,8,8,8])) r21),
 o d23 (.conv (.toInt .i64) r22),
 o d24 (.bin .add r19 r23),
 m d2 r24])
 .ret))
def c216_1 : AC := (.seq (.seq (.ops [m d7 r0,
 o d8 (.bin .ge r7 (.c (.int .u64 (.ofNat 65536))))])
 (.cond r8 (.seq (.ops [m d9 r0,
 o d10 (.bin .shr r9 (.c (.int .u64 (.ofNat 16)))),
 m d0 r10])
 (.ops [m d11 r2,
 o d12 (.bin .add r11 (.c (pi 16))),
 m d2 r12]))
 .skip))
 c216_2)
def c216_0 : AC := (.seq (.ops [m d2 (.c (pi 0))])
 (.seq (.seq (.ops [m d3 r0,
 o d4 (.bin .ge r3 (.c (.int .u64 (.ofNat 4294967296))))])
 (.cond r4 (.seq (.ops [m d5 r0,
 o d6 (.bin .shr r5 (.c (.int .u64 (.ofNat 32)))),
 m d0 r6])
 (.ops [m d2 (.c (pi 32))]))
 .skip))
 c216_1))
def b216 : AC := c216_0
def s216 : List Rs := [.t .h0 .h2]
def c217_3 : AC := (.cond r30 .skip
 (.exit 2))
def c217_4 : AC := (.ops [m d31 r7,
 o d32 (.bin .sub r31 (.c (pi 1))),
 m d7 r32])
def c217_2 : AC := (.seq (.ops [m d15 r6,
 m d7 r15])
 (.block 2 (.loop (.seq (.seq (.drw [q 0 (m d16 r7),
 q 0 (m d17 r1),
 q 0 (o d18 (.bin .gt r16 r17)),
 q 0 (m d19 r18),
 q 0 (.g .h1 .h3 true d20 (.op (.mv r0))),
 q 0 (.g .h1 .h3 true d21 (.op (.mv r7))),
 q 0 (.g .h1 .h3 true d22 (.op (.ixs 1 r20 r21))),
 q 0 (.g .h1 .h3 true d23 (.op (.ld1 r22))),
 q 0 (.g .h1 .h3 true d24 (.op (.mv r0))),
 q 0 (.g .h1 .h3 true d25 (.op (.mv r7))),
 q 0 (.g .h1 .h3 true d26 (.op (.bin .sub r25 (.c (pi 1))))),
 q 0 (.g .h1 .h3 true d27 (.op (.ixs 1 r24 r26))),
 q 0 (.g .h1 .h3 true d28 (.op (.ld1 r27))),
 w (.g .h1 .h3 true d29 (.call 223 [r23,r28])),
 q 0 (o d30 (.pick r19 r29 (.c (.bool false))))]) c217_3) (.seq (.block 3 (.drw [q 0 (m d33 r0),
 q 0 (m d34 r7),
 q 0 (m d38 r0),
 q 0 (m d39 r7),
 q 0 (o d40 (.bin .sub r39 (.c (pi 1)))),
 q 0 (o d41 (.ixs 1 r38 r40)),
 q 0 (o d42 (.ld1 r41)),
 q 0 (m d43 r0),
 q 0 (m d44 r7),
 q 0 (o d45 (.ixs 1 r43 r44)),
 q 0 (o d46 (.ld1 r45)),
 q 0 (o d47 (.ixs 1 r33 r34)),
 w (o .no (.st1 r47 r42)),
 q 1 (m d35 r0),
 q 1 (m d36 r7),
 q 1 (o d37 (.bin .sub r36 (.c (pi 1)))),
 q 0 (o d48 (.ixs 1 r35 r37)),
 w (o .no (.st1 r48 r46))])) c217_4)))))
def c217_5 : AC := (.ops [m d13 r6,
 o d14 (.bin .add r13 (.c (pi 1))),
 m d6 r14])
def c217_1 : AC := (.seq (.seq (.ops [m d10 r6,
 m d11 r2,
 o d12 (.bin .lt r10 r11)])
 (.cond r12 .skip
 (.exit 0)))
 (.seq (.block 1 c217_2) c217_5))
def c217_0 : AC := (.seq (.ops [m d8 r1,
 o d9 (.bin .add r8 (.c (pi 1))),
 m d6 r9])
 (.block 0 (.loop c217_1)))
def b217 : AC := c217_0
def s217 : List Rs := []
def c218_2 : AC := (.seq (.seq (.ops [m d18 r9,
 o d19 (.bin .ge r18 (.c (pi 0)))])
 (.cond r19 .skip
 (.exit 0)))
 (.seq (.block 1 (.ops [m d22 r0,
 m d23 r9,
 m d24 r8,
 m d25 r6,
 .o d26 (.call 231 [r22,r23,r24,r25])]))
 (.ops [m d20 r9,
 o d21 (.bin .sub r20 (.c (pi 1))),
 m d9 r21])))
def c218_1 : AC := (.seq (.ops [m d15 r8,
 o d16 (.bin .sub r15 (.c (pi 1))),
 o d17 (.bin .quo r16 (.c (pi 2))),
 m d9 r17])
 (.block 0 (.loop c218_2)))
def c218_5 : AC := (.ops [m d51 r0,
 m d52 r7,
 m d53 r10,
 m d54 r6,
 .o d55 (.call 231 [r51,r52,r53,r54])])
def c218_6 : AC := (.ops [m d31 r10,
 o d32 (.bin .sub r31 (.c (pi 1))),
 m d10 r32])
def c218_4 : AC := (.seq (.seq (.ops [m d29 r10,
 o d30 (.bin .ge r29 (.c (pi 0)))])
 (.cond r30 .skip
 (.exit 2)))
 (.seq (.block 3 (.seq (.drw [q 0 (m d33 r0),
 q 0 (m d34 r6),
 q 0 (m d39 r0),
 q 0 (m d40 r6),
 q 0 (m d41 r10),
 q 0 (o d42 (.bin .add r40 r41)),
 q 0 (o d43 (.ixs 1 r39 r42)),
 q 0 (o d44 (.ld1 r43)),
 q 0 (m d45 r0),
 q 0 (m d46 r6),
 q 0 (o d47 (.ixs 1 r45 r46)),
 q 0 (o d48 (.ld1 r47)),
 q 0 (o d49 (.ixs 1 r33 r34)),
 w (o .no (.st1 r49 r44)),
 q 1 (m d35 r0),
 q 1 (m d36 r6),
 q 1 (m d37 r10),
 q 1 (o d38 (.bin .add r36 r37)),
 q 0 (o d50 (.ixs 1 r35 r38)),
 w (o .no (.st1 r50 r48))]) c218_5)) c218_6))
def c218_3 : AC := (.seq (.ops [m d27 r8,
 o d28 (.bin .sub r27 (.c (pi 1))),
 m d10 r28])
 (.block 2 (.loop c218_4)))
def c218_0 : AC := (.seq (.ops [m d11 r1,
 m d6 r11])
 (.seq (.ops [m d7 (.c (pi 0))])
 (.seq (.ops [m d12 r2,
 m d13 r1,
 o d14 (.bin .sub r12 r13),
 m d8 r14])
 (.seq c218_1 c218_3))))
def b218 : AC := c218_0
def s218 : List Rs := []
def c219_3 : AC := (.seq (.ops [.o d36 (.call 228 [r7]),
 m d37 r8,
 o d38 (.bin .sub r37 (.c (.int .u64 (.ofNat 1)))),
 o d39 (.bin .and r36 r38),
 o d40 (.conv (.toInt .i64) r39),
 m d10 r40])
 (.seq (.seq (.ops [m d41 r10,
 m d42 r6,
 o d43 (.bin .ge r41 r42)])
 (.cond r43 (.ops [m d44 r10,
 m d45 r6,
 o d46 (.bin .sub r44 r45),
 m d10 r46])
 .skip))
 (.drw [q 0 (m d47 r0),
 q 0 (m d48 r9),
 q 0 (m d53 r0),
 q 0 (m d54 r1),
 q 0 (m d55 r10),
 q 0 (o d56 (.bin .add r54 r55)),
 q 0 (o d57 (.ixs 1 r53 r56)),
 q 0 (o d58 (.ld1 r57)),
 q 0 (m d59 r0),
 q 0 (m d60 r9),
 q 0 (o d61 (.ixs 1 r59 r60)),
 q 0 (o d62 (.ld1 r61)),
 q 0 (o d63 (.ixs 1 r47 r48)),
 w (o .no (.st1 r63 r58)),
 q 1 (m d49 r0),
 q 1 (m d50 r1),
 q 1 (m d51 r10),
 q 1 (o d52 (.bin .add r50 r51)),
 q 0 (o d64 (.ixs 1 r49 r52)),
 w (o .no (.st1 r64 r62))])))
def c219_4 : AC := (.ops [m d34 r9,
 o d35 (.bin .add r34 (.c (pi 1))),
 m d9 r35])
def c219_2 : AC := (.seq (.seq (.ops [m d26 r9,
 m d27 r1,
 m d28 r6,
 o d29 (.bin .quo r28 (.c (pi 4))),
 o d30 (.bin .mul r29 (.c (pi 2))),
 o d31 (.bin .add r27 r30),
 o d32 (.bin .add r31 (.c (pi 1))),
 o d33 (.bin .le r26 r32)])
 (.cond r33 .skip
 (.exit 0)))
 (.seq (.block 1 c219_3) c219_4))
def c219_1 : AC := (.seq (.ops [m d16 r6,
 o d17 (.conv (.toInt .u64) r16),
 o d7 (.alloc 265 1 (.k1 (.mk (.int .u64 (.ofNat 0)) .undef .undef .undef .undef .undef .undef .undef .undef .undef .undef .undef .undef .undef .undef .undef))),
 o .no (.st1 r7 r17)])
 (.seq (.ops [m d18 r6,
 .o d19 (.call 227 [r18]),
 m d8 r19])
 (.seq (.ops [m d20 r1,
 m d21 r6,
 o d22 (.bin .quo r21 (.c (pi 4))),
 o d23 (.bin .mul r22 (.c (pi 2))),
 o d24 (.bin .add r20 r23),
 o d25 (.bin .sub r24 (.c (pi 1))),
 m d9 r25])
 (.block 0 (.loop c219_2)))))
def c219_0 : AC := (.seq (.ops [m d11 r2,
 m d12 r1,
 o d13 (.bin .sub r11 r12),
 m d6 r13])
 (.seq (.ops [m d14 r6,
 o d15 (.bin .ge r14 (.c (pi 8)))])
 (.cond r15 c219_1 .skip)))
def b219 : AC := c219_0
def s219 : List Rs := []
def c220_3 : AC := (.seq (.ops [o d49 (.ld1 r9)])
 (.block 0 (.seq (.ops [o d52 (.bin .eq r49 (.c (pi 0))),
 m d51 r52])
 (.cond r51 (.seq (.ops [m d53 r11,
 m d6 r53,
 m d7 (.c (pi 1))])
 .ret)
 (.seq (.ops [o d55 (.bin .eq r49 (.c (pi 12))),
 m d54 r55])
 (.cond r54 (.seq (.ops [m d56 r11,
 m d6 r56,
 m d7 (.c (pi 2))])
 .ret)
 (.seq (.ops [m d50 r11,
 m d6 r50,
 m d7 (.c (pi 0))])
 .ret)))))))
def c220_2 : AC := (.seq (.seq (.ops [m d31 r8,
 o d32 (.bin .ge r31 (.c (pi 8)))])
 (.cond r32 (.seq (.seq (.ops [m d33 r8,
 o d34 (.bin .ge r33 (.c (pi 50)))])
 (.cond r34 (.seq (.ops [m d35 r0,
 m d36 r10,
 .o d37 (.call 232 [r35,r36,r9]),
 m d10 r37])
 (.seq (.ops [m d38 r0,
 m d39 r11,
 .o d40 (.call 232 [r38,r39,r9]),
 m d11 r40])
 (.ops [m d41 r0,
 m d42 r12,
 .o d43 (.call 232 [r41,r42,r9]),
 m d12 r43])))
 .skip))
 (.ops [m d44 r0,
 m d45 r10,
 m d46 r11,
 m d47 r12,
 .o d48 (.call 233 [r44,r45,r46,r47,r9]),
 m d11 r48]))
 .skip))
 c220_3)
def c220_1 : AC := (.seq (.ops [m d26 r1,
 m d27 r8,
 o d28 (.bin .quo r27 (.c (pi 4))),
 o d29 (.bin .mul r28 (.c (pi 3))),
 o d30 (.bin .add r26 r29),
 m d12 r30])
 c220_2)
def c220_0 : AC := (.seq (.ops [m d6 (.c (pi 0)),
 m d7 (.c (pi 0))])
 (.seq (.ops [m d13 r2,
 m d14 r1,
 o d15 (.bin .sub r13 r14),
 m d8 r15])
 (.seq (.ops [o d9 (.alloc 3 1 (.k1 (.mk (pi 0) .undef .undef .undef .undef .undef .undef .undef .undef .undef .undef .undef .undef .undef .undef .undef)))])
 (.seq (.ops [m d16 r1,
 m d17 r8,
 o d18 (.bin .quo r17 (.c (pi 4))),
 o d19 (.bin .mul r18 (.c (pi 1))),
 o d20 (.bin .add r16 r19),
 m d10 r20])
 (.seq (.ops [m d21 r1,
 m d22 r8,
 o d23 (.bin .quo r22 (.c (pi 4))),
 o d24 (.bin .mul r23 (.c (pi 2))),
 o d25 (.bin .add r21 r24),
 m d11 r25])
 c220_1)))))
def b220 : AC := c220_0
def s220 : List Rs := [.t .h0 .h6,.t .h0 .h7]
def c221_2 : AC := (.seq (.ops [m d28 r6,
 o d29 (.bin .add r28 (.c (pi 1))),
 m d6 r29])
 (.ops [m d30 r7,
 o d31 (.bin .sub r30 (.c (pi 1))),
 m d7 r31]))
def c221_1 : AC := (.seq (.seq (.ops [m d11 r6,
 m d12 r7,
 o d13 (.bin .lt r11 r12)])
 (.cond r13 .skip
 (.exit 0)))
 (.block 1 (.seq (.drw [q 0 (m d14 r0),
 q 0 (m d15 r6),
 q 0 (m d18 r0),
 q 0 (m d19 r7),
 q 0 (o d20 (.ixs 1 r18 r19)),
 q 0 (o d21 (.ld1 r20)),
 q 0 (m d22 r0),
 q 0 (m d23 r6),
 q 0 (o d24 (.ixs 1 r22 r23)),
 q 0 (o d25 (.ld1 r24)),
 q 0 (o d26 (.ixs 1 r14 r15)),
 w (o .no (.st1 r26 r21)),
 q 1 (m d16 r0),
 q 1 (m d17 r7),
 q 0 (o d27 (.ixs 1 r16 r17)),
 w (o .no (.st1 r27 r25))]) c221_2)))
def c221_0 : AC := (.seq (.ops [m d8 r1,
 m d6 r8])
 (.seq (.ops [m d9 r2,
 o d10 (.bin .sub r9 (.c (pi 1))),
 m d7 r10])
 (.block 0 (.loop c221_1))))
def b221 : AC := c221_0
def s221 : List Rs := []
def c222_3 : AC := (.cond r32 .skip
 (.exit 2))
def c222_4 : AC := (.block 3 (.ops [m d33 r7,
 o d34 (.bin .add r33 (.c (pi 1))),
 m d7 r34]))
def c222_9 : AC := (.seq (.seq (.drw [q 0 (m d68 r0),
 q 0 (m d69 r9),
 q 0 (o d70 (.ixs 1 r68 r69)),
 q 0 (o d71 (.ld1 r70)),
 q 0 (m d72 r0),
 q 0 (m d73 r9),
 q 0 (o d74 (.bin .sub r73 (.c (pi 1)))),
 q 0 (o d75 (.ixs 1 r72 r74)),
 q 0 (o d76 (.ld1 r75)),
 w (.o d77 (.call 223 [r71,r76])),
 q 0 (o d78 (.un .not r77))])
 (.cond r78 (.exit 4)
 .skip))
 (.drw [q 0 (m d79 r0),
 q 0 (m d80 r9),
 q 0 (m d84 r0),
 q 0 (m d85 r9),
 q 0 (o d86 (.bin .sub r85 (.c (pi 1)))),
 q 0 (o d87 (.ixs 1 r84 r86)),
 q 0 (o d88 (.ld1 r87)),
 q 0 (m d89 r0),
 q 0 (m d90 r9),
 q 0 (o d91 (.ixs 1 r89 r90)),
 q 0 (o d92 (.ld1 r91)),
 q 0 (o d93 (.ixs 1 r79 r80)),
 w (o .no (.st1 r93 r88)),
 q 1 (m d81 r0),
 q 1 (m d82 r9),
 q 1 (o d83 (.bin .sub r82 (.c (pi 1)))),
 q 0 (o d94 (.ixs 1 r81 r83)),
 w (o .no (.st1 r94 r92))]))
def c222_10 : AC := (.ops [m d66 r9,
 o d67 (.bin .sub r66 (.c (pi 1))),
 m d9 r67])
def c222_8 : AC := (.seq (.seq (.ops [m d64 r9,
 o d65 (.bin .ge r64 (.c (pi 1)))])
 (.cond r65 .skip
 (.exit 4)))
 (.seq (.block 5 c222_9) c222_10))
def c222_7 : AC := (.seq (.ops [m d62 r7,
 o d63 (.bin .sub r62 (.c (pi 1))),
 m d9 r63])
 (.block 4 (.loop c222_8)))
def c222_6 : AC := (.seq (.ops [m d58 r7,
 m d59 r1,
 o d60 (.bin .sub r58 r59),
 o d61 (.bin .ge r60 (.c (pi 2)))])
 (.cond r61 c222_7 .skip))
def c222_14 : AC := (.seq (.seq (.drw [q 0 (m d106 r0),
 q 0 (m d107 r10),
 q 0 (o d108 (.ixs 1 r106 r107)),
 q 0 (o d109 (.ld1 r108)),
 q 0 (m d110 r0),
 q 0 (m d111 r10),
 q 0 (o d112 (.bin .sub r111 (.c (pi 1)))),
 q 0 (o d113 (.ixs 1 r110 r112)),
 q 0 (o d114 (.ld1 r113)),
 w (.o d115 (.call 223 [r109,r114])),
 q 0 (o d116 (.un .not r115))])
 (.cond r116 (.exit 6)
 .skip))
 (.drw [q 0 (m d117 r0),
 q 0 (m d118 r10),
 q 0 (m d122 r0),
 q 0 (m d123 r10),
 q 0 (o d124 (.bin .sub r123 (.c (pi 1)))),
 q 0 (o d125 (.ixs 1 r122 r124)),
 q 0 (o d126 (.ld1 r125)),
 q 0 (m d127 r0),
 q 0 (m d128 r10),
 q 0 (o d129 (.ixs 1 r127 r128)),
 q 0 (o d130 (.ld1 r129)),
 q 0 (o d131 (.ixs 1 r117 r118)),
 w (o .no (.st1 r131 r126)),
 q 1 (m d119 r0),
 q 1 (m d120 r10),
 q 1 (o d121 (.bin .sub r120 (.c (pi 1)))),
 q 0 (o d132 (.ixs 1 r119 r121)),
 w (o .no (.st1 r132 r130))]))
def c222_15 : AC := (.ops [m d104 r10,
 o d105 (.bin .add r104 (.c (pi 1))),
 m d10 r105])
def c222_13 : AC := (.seq (.seq (.ops [m d101 r10,
 m d102 r2,
 o d103 (.bin .lt r101 r102)])
 (.cond r103 .skip
 (.exit 6)))
 (.seq (.block 7 c222_14) c222_15))
def c222_12 : AC := (.seq (.ops [m d99 r7,
 o d100 (.bin .add r99 (.c (pi 1))),
 m d10 r100])
 (.block 6 (.loop c222_13)))
def c222_11 : AC := (.seq (.ops [m d95 r2,
 m d96 r7,
 o d97 (.bin .sub r95 r96),
 o d98 (.bin .ge r97 (.c (pi 2)))])
 (.cond r98 c222_12 .skip))
def c222_5 : AC := (.seq (.seq (.ops [m d35 r7,
 m d36 r2,
 o d37 (.bin .eq r35 r36)])
 (.cond r37 (.seq (.ops [m d6 (.c (.bool true))])
 .ret)
 .skip))
 (.seq (.seq (.ops [m d38 r2,
 m d39 r1,
 o d40 (.bin .sub r38 r39),
 o d41 (.bin .lt r40 (.c (pi 50)))])
 (.cond r41 (.seq (.ops [m d6 (.c (.bool false))])
 .ret)
 .skip))
 (.seq (.drw [q 0 (m d42 r0),
 q 0 (m d43 r7),
 q 0 (m d47 r0),
 q 0 (m d48 r7),
 q 0 (o d49 (.bin .sub r48 (.c (pi 1)))),
 q 0 (o d50 (.ixs 1 r47 r49)),
 q 0 (o d51 (.ld1 r50)),
 q 0 (m d52 r0),
 q 0 (m d53 r7),
 q 0 (o d54 (.ixs 1 r52 r53)),
 q 0 (o d55 (.ld1 r54)),
 q 0 (o d56 (.ixs 1 r42 r43)),
 w (o .no (.st1 r56 r51)),
 q 1 (m d44 r0),
 q 1 (m d45 r7),
 q 1 (o d46 (.bin .sub r45 (.c (pi 1)))),
 q 0 (o d57 (.ixs 1 r44 r46)),
 w (o .no (.st1 r57 r55))]) (.seq c222_6 c222_11))))
def c222_16 : AC := (.ops [m d15 r8,
 o d16 (.bin .add r15 (.c (pi 1))),
 m d8 r16])
def c222_2 : AC := (.seq (.seq (.ops [m d13 r8,
 o d14 (.bin .lt r13 (.c (pi 5)))])
 (.cond r14 .skip
 (.exit 0)))
 (.seq (.block 1 (.seq (.block 2 (.loop (.seq (.seq (.drw [q 0 (m d17 r7),
 q 0 (m d18 r2),
 q 0 (o d19 (.bin .lt r17 r18)),
 q 0 (m d20 r19),
 q 0 (.g .h1 .h4 true d21 (.op (.mv r0))),
 q 0 (.g .h1 .h4 true d22 (.op (.mv r7))),
 q 0 (.g .h1 .h4 true d23 (.op (.ixs 1 r21 r22))),
 q 0 (.g .h1 .h4 true d24 (.op (.ld1 r23))),
 q 0 (.g .h1 .h4 true d25 (.op (.mv r0))),
 q 0 (.g .h1 .h4 true d26 (.op (.mv r7))),
 q 0 (.g .h1 .h4 true d27 (.op (.bin .sub r26 (.c (pi 1))))),
 q 0 (.g .h1 .h4 true d28 (.op (.ixs 1 r25 r27))),
 q 0 (.g .h1 .h4 true d29 (.op (.ld1 r28))),
 w (.g .h1 .h4 true d30 (.call 223 [r24,r29])),
 q 0 (.g .h1 .h4 true d31 (.op (.un .not r30))),
 q 0 (o d32 (.pick r20 r31 (.c (.bool false))))]) c222_3) c222_4))) c222_5)) c222_16))
def c222_1 : AC := (.seq (.ops [m d8 (.c (pi 0))])
 (.block 0 (.loop c222_2)))
def c222_17 : AC := (.seq (.ops [m d6 (.c (.bool false))])
 .ret)
def c222_0 : AC := (.seq (.ops [m d6 (.c (.bool false))])
 (.seq (.ops [m d11 r1,
 o d12 (.bin .add r11 (.c (pi 1))),
 m d7 r12])
 (.seq c222_1 c222_17)))
def b222 : AC := c222_0
def s222 : List Rs := [.t .h0 .h6]
def c223_0 : AC := (.seq (.ops [m d4 (.c (.bool false))])
 (.seq (.ops [m d5 r0,
 .o d6 (.call 204 [r5]),
 m d7 r6,
 .g .h0 .h7 true d8 (.op (.mv r1)),
 .g .h0 .h7 true d9 (.call 204 [r8]),
 .g .h0 .h7 true d10 (.op (.un .not r9)),
 o d11 (.pick r7 r10 (.c (.bool false))),
 m d12 r11,
 .g .h0 .hc false d13 (.op (.mv r0)),
 .g .h0 .hc false d14 (.op (.mv r1)),
 .g .h0 .hc false d15 (.op (.bin .lt r13 r14)),
 o d16 (.pick r12 (.c (.bool true)) r15),
 m d4 r16]) .ret))
def b223 : AC := c223_0
def s223 : List Rs := [.t .h0 .h4]
def c224_2 : AC := (.cond r43 .skip
 (.exit 2))
def c224_3 : AC := (.block 3 (.ops [m d44 r9,
 o d45 (.bin .add r44 (.c (pi 1))),
 m d9 r45]))
def c224_4 : AC := (.cond r59 .skip
 (.exit 4))
def c224_5 : AC := (.block 5 (.ops [m d60 r10,
 o d61 (.bin .sub r60 (.c (pi 1))),
 m d10 r61]))
def c224_7 : AC := (.seq (.ops [m d79 r9,
 o d80 (.bin .add r79 (.c (pi 1))),
 m d9 r80])
 (.ops [m d81 r10,
 o d82 (.bin .sub r81 (.c (pi 1))),
 m d10 r82]))
def c224_6 : AC := (.seq (.seq (.ops [m d62 r9,
 m d63 r10,
 o d64 (.bin .gt r62 r63)])
 (.cond r64 (.exit 0)
 .skip))
 (.seq (.drw [q 0 (m d65 r0),
 q 0 (m d66 r9),
 q 0 (m d69 r0),
 q 0 (m d70 r10),
 q 0 (o d71 (.ixs 1 r69 r70)),
 q 0 (o d72 (.ld1 r71)),
 q 0 (m d73 r0),
 q 0 (m d74 r9),
 q 0 (o d75 (.ixs 1 r73 r74)),
 q 0 (o d76 (.ld1 r75)),
 q 0 (o d77 (.ixs 1 r65 r66)),
 w (o .no (.st1 r77 r72)),
 q 1 (m d67 r0),
 q 1 (m d68 r10),
 q 0 (o d78 (.ixs 1 r67 r68)),
 w (o .no (.st1 r78 r76))]) c224_7))
def c224_8 : AC := (.seq (.ops [m d83 r9,
 m d8 r83])
 .ret)
def c224_1 : AC := (.seq (.ops [m d25 r1,
 o d26 (.bin .add r25 (.c (pi 1))),
 m d27 r2,
 o d28 (.bin .sub r27 (.c (pi 1))),
 m d9 r26,
 m d10 r28])
 (.seq (.block 0 (.loop (.block 1 (.seq (.block 2 (.loop (.seq (.seq (.drw [q 0 (m d29 r9),
 q 0 (m d30 r10),
 q 0 (o d31 (.bin .le r29 r30)),
 q 0 (m d32 r31),
 q 0 (.g .h2 .h0 true d33 (.op (.mv r0))),
 q 0 (.g .h2 .h0 true d34 (.op (.mv r1))),
 q 0 (.g .h2 .h0 true d35 (.op (.ixs 1 r33 r34))),
 q 0 (.g .h2 .h0 true d36 (.op (.ld1 r35))),
 q 0 (.g .h2 .h0 true d37 (.op (.mv r0))),
 q 0 (.g .h2 .h0 true d38 (.op (.mv r9))),
 q 0 (.g .h2 .h0 true d39 (.op (.ixs 1 r37 r38))),
 q 0 (.g .h2 .h0 true d40 (.op (.ld1 r39))),
 w (.g .h2 .h0 true d41 (.call 223 [r36,r40])),
 q 0 (.g .h2 .h0 true d42 (.op (.un .not r41))),
 q 0 (o d43 (.pick r32 r42 (.c (.bool false))))]) c224_2) c224_3))) (.seq (.block 4 (.loop (.seq (.seq (.drw [q 0 (m d46 r9),
 q 0 (m d47 r10),
 q 0 (o d48 (.bin .le r46 r47)),
 q 0 (m d49 r48),
 q 0 (.g .h3 .h1 true d50 (.op (.mv r0))),
 q 0 (.g .h3 .h1 true d51 (.op (.mv r1))),
 q 0 (.g .h3 .h1 true d52 (.op (.ixs 1 r50 r51))),
 q 0 (.g .h3 .h1 true d53 (.op (.ld1 r52))),
 q 0 (.g .h3 .h1 true d54 (.op (.mv r0))),
 q 0 (.g .h3 .h1 true d55 (.op (.mv r10))),
 q 0 (.g .h3 .h1 true d56 (.op (.ixs 1 r54 r55))),
 q 0 (.g .h3 .h1 true d57 (.op (.ld1 r56))),
 w (.g .h3 .h1 true d58 (.call 223 [r53,r57])),
 q 0 (o d59 (.pick r49 r58 (.c (.bool false))))]) c224_4) c224_5))) c224_6))))) c224_8))
def c224_0 : AC := (.seq (.ops [m d8 (.c (pi 0))])
 (.seq (.drw [q 0 (m d11 r0),
 q 0 (m d12 r1),
 q 0 (m d15 r0),
 q 0 (m d16 r3),
 q 0 (o d17 (.ixs 1 r15 r16)),
 q 0 (o d18 (.ld1 r17)),
 q 0 (m d19 r0),
 q 0 (m d20 r1),
 q 0 (o d21 (.ixs 1 r19 r20)),
 q 0 (o d22 (.ld1 r21)),
 q 0 (o d23 (.ixs 1 r11 r12)),
 w (o .no (.st1 r23 r18)),
 q 1 (m d13 r0),
 q 1 (m d14 r3),
 q 0 (o d24 (.ixs 1 r13 r14)),
 w (o .no (.st1 r24 r22))]) c224_1))
def b224 : AC := c224_0
def s224 : List Rs := [.t .h0 .h8]
def c225_2 : AC := (.cond r43 .skip
 (.exit 0))
def c225_3 : AC := (.block 1 (.ops [m d44 r10,
 o d45 (.bin .add r44 (.c (pi 1))),
 m d10 r45]))
def c225_4 : AC := (.cond r60 .skip
 (.exit 2))
def c225_5 : AC := (.block 3 (.ops [m d61 r11,
 o d62 (.bin .sub r61 (.c (pi 1))),
 m d11 r62]))
def c225_7 : AC := (.seq (.ops [m d80 r11,
 m d8 r80,
 m d9 (.c (.bool true))])
 .ret)
def c225_6 : AC := (.seq (.ops [m d63 r10,
 m d64 r11,
 o d65 (.bin .gt r63 r64)])
 (.cond r65 (.seq (.drw [q 0 (m d66 r0),
 q 0 (m d67 r11),
 q 0 (m d70 r0),
 q 0 (m d71 r1),
 q 0 (o d72 (.ixs 1 r70 r71)),
 q 0 (o d73 (.ld1 r72)),
 q 0 (m d74 r0),
 q 0 (m d75 r11),
 q 0 (o d76 (.ixs 1 r74 r75)),
 q 0 (o d77 (.ld1 r76)),
 q 0 (o d78 (.ixs 1 r66 r67)),
 w (o .no (.st1 r78 r73)),
 q 1 (m d68 r0),
 q 1 (m d69 r1),
 q 0 (o d79 (.ixs 1 r68 r69)),
 w (o .no (.st1 r79 r77))]) c225_7) .skip))
def c225_9 : AC := (.cond r112 .skip
 (.exit 6))
def c225_10 : AC := (.block 7 (.ops [m d113 r10,
 o d114 (.bin .add r113 (.c (pi 1))),
 m d10 r114]))
def c225_11 : AC := (.cond r129 .skip
 (.exit 8))
def c225_12 : AC := (.block 9 (.ops [m d130 r11,
 o d131 (.bin .sub r130 (.c (pi 1))),
 m d11 r131]))
def c225_14 : AC := (.seq (.ops [m d149 r10,
 o d150 (.bin .add r149 (.c (pi 1))),
 m d10 r150])
 (.ops [m d151 r11,
 o d152 (.bin .sub r151 (.c (pi 1))),
 m d11 r152]))
def c225_13 : AC := (.seq (.seq (.ops [m d132 r10,
 m d133 r11,
 o d134 (.bin .gt r132 r133)])
 (.cond r134 (.exit 4)
 .skip))
 (.seq (.drw [q 0 (m d135 r0),
 q 0 (m d136 r10),
 q 0 (m d139 r0),
 q 0 (m d140 r11),
 q 0 (o d141 (.ixs 1 r139 r140)),
 q 0 (o d142 (.ld1 r141)),
 q 0 (m d143 r0),
 q 0 (m d144 r10),
 q 0 (o d145 (.ixs 1 r143 r144)),
 q 0 (o d146 (.ld1 r145)),
 q 0 (o d147 (.ixs 1 r135 r136)),
 w (o .no (.st1 r147 r142)),
 q 1 (m d137 r0),
 q 1 (m d138 r11),
 q 0 (o d148 (.ixs 1 r137 r138)),
 w (o .no (.st1 r148 r146))]) c225_14))
def c225_15 : AC := (.seq (.ops [m d167 r11,
 m d8 r167,
 m d9 (.c (.bool false))])
 .ret)
def c225_8 : AC := (.seq (.ops [m d95 r10,
 o d96 (.bin .add r95 (.c (pi 1))),
 m d10 r96])
 (.seq (.ops [m d97 r11,
 o d98 (.bin .sub r97 (.c (pi 1))),
 m d11 r98])
 (.seq (.block 4 (.loop (.block 5 (.seq (.block 6 (.loop (.seq (.seq (.drw [q 0 (m d99 r10),
 q 0 (m d100 r11),
 q 0 (o d101 (.bin .le r99 r100)),
 q 0 (m d102 r101),
 q 0 (.g .h6 .h6 true d103 (.op (.mv r0))),
 q 0 (.g .h6 .h6 true d104 (.op (.mv r10))),
 q 0 (.g .h6 .h6 true d105 (.op (.ixs 1 r103 r104))),
 q 0 (.g .h6 .h6 true d106 (.op (.ld1 r105))),
 q 0 (.g .h6 .h6 true d107 (.op (.mv r0))),
 q 0 (.g .h6 .h6 true d108 (.op (.mv r1))),
 q 0 (.g .h6 .h6 true d109 (.op (.ixs 1 r107 r108))),
 q 0 (.g .h6 .h6 true d110 (.op (.ld1 r109))),
 w (.g .h6 .h6 true d111 (.call 223 [r106,r110])),
 q 0 (o d112 (.pick r102 r111 (.c (.bool false))))]) c225_9) c225_10))) (.seq (.block 8 (.loop (.seq (.seq (.drw [q 0 (m d115 r10),
 q 0 (m d116 r11),
 q 0 (o d117 (.bin .le r115 r116)),
 q 0 (m d118 r117),
 q 0 (.g .h7 .h6 true d119 (.op (.mv r0))),
 q 0 (.g .h7 .h6 true d120 (.op (.mv r11))),
 q 0 (.g .h7 .h6 true d121 (.op (.ixs 1 r119 r120))),
 q 0 (.g .h7 .h6 true d122 (.op (.ld1 r121))),
 q 0 (.g .h7 .h6 true d123 (.op (.mv r0))),
 q 0 (.g .h7 .h6 true d124 (.op (.mv r1))),
 q 0 (.g .h7 .h6 true d125 (.op (.ixs 1 r123 r124))),
 q 0 (.g .h7 .h6 true d126 (.op (.ld1 r125))),
 w (.g .h7 .h6 true d127 (.call 223 [r122,r126])),
 q 0 (.g .h7 .h6 true d128 (.op (.un .not r127))),
 q 0 (o d129 (.pick r118 r128 (.c (.bool false))))]) c225_11) c225_12))) c225_13))))) (.seq (.drw [q 0 (m d153 r0),
 q 0 (m d154 r11),
 q 0 (m d157 r0),
 q 0 (m d158 r1),
 q 0 (o d159 (.ixs 1 r157 r158)),
 q 0 (o d160 (.ld1 r159)),
 q 0 (m d161 r0),
 q 0 (m d162 r11),
 q 0 (o d163 (.ixs 1 r161 r162)),
 q 0 (o d164 (.ld1 r163)),
 q 0 (o d165 (.ixs 1 r153 r154)),
 w (o .no (.st1 r165 r160)),
 q 1 (m d155 r0),
 q 1 (m d156 r1),
 q 0 (o d166 (.ixs 1 r155 r156)),
 w (o .no (.st1 r166 r164))]) c225_15))))
def c225_1 : AC := (.seq (.ops [m d26 r1,
 o d27 (.bin .add r26 (.c (pi 1))),
 m d28 r2,
 o d29 (.bin .sub r28 (.c (pi 1))),
 m d10 r27,
 m d11 r29])
 (.seq (.block 0 (.loop (.seq (.seq (.drw [q 0 (m d30 r10),
 q 0 (m d31 r11),
 q 0 (o d32 (.bin .le r30 r31)),
 q 0 (m d33 r32),
 q 0 (.g .h2 .h1 true d34 (.op (.mv r0))),
 q 0 (.g .h2 .h1 true d35 (.op (.mv r10))),
 q 0 (.g .h2 .h1 true d36 (.op (.ixs 1 r34 r35))),
 q 0 (.g .h2 .h1 true d37 (.op (.ld1 r36))),
 q 0 (.g .h2 .h1 true d38 (.op (.mv r0))),
 q 0 (.g .h2 .h1 true d39 (.op (.mv r1))),
 q 0 (.g .h2 .h1 true d40 (.op (.ixs 1 r38 r39))),
 q 0 (.g .h2 .h1 true d41 (.op (.ld1 r40))),
 w (.g .h2 .h1 true d42 (.call 223 [r37,r41])),
 q 0 (o d43 (.pick r33 r42 (.c (.bool false))))]) c225_2) c225_3))) (.seq (.block 2 (.loop (.seq (.seq (.drw [q 0 (m d46 r10),
 q 0 (m d47 r11),
 q 0 (o d48 (.bin .le r46 r47)),
 q 0 (m d49 r48),
 q 0 (.g .h3 .h1 true d50 (.op (.mv r0))),
 q 0 (.g .h3 .h1 true d51 (.op (.mv r11))),
 q 0 (.g .h3 .h1 true d52 (.op (.ixs 1 r50 r51))),
 q 0 (.g .h3 .h1 true d53 (.op (.ld1 r52))),
 q 0 (.g .h3 .h1 true d54 (.op (.mv r0))),
 q 0 (.g .h3 .h1 true d55 (.op (.mv r1))),
 q 0 (.g .h3 .h1 true d56 (.op (.ixs 1 r54 r55))),
 q 0 (.g .h3 .h1 true d57 (.op (.ld1 r56))),
 w (.g .h3 .h1 true d58 (.call 223 [r53,r57])),
 q 0 (.g .h3 .h1 true d59 (.op (.un .not r58))),
 q 0 (o d60 (.pick r49 r59 (.c (.bool false))))]) c225_4) c225_5))) (.seq c225_6 (.seq (.drw [q 0 (m d81 r0),
 q 0 (m d82 r10),
 q 0 (m d85 r0),
 q 0 (m d86 r11),
 q 0 (o d87 (.ixs 1 r85 r86)),
 q 0 (o d88 (.ld1 r87)),
 q 0 (m d89 r0),
 q 0 (m d90 r10),
 q 0 (o d91 (.ixs 1 r89 r90)),
 q 0 (o d92 (.ld1 r91)),
 q 0 (o d93 (.ixs 1 r81 r82)),
 w (o .no (.st1 r93 r88)),
 q 1 (m d83 r0),
 q 1 (m d84 r11),
 q 0 (o d94 (.ixs 1 r83 r84)),
 w (o .no (.st1 r94 r92))]) c225_8)))))
def c225_0 : AC := (.seq (.ops [m d8 (.c (pi 0)),
 m d9 (.c (.bool false))])
 (.seq (.drw [q 0 (m d12 r0),
 q 0 (m d13 r1),
 q 0 (m d16 r0),
 q 0 (m d17 r3),
 q 0 (o d18 (.ixs 1 r16 r17)),
 q 0 (o d19 (.ld1 r18)),
 q 0 (m d20 r0),
 q 0 (m d21 r1),
 q 0 (o d22 (.ixs 1 r20 r21)),
 q 0 (o d23 (.ld1 r22)),
 q 0 (o d24 (.ixs 1 r12 r13)),
 w (o .no (.st1 r24 r19)),
 q 1 (m d14 r0),
 q 1 (m d15 r3),
 q 0 (o d25 (.ixs 1 r14 r15)),
 w (o .no (.st1 r25 r23))]) c225_1))
def b225 : AC := c225_0
def s225 : List Rs := [.t .h0 .h8,.t .h0 .h9]
def c226_2 : AC := (.cond r40 (.ops [m d41 r11,
 o d42 (.bin .add r41 (.c (pi 1))),
 m d11 r42])
 .skip)
def c226_4 : AC := (.ops [m d81 r11,
 m d10 r81])
def c226_3 : AC := (.seq (.seq (.drw [q 0 (m d43 r4),
 q 0 (m d44 r0),
 q 0 (m d45 r3),
 q 0 (m d46 r10),
 q 0 (o d47 (.bin .add r45 r46)),
 q 0 (o d48 (.ixs 3 r44 r47)),
 q 0 (o d49 (.ldn 3 r48)),
 q 0 (m d50 r0),
 q 0 (m d51 r3),
 q 0 (m d52 r11),
 q 0 (o d53 (.bin .add r51 r52)),
 q 0 (o d54 (.ixs 3 r50 r53)),
 q 0 (o d55 (.ldn 3 r54)),
 w (.o d56 (.calld r43 [r49,r55])),
 q 0 (o d57 (.bin .lt r56 (.c (pi 0)))),
 q 0 (o d58 (.un .not r57))])
 (.cond r58 .ret
 .skip))
 (.seq (.drw [q 0 (m d59 r0),
 q 0 (m d60 r3),
 q 0 (m d61 r10),
 q 0 (o d62 (.bin .add r60 r61)),
 q 0 (m d67 r0),
 q 0 (m d68 r3),
 q 0 (m d69 r11),
 q 0 (o d70 (.bin .add r68 r69)),
 q 0 (o d71 (.ixs 3 r67 r70)),
 q 0 (o d72 (.ldn 3 r71)),
 q 0 (m d73 r0),
 q 0 (m d74 r3),
 q 0 (m d75 r10),
 q 0 (o d76 (.bin .add r74 r75)),
 q 0 (o d77 (.ixs 3 r73 r76)),
 q 0 (o d78 (.ldn 3 r77)),
 q 0 (o d79 (.ixs 3 r59 r62)),
 w (o .no (.stn 3 r79 r72)),
 q 1 (m d63 r0),
 q 1 (m d64 r3),
 q 1 (m d65 r11),
 q 1 (o d66 (.bin .add r64 r65)),
 q 0 (o d80 (.ixs 3 r63 r66)),
 w (o .no (.stn 3 r80 r78))]) c226_4))
def c226_1 : AC := (.seq (.ops [m d13 r10,
 o d14 (.bin .mul (.c (pi 2)) r13),
 o d15 (.bin .add r14 (.c (pi 1))),
 m d11 r15])
 (.seq (.seq (.ops [m d16 r11,
 m d17 r2,
 o d18 (.bin .ge r16 r17)])
 (.cond r18 (.exit 0)
 .skip))
 (.seq (.seq (.drw [q 0 (m d19 r11),
 q 0 (o d20 (.bin .add r19 (.c (pi 1)))),
 q 0 (m d21 r2),
 q 0 (o d22 (.bin .lt r20 r21)),
 q 0 (m d23 r22),
 q 0 (.g .h1 .h7 true d24 (.op (.mv r4))),
 q 0 (.g .h1 .h7 true d25 (.op (.mv r0))),
 q 0 (.g .h1 .h7 true d26 (.op (.mv r3))),
 q 0 (.g .h1 .h7 true d27 (.op (.mv r11))),
 q 0 (.g .h1 .h7 true d28 (.op (.bin .add r26 r27))),
 q 0 (.g .h1 .h7 true d29 (.op (.ixs 3 r25 r28))),
 q 0 (.g .h1 .h7 true d30 (.op (.ldn 3 r29))),
 q 0 (.g .h1 .h7 true d31 (.op (.mv r0))),
 q 0 (.g .h1 .h7 true d32 (.op (.mv r3))),
 q 0 (.g .h1 .h7 true d33 (.op (.mv r11))),
 q 0 (.g .h1 .h7 true d34 (.op (.bin .add r32 r33))),
 q 0 (.g .h1 .h7 true d35 (.op (.bin .add r34 (.c (pi 1))))),
 q 0 (.g .h1 .h7 true d36 (.op (.ixs 3 r31 r35))),
 q 0 (.g .h1 .h7 true d37 (.op (.ldn 3 r36))),
 w (.g .h1 .h7 true d38 (.calld r24 [r30,r37])),
 q 0 (.g .h1 .h7 true d39 (.op (.bin .lt r38 (.c (pi 0))))),
 q 0 (o d40 (.pick r23 r39 (.c (.bool false))))]) c226_2) c226_3)))
def c226_0 : AC := (.seq (.ops [m d12 r1,
 m d10 r12])
 (.block 0 (.loop (.block 1 c226_1))))
def b226 : AC := c226_0
def s226 : List Rs := []
def c227_0 : AC := (.seq (.ops [m d2 (.c (.int .u64 (.ofNat 0)))])
 (.seq (.ops [m d3 r0,
 o d4 (.conv (.toInt .u64) r3),
 .o d5 (.call 203 [r4]),
 o d6 (.bin .shl (.c (.int .u64 (.ofNat 1))) r5),
 m d2 r6])
 .ret))
def b227 : AC := c227_0
def s227 : List Rs := [.t .h0 .h2]
def c228_1 : AC := (.seq (.drw [q 0 (m d21 r0),
 q 0 (o d22 (.nilc r21)),
 q 0 (o d23 (.ld1 r22)),
 q 0 (m d24 r0),
 q 0 (o d25 (.nilc r24)),
 q 0 (o d26 (.ld1 r25)),
 q 0 (o d27 (.bin .shl r26 (.c (.int .u64 (.ofNat 17))))),
 q 0 (o d28 (.bin .xor r23 r27)),
 q 0 (o d29 (.nilc r21)),
 w (o .no (.st1 r29 r28))])
 (.seq (.ops [m d30 r0,
 o d31 (.nilc r30),
 o d32 (.ld1 r31),
 m d2 r32])
 .ret))
def c228_0 : AC := (.seq (.ops [m d2 (.c (.int .u64 (.ofNat 0)))])
 (.seq (.drw [q 0 (m d3 r0),
 q 0 (o d4 (.nilc r3)),
 q 0 (o d5 (.ld1 r4)),
 q 0 (m d6 r0),
 q 0 (o d7 (.nilc r6)),
 q 0 (o d8 (.ld1 r7)),
 q 0 (o d9 (.bin .shl r8 (.c (.int .u64 (.ofNat 13))))),
 q 0 (o d10 (.bin .xor r5 r9)),
 q 0 (o d11 (.nilc r3)),
 w (o .no (.st1 r11 r10))])
 (.seq (.drw [q 0 (m d12 r0),
 q 0 (o d13 (.nilc r12)),
 q 0 (o d14 (.ld1 r13)),
 q 0 (m d15 r0),
 q 0 (o d16 (.nilc r15)),
 q 0 (o d17 (.ld1 r16)),
 q 0 (o d18 (.bin .shr r17 (.c (.int .u64 (.ofNat 7))))),
 q 0 (o d19 (.bin .xor r14 r18)),
 q 0 (o d20 (.nilc r12)),
 w (o .no (.st1 r20 r19))])
 c228_1)))
def b228 : AC := c228_0
def s228 : List Rs := [.t .h0 .h2]
def c229_0 : AC := (.seq (.ops [m d8 (.c (pi 0))])
 (.seq (.ops [m d9 r0,
 m d10 r1,
 o d11 (.bin .sub r10 (.c (pi 1))),
 m d12 r1,
 m d13 r1,
 o d14 (.bin .add r13 (.c (pi 1))),
 m d15 r2,
 m d16 r3,
 .o d17 (.call 230 [r9,r11,r12,r14,r15,r16]),
 m d8 r17])
 .ret))
def b229 : AC := c229_0
def s229 : List Rs := [.t .h0 .h8]
def c230_1 : AC := (.seq (.ops [m d32 r0,
 m d33 r1,
 m d34 r2,
 m d35 r4,
 m d36 r5,
 .o d37 (.call 234 [r32,r33,r34,r35,r36]),
 m d31 r37,
 o d38 (.ext 0 r31),
 o d39 (.ext 1 r31),
 m d1 r38,
 m d2 r39])
 (.seq (.ops [m d40 r2,
 m d12 r40])
 .ret))
def c230_0 : AC := (.seq (.ops [m d12 (.c (pi 0))])
 (.seq (.ops [m d14 r0,
 m d15 r1,
 m d16 r2,
 m d17 r4,
 m d18 r5,
 .o d19 (.call 234 [r14,r15,r16,r17,r18]),
 m d13 r19,
 o d20 (.ext 0 r13),
 o d21 (.ext 1 r13),
 m d1 r20,
 m d2 r21])
 (.seq (.ops [m d23 r0,
 m d24 r2,
 m d25 r3,
 m d26 r4,
 m d27 r5,
 .o d28 (.call 234 [r23,r24,r25,r26,r27]),
 m d22 r28,
 o d29 (.ext 0 r22),
 o d30 (.ext 1 r22),
 m d2 r29,
 m d3 r30])
 c230_1)))
def b230 : AC := c230_0
def s230 : List Rs := [.t .h0 .hc]
def c231_2 : AC := (.cond r36 (.ops [m d37 r9,
 o d38 (.bin .add r37 (.c (pi 1))),
 m d9 r38])
 .skip)
def c231_4 : AC := (.ops [m d75 r9,
 m d8 r75])
def c231_3 : AC := (.seq (.seq (.drw [q 0 (m d39 r0),
 q 0 (m d40 r3),
 q 0 (m d41 r8),
 q 0 (o d42 (.bin .add r40 r41)),
 q 0 (o d43 (.ixs 1 r39 r42)),
 q 0 (o d44 (.ld1 r43)),
 q 0 (m d45 r0),
 q 0 (m d46 r3),
 q 0 (m d47 r9),
 q 0 (o d48 (.bin .add r46 r47)),
 q 0 (o d49 (.ixs 1 r45 r48)),
 q 0 (o d50 (.ld1 r49)),
 w (.o d51 (.call 223 [r44,r50])),
 q 0 (o d52 (.un .not r51))])
 (.cond r52 .ret
 .skip))
 (.seq (.drw [q 0 (m d53 r0),
 q 0 (m d54 r3),
 q 0 (m d55 r8),
 q 0 (o d56 (.bin .add r54 r55)),
 q 0 (m d61 r0),
 q 0 (m d62 r3),
 q 0 (m d63 r9),
 q 0 (o d64 (.bin .add r62 r63)),
 q 0 (o d65 (.ixs 1 r61 r64)),
 q 0 (o d66 (.ld1 r65)),
 q 0 (m d67 r0),
 q 0 (m d68 r3),
 q 0 (m d69 r8),
 q 0 (o d70 (.bin .add r68 r69)),
 q 0 (o d71 (.ixs 1 r67 r70)),
 q 0 (o d72 (.ld1 r71)),
 q 0 (o d73 (.ixs 1 r53 r56)),
 w (o .no (.st1 r73 r66)),
 q 1 (m d57 r0),
 q 1 (m d58 r3),
 q 1 (m d59 r9),
 q 1 (o d60 (.bin .add r58 r59)),
 q 0 (o d74 (.ixs 1 r57 r60)),
 w (o .no (.st1 r74 r72))]) c231_4))
def c231_1 : AC := (.seq (.ops [m d11 r8,
 o d12 (.bin .mul (.c (pi 2)) r11),
 o d13 (.bin .add r12 (.c (pi 1))),
 m d9 r13])
 (.seq (.seq (.ops [m d14 r9,
 m d15 r2,
 o d16 (.bin .ge r14 r15)])
 (.cond r16 (.exit 0)
 .skip))
 (.seq (.seq (.drw [q 0 (m d17 r9),
 q 0 (o d18 (.bin .add r17 (.c (pi 1)))),
 q 0 (m d19 r2),
 q 0 (o d20 (.bin .lt r18 r19)),
 q 0 (m d21 r20),
 q 0 (.g .h1 .h5 true d22 (.op (.mv r0))),
 q 0 (.g .h1 .h5 true d23 (.op (.mv r3))),
 q 0 (.g .h1 .h5 true d24 (.op (.mv r9))),
 q 0 (.g .h1 .h5 true d25 (.op (.bin .add r23 r24))),
 q 0 (.g .h1 .h5 true d26 (.op (.ixs 1 r22 r25))),
 q 0 (.g .h1 .h5 true d27 (.op (.ld1 r26))),
 q 0 (.g .h1 .h5 true d28 (.op (.mv r0))),
 q 0 (.g .h1 .h5 true d29 (.op (.mv r3))),
 q 0 (.g .h1 .h5 true d30 (.op (.mv r9))),
 q 0 (.g .h1 .h5 true d31 (.op (.bin .add r29 r30))),
 q 0 (.g .h1 .h5 true d32 (.op (.bin .add r31 (.c (pi 1))))),
 q 0 (.g .h1 .h5 true d33 (.op (.ixs 1 r28 r32))),
 q 0 (.g .h1 .h5 true d34 (.op (.ld1 r33))),
 w (.g .h1 .h5 true d35 (.call 223 [r27,r34])),
 q 0 (o d36 (.pick r21 r35 (.c (.bool false))))]) c231_2) c231_3)))
def c231_0 : AC := (.seq (.ops [m d10 r1,
 m d8 r10])
 (.block 0 (.loop (.block 1 c231_1))))
def b231 : AC := c231_0
def s231 : List Rs := []
def c232_0 : AC := (.seq (.ops [m d6 (.c (pi 0))])
 (.seq (.ops [m d7 r0,
 m d8 r1,
 o d9 (.bin .sub r8 (.c (pi 1))),
 m d10 r1,
 m d11 r1,
 o d12 (.bin .add r11 (.c (pi 1))),
 m d13 r2,
 .o d14 (.call 233 [r7,r9,r10,r12,r13]),
 m d6 r14])
 .ret))
def b232 : AC := c232_0
def s232 : List Rs := [.t .h0 .h6]
def c233_1 : AC := (.seq (.ops [m d28 r0,
 m d29 r1,
 m d30 r2,
 m d31 r4,
 .o d32 (.call 235 [r28,r29,r30,r31]),
 m d27 r32,
 o d33 (.ext 0 r27),
 o d34 (.ext 1 r27),
 m d1 r33,
 m d2 r34])
 (.seq (.ops [m d35 r2,
 m d10 r35])
 .ret))
def c233_0 : AC := (.seq (.ops [m d10 (.c (pi 0))])
 (.seq (.ops [m d12 r0,
 m d13 r1,
 m d14 r2,
 m d15 r4,
 .o d16 (.call 235 [r12,r13,r14,r15]),
 m d11 r16,
 o d17 (.ext 0 r11),
 o d18 (.ext 1 r11),
 m d1 r17,
 m d2 r18])
 (.seq (.ops [m d20 r0,
 m d21 r2,
 m d22 r3,
 m d23 r4,
 .o d24 (.call 235 [r20,r21,r22,r23]),
 m d19 r24,
 o d25 (.ext 0 r19),
 o d26 (.ext 1 r19),
 m d2 r25,
 m d3 r26])
 c233_1)))
def b233 : AC := c233_0
def s233 : List Rs := [.t .h0 .ha]
def c234_2 : AC := (.seq (.ops [m d30 r1,
 m d31 r2,
 m d10 r30,
 m d11 r31])
 .ret)
def c234_1 : AC := (.seq (.seq (.drw [q 0 (m d12 r4),
 q 0 (m d13 r0),
 q 0 (m d14 r2),
 q 0 (o d15 (.ixs 3 r13 r14)),
 q 0 (o d16 (.ldn 3 r15)),
 q 0 (m d17 r0),
 q 0 (m d18 r1),
 q 0 (o d19 (.ixs 3 r17 r18)),
 q 0 (o d20 (.ldn 3 r19)),
 w (.o d21 (.calld r12 [r16,r20])),
 q 0 (o d22 (.bin .lt r21 (.c (pi 0))))])
 (.cond r22 (.seq (.ops [m d23 r3,
 o d24 (.nilc r23),
 o d25 (.ld1 r24),
 o d26 (.bin .add r25 (.c (pi 1))),
 o d27 (.nilc r23),
 o .no (.st1 r27 r26)])
 (.seq (.ops [m d28 r2,
 m d29 r1,
 m d10 r28,
 m d11 r29])
 .ret))
 .skip))
 c234_2)
def c234_0 : AC := (.seq (.ops [m d10 (.c (pi 0)),
 m d11 (.c (pi 0))])
 c234_1)
def b234 : AC := c234_0
def s234 : List Rs := [.t .h0 .ha,.t .h0 .hb]
def c235_1 : AC := (.seq (.ops [m d26 r1,
 m d27 r2,
 m d8 r26,
 m d9 r27])
 .ret)
def c235_0 : AC := (.seq (.ops [m d8 (.c (pi 0)),
 m d9 (.c (pi 0))])
 (.seq (.seq (.drw [q 0 (m d10 r0),
 q 0 (m d11 r2),
 q 0 (o d12 (.ixs 1 r10 r11)),
 q 0 (o d13 (.ld1 r12)),
 q 0 (m d14 r0),
 q 0 (m d15 r1),
 q 0 (o d16 (.ixs 1 r14 r15)),
 q 0 (o d17 (.ld1 r16)),
 w (.o d18 (.call 223 [r13,r17]))])
 (.cond r18 (.seq (.ops [m d19 r3,
 o d20 (.nilc r19),
 o d21 (.ld1 r20),
 o d22 (.bin .add r21 (.c (pi 1))),
 o d23 (.nilc r19),
 o .no (.st1 r23 r22)])
 (.seq (.ops [m d24 r2,
 m d25 r1,
 m d8 r24,
 m d9 r25])
 .ret))
 .skip))
 c235_1))
def b235 : AC := c235_0
def s235 : List Rs := [.t .h0 .h8,.t .h0 .h9]
def c252_0 : AC := (.seq (.ops [m d26 r4])
 (.cond r26 (.ops [m d27 r0,
 m d28 r1,
 m d29 r2,
 m d30 r3,
 .o d31 (.call 253 [r27,r28,r29,r30])])
 .skip))
def b252 : AC := (.seq (.drw [q 0 (m d19 r3),
 w (o d20 (.bslice 9 1 1 [(.str [])] [.mk 0 1 r19])),
 q 1 (m d12 r0),
 q 1 (m d13 r1),
 q 1 (o d14 (.nilc r12)),
 q 1 (o d15 (.fad 0 r14)),
 q 1 (o d16 (.ixa 5 3 r15 r13)),
 q 1 (o d17 (.fad 2 r16)),
 q 1 (o d18 (.ld1 r17)),
 w (o d21 (.app 9 1 r18 r20)),
 q 2 (m d10 r0),
 q 2 (m d11 r1),
 q 2 (o d22 (.nilc r10)),
 q 2 (o d23 (.fad 0 r22)),
 q 0 (o d24 (.ixa 5 3 r23 r11)),
 q 0 (o d25 (.fad 2 r24)),
 w (o .no (.st1 r25 r21))]) c252_0)
def s252 : List Rs := []
def c253_0 : AC := (.ops [m d8 r0,
 m d9 r0,
 o d10 (.nilc r9),
 o d11 (.fad 15 r10),
 o d12 (.ld1 r11),
 m d13 r1,
 m d14 r3,
 m d15 r2,
 o d16 (.build [(pi 0),(pi 0),(.str []),(pi 0)] [.mk 0 1 (.c (pi 1)),.mk 1 1 r13,.mk 2 1 r14,.mk 3 1 r15]),
 o d17 (.bslice 36 4 1 [(pi 0),(pi 0),(.str []),(pi 0)] [.mk 0 4 r16]),
 o d18 (.app 36 4 r12 r17),
 o d19 (.nilc r8),
 o d20 (.fad 15 r19),
 o .no (.st1 r20 r18)])
def b253 : AC := c253_0
def s253 : List Rs := []
def c254_1 : AC := (.ops [m d29 r8,
 m d30 r8,
 m d31 r2,
 m d32 r3,
 o d33 (.nilc r29),
 o d34 (.fad 0 r33),
 o .no (.st1 r34 r31),
 o d35 (.nilc r30),
 o d36 (.fad 1 r35),
 o .no (.st1 r36 r32)])
def c254_0 : AC := (.seq (.ops [m d9 r0,
 m d10 r1,
 o d11 (.nilc r9),
 o d12 (.fad 0 r11),
 o d13 (.ixa 5 3 r12 r10),
 m d8 r13])
 (.seq (.drw [q 0 (m d15 r8),
 q 0 (o d16 (.nilc r15)),
 q 0 (o d17 (.fad 2 r16)),
 q 0 (o d18 (.ld1 r17)),
 q 0 (m d19 r2),
 q 0 (m d20 r8),
 q 0 (o d21 (.nilc r20)),
 q 0 (o d22 (.fad 0 r21)),
 q 0 (o d23 (.ld1 r22)),
 q 0 (o d24 (.bin .sub r19 r23)),
 q 0 (o d25 (.slc 1 r18 (.some r24) .none .none)),
 w (.o d26 (.call 39 [r25])),
 q 1 (m d14 r8),
 q 0 (o d27 (.nilc r14)),
 q 0 (o d28 (.fad 2 r27)),
 w (o .no (.st1 r28 r26))]) c254_1))
def b254 : AC := c254_0
def s254 : List Rs := []
def c255_0 : AC := (.ops [m d8 r0,
 m d9 r1,
 m d10 r2,
 m d11 r3,
 o d12 (.build [(pi 0),(.str []),.nils] [.mk 0 1 r10,.mk 1 1 r11,.mk 2 1 (.c .nils)]),
 o d13 (.nilc r8),
 o d14 (.fad 0 r13),
 o d15 (.ixa 5 3 r14 r9),
 o .no (.stn 3 r15 r12)])
def b255 : AC := c255_0
def s255 : List Rs := []
def c256_0 : AC := (.ops [m d8 r0,
 m d9 r0,
 o d10 (.nilc r9),
 o d11 (.fad 15 r10),
 o d12 (.ld1 r11),
 m d13 r1,
 m d14 r3,
 m d15 r2,
 o d16 (.build [(pi 0),(pi 0),(.str []),(pi 0)] [.mk 0 1 (.c (pi 2)),.mk 1 1 r13,.mk 2 1 r14,.mk 3 1 r15]),
 o d17 (.bslice 36 4 1 [(pi 0),(pi 0),(.str []),(pi 0)] [.mk 0 4 r16]),
 o d18 (.app 36 4 r12 r17),
 o d19 (.nilc r8),
 o d20 (.fad 15 r19),
 o .no (.st1 r20 r18)])
def b256 : AC := c256_0
def s256 : List Rs := []
end
end Go.Am.Seat
