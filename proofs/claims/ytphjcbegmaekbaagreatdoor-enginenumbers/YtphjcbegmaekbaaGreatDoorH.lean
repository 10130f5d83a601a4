/- Short names for registers and operations of the abstract machine. Nothing is asked. -/
import Derived.Test.YtphjcbegmaekbaaGreatDoorA
set_option linter.all false
namespace Go.Am.Seat
set_option maxRecDepth 20000
noncomputable section
def r0:AO:=.t .h0 .h0
def d0:aL:=.t .h0 .h0
def r1:AO:=.t .h0 .h1
def r2:AO:=.t .h0 .h2
def d2:aL:=.t .h0 .h2
def r3:AO:=.t .h0 .h3
def d3:aL:=.t .h0 .h3
def r4:AO:=.t .h0 .h4
def d4:aL:=.t .h0 .h4
def r5:AO:=.t .h0 .h5
def d5:aL:=.t .h0 .h5
def r6:AO:=.t .h0 .h6
def d6:aL:=.t .h0 .h6
def r7:AO:=.t .h0 .h7
def d7:aL:=.t .h0 .h7
def r8:AO:=.t .h0 .h8
def d8:aL:=.t .h0 .h8
def r9:AO:=.t .h0 .h9
def d9:aL:=.t .h0 .h9
def r10:AO:=.t .h0 .ha
def d10:aL:=.t .h0 .ha
def r11:AO:=.t .h0 .hb
def d11:aL:=.t .h0 .hb
def r12:AO:=.t .h0 .hc
def d12:aL:=.t .h0 .hc
def r13:AO:=.t .h0 .hd
def d13:aL:=.t .h0 .hd
def r14:AO:=.t .h0 .he
def d14:aL:=.t .h0 .he
def r15:AO:=.t .h0 .hf
def d15:aL:=.t .h0 .hf
def r16:AO:=.t .h1 .h0
def d16:aL:=.t .h1 .h0
def r17:AO:=.t .h1 .h1
def d17:aL:=.t .h1 .h1
def r18:AO:=.t .h1 .h2
def d18:aL:=.t .h1 .h2
def r19:AO:=.t .h1 .h3
def d19:aL:=.t .h1 .h3
def r20:AO:=.t .h1 .h4
def d20:aL:=.t .h1 .h4
def r21:AO:=.t .h1 .h5
def d21:aL:=.t .h1 .h5
def r22:AO:=.t .h1 .h6
def d22:aL:=.t .h1 .h6
def r23:AO:=.t .h1 .h7
def d23:aL:=.t .h1 .h7
def r24:AO:=.t .h1 .h8
def d24:aL:=.t .h1 .h8
def r25:AO:=.t .h1 .h9
def d25:aL:=.t .h1 .h9
def r26:AO:=.t .h1 .ha
def d26:aL:=.t .h1 .ha
def r27:AO:=.t .h1 .hb
def d27:aL:=.t .h1 .hb
def r28:AO:=.t .h1 .hc
def d28:aL:=.t .h1 .hc
def r29:AO:=.t .h1 .hd
def d29:aL:=.t .h1 .hd
def r30:AO:=.t .h1 .he
def d30:aL:=.t .h1 .he
def r31:AO:=.t .h1 .hf
def d31:aL:=.t .h1 .hf
def r32:AO:=.t .h2 .h0
def d32:aL:=.t .h2 .h0
def r33:AO:=.t .h2 .h1
def d33:aL:=.t .h2 .h1
def r34:AO:=.t .h2 .h2
def d34:aL:=.t .h2 .h2
def r35:AO:=.t .h2 .h3
def d35:aL:=.t .h2 .h3
def r36:AO:=.t .h2 .h4
def d36:aL:=.t .h2 .h4
def r37:AO:=.t .h2 .h5
def d37:aL:=.t .h2 .h5
def r38:AO:=.t .h2 .h6
def d38:aL:=.t .h2 .h6
def r39:AO:=.t .h2 .h7
def d39:aL:=.t .h2 .h7
def r40:AO:=.t .h2 .h8
def d40:aL:=.t .h2 .h8
def r41:AO:=.t .h2 .h9
def d41:aL:=.t .h2 .h9
def r42:AO:=.t .h2 .ha
def d42:aL:=.t .h2 .ha
def r43:AO:=.t .h2 .hb
def d43:aL:=.t .h2 .hb
def r44:AO:=.t .h2 .hc
def d44:aL:=.t .h2 .hc
def r45:AO:=.t .h2 .hd
def d45:aL:=.t .h2 .hd
def r46:AO:=.t .h2 .he
def d46:aL:=.t .h2 .he
def r47:AO:=.t .h2 .hf
def d47:aL:=.t .h2 .hf
def r48:AO:=.t .h3 .h0
def d48:aL:=.t .h3 .h0
def r49:AO:=.t .h3 .h1
def d49:aL:=.t .h3 .h1
def r50:AO:=.t .h3 .h2
def d50:aL:=.t .h3 .h2
def r51:AO:=.t .h3 .h3
def d51:aL:=.t .h3 .h3
def r52:AO:=.t .h3 .h4
def d52:aL:=.t .h3 .h4
def r53:AO:=.t .h3 .h5
def d53:aL:=.t .h3 .h5
def r54:AO:=.t .h3 .h6
def d54:aL:=.t .h3 .h6
def r55:AO:=.t .h3 .h7
def d55:aL:=.t .h3 .h7
def r56:AO:=.t .h3 .h8
def d56:aL:=.t .h3 .h8
def r57:AO:=.t .h3 .h9
def d57:aL:=.t .h3 .h9
def r58:AO:=.t .h3 .ha
def d58:aL:=.t .h3 .ha
def r59:AO:=.t .h3 .hb
def d59:aL:=.t .h3 .hb
def r60:AO:=.t .h3 .hc
def d60:aL:=.t .h3 .hc
def r61:AO:=.t .h3 .hd
def d61:aL:=.t .h3 .hd
def r62:AO:=.t .h3 .he
def d62:aL:=.t .h3 .he
def r63:AO:=.t .h3 .hf
def d63:aL:=.t .h3 .hf
def r64:AO:=.t .h4 .h0
def d64:aL:=.t .h4 .h0
def r65:AO:=.t .h4 .h1
def d65:aL:=.t .h4 .h1
def r66:AO:=.t .h4 .h2
def d66:aL:=.t .h4 .h2
def r67:AO:=.t .h4 .h3
def d67:aL:=.t .h4 .h3
def r68:AO:=.t .h4 .h4
def d68:aL:=.t .h4 .h4
def r69:AO:=.t .h4 .h5
def d69:aL:=.t .h4 .h5
def r70:AO:=.t .h4 .h6
def d70:aL:=.t .h4 .h6
def r71:AO:=.t .h4 .h7
def d71:aL:=.t .h4 .h7
def r72:AO:=.t .h4 .h8
def d72:aL:=.t .h4 .h8
def r73:AO:=.t .h4 .h9
def d73:aL:=.t .h4 .h9
def r74:AO:=.t .h4 .ha
def d74:aL:=.t .h4 .ha
def r75:AO:=.t .h4 .hb
def d75:aL:=.t .h4 .hb
def r76:AO:=.t .h4 .hc
def d76:aL:=.t .h4 .hc
def r77:AO:=.t .h4 .hd
def d77:aL:=.t .h4 .hd
def r78:AO:=.t .h4 .he
def d78:aL:=.t .h4 .he
def r79:AO:=.t .h4 .hf
def d79:aL:=.t .h4 .hf
def r80:AO:=.t .h5 .h0
def d80:aL:=.t .h5 .h0
def r81:AO:=.t .h5 .h1
def d81:aL:=.t .h5 .h1
def r82:AO:=.t .h5 .h2
def d82:aL:=.t .h5 .h2
def r83:AO:=.t .h5 .h3
def d83:aL:=.t .h5 .h3
def r84:AO:=.t .h5 .h4
def d84:aL:=.t .h5 .h4
def r85:AO:=.t .h5 .h5
def d85:aL:=.t .h5 .h5
def r86:AO:=.t .h5 .h6
def d86:aL:=.t .h5 .h6
def r87:AO:=.t .h5 .h7
def d87:aL:=.t .h5 .h7
def r88:AO:=.t .h5 .h8
def d88:aL:=.t .h5 .h8
def r89:AO:=.t .h5 .h9
def d89:aL:=.t .h5 .h9
def r90:AO:=.t .h5 .ha
def d90:aL:=.t .h5 .ha
def r91:AO:=.t .h5 .hb
def d91:aL:=.t .h5 .hb
def r92:AO:=.t .h5 .hc
def d92:aL:=.t .h5 .hc
def r93:AO:=.t .h5 .hd
def d93:aL:=.t .h5 .hd
def r94:AO:=.t .h5 .he
def d94:aL:=.t .h5 .he
def r95:AO:=.t .h5 .hf
def d95:aL:=.t .h5 .hf
def r96:AO:=.t .h6 .h0
def d96:aL:=.t .h6 .h0
def r97:AO:=.t .h6 .h1
def d97:aL:=.t .h6 .h1
def r98:AO:=.t .h6 .h2
def d98:aL:=.t .h6 .h2
def r99:AO:=.t .h6 .h3
def d99:aL:=.t .h6 .h3
def r100:AO:=.t .h6 .h4
def d100:aL:=.t .h6 .h4
def r101:AO:=.t .h6 .h5
def d101:aL:=.t .h6 .h5
def r102:AO:=.t .h6 .h6
def d102:aL:=.t .h6 .h6
def r103:AO:=.t .h6 .h7
def d103:aL:=.t .h6 .h7
def r104:AO:=.t .h6 .h8
def d104:aL:=.t .h6 .h8
def r105:AO:=.t .h6 .h9
def d105:aL:=.t .h6 .h9
def r106:AO:=.t .h6 .ha
def d106:aL:=.t .h6 .ha
def r107:AO:=.t .h6 .hb
def d107:aL:=.t .h6 .hb
def r108:AO:=.t .h6 .hc
def d108:aL:=.t .h6 .hc
def r109:AO:=.t .h6 .hd
def d109:aL:=.t .h6 .hd
def r110:AO:=.t .h6 .he
def d110:aL:=.t .h6 .he
def r111:AO:=.t .h6 .hf
def d111:aL:=.t .h6 .hf
def r112:AO:=.t .h7 .h0
def d112:aL:=.t .h7 .h0
def r113:AO:=.t .h7 .h1
def d113:aL:=.t .h7 .h1
def r114:AO:=.t .h7 .h2
def d114:aL:=.t .h7 .h2
def r115:AO:=.t .h7 .h3
def d115:aL:=.t .h7 .h3
def r116:AO:=.t .h7 .h4
def d116:aL:=.t .h7 .h4
def r117:AO:=.t .h7 .h5
def d117:aL:=.t .h7 .h5
def r118:AO:=.t .h7 .h6
def d118:aL:=.t .h7 .h6
def r119:AO:=.t .h7 .h7
def d119:aL:=.t .h7 .h7
def r120:AO:=.t .h7 .h8
def d120:aL:=.t .h7 .h8
def r121:AO:=.t .h7 .h9
def d121:aL:=.t .h7 .h9
def r122:AO:=.t .h7 .ha
def d122:aL:=.t .h7 .ha
def r123:AO:=.t .h7 .hb
def d123:aL:=.t .h7 .hb
def r124:AO:=.t .h7 .hc
def d124:aL:=.t .h7 .hc
def r125:AO:=.t .h7 .hd
def d125:aL:=.t .h7 .hd
def r126:AO:=.t .h7 .he
def d126:aL:=.t .h7 .he
def r127:AO:=.t .h7 .hf
def d127:aL:=.t .h7 .hf
def r128:AO:=.t .h8 .h0
def r129:AO:=.t .h8 .h1
def d129:aL:=.t .h8 .h1
def r130:AO:=.t .h8 .h2
def d130:aL:=.t .h8 .h2
def r131:AO:=.t .h8 .h3
def d131:aL:=.t .h8 .h3
def r132:AO:=.t .h8 .h4
def d132:aL:=.t .h8 .h4
def r133:AO:=.t .h8 .h5
def d133:aL:=.t .h8 .h5
def r134:AO:=.t .h8 .h6
def d134:aL:=.t .h8 .h6
def r135:AO:=.t .h8 .h7
def d135:aL:=.t .h8 .h7
def r136:AO:=.t .h8 .h8
def d136:aL:=.t .h8 .h8
def r137:AO:=.t .h8 .h9
def d137:aL:=.t .h8 .h9
def r138:AO:=.t .h8 .ha
def d138:aL:=.t .h8 .ha
def r139:AO:=.t .h8 .hb
def d139:aL:=.t .h8 .hb
def r140:AO:=.t .h8 .hc
def d140:aL:=.t .h8 .hc
def r141:AO:=.t .h8 .hd
def d141:aL:=.t .h8 .hd
def r142:AO:=.t .h8 .he
def d142:aL:=.t .h8 .he
def r143:AO:=.t .h8 .hf
def d143:aL:=.t .h8 .hf
def r144:AO:=.t .h9 .h0
def d144:aL:=.t .h9 .h0
def r145:AO:=.t .h9 .h1
def d145:aL:=.t .h9 .h1
def r146:AO:=.t .h9 .h2
def d146:aL:=.t .h9 .h2
def r147:AO:=.t .h9 .h3
def d147:aL:=.t .h9 .h3
def r148:AO:=.t .h9 .h4
def d148:aL:=.t .h9 .h4
def r149:AO:=.t .h9 .h5
def d149:aL:=.t .h9 .h5
def r150:AO:=.t .h9 .h6
def d150:aL:=.t .h9 .h6
def r151:AO:=.t .h9 .h7
def d151:aL:=.t .h9 .h7
def r152:AO:=.t .h9 .h8
def d152:aL:=.t .h9 .h8
def r153:AO:=.t .h9 .h9
def d153:aL:=.t .h9 .h9
def d154:aL:=.t .h9 .ha
def r167:AO:=.t .ha .h7
def r186:AO:=.t .hb .ha
def r188:AO:=.t .hb .hc
def d188:aL:=.t .hb .hc
def r189:AO:=.t .hb .hd
def d189:aL:=.t .hb .hd
def r190:AO:=.t .hb .he
def d190:aL:=.t .hb .he
def r191:AO:=.t .hb .hf
def d191:aL:=.t .hb .hf
def r192:AO:=.t .hc .h0
def d192:aL:=.t .hc .h0
def r193:AO:=.t .hc .h1
def d193:aL:=.t .hc .h1
def r194:AO:=.t .hc .h2
def d194:aL:=.t .hc .h2
def r195:AO:=.t .hc .h3
def d195:aL:=.t .hc .h3
def r196:AO:=.t .hc .h4
def d196:aL:=.t .hc .h4
def r197:AO:=.t .hc .h5
def d197:aL:=.t .hc .h5
def r198:AO:=.t .hc .h6
def d198:aL:=.t .hc .h6
def r199:AO:=.t .hc .h7
def d199:aL:=.t .hc .h7
def r200:AO:=.t .hc .h8
def d200:aL:=.t .hc .h8
def r201:AO:=.t .hc .h9
def d201:aL:=.t .hc .h9
def r202:AO:=.t .hc .ha
def d202:aL:=.t .hc .ha
def r203:AO:=.t .hc .hb
def d203:aL:=.t .hc .hb
def r204:AO:=.t .hc .hc
def d204:aL:=.t .hc .hc
def r205:AO:=.t .hc .hd
def d205:aL:=.t .hc .hd
def r206:AO:=.t .hc .he
def d206:aL:=.t .hc .he
def r220:AO:=.t .hd .hc
def d220:aL:=.t .hd .hc
def r221:AO:=.t .hd .hd
def d221:aL:=.t .hd .hd
def r222:AO:=.t .hd .he
def d222:aL:=.t .hd .he
def r223:AO:=.t .hd .hf
def d223:aL:=.t .hd .hf
def r224:AO:=.t .he .h0
def d224:aL:=.t .he .h0
def r225:AO:=.t .he .h1
def d225:aL:=.t .he .h1
def r226:AO:=.t .he .h2
def d226:aL:=.t .he .h2
def r227:AO:=.t .he .h3
def d227:aL:=.t .he .h3
def r228:AO:=.t .he .h4
def d228:aL:=.t .he .h4
def d229:aL:=.t .he .h5
def u:AV:=.undef
abbrev KF:=Cf→Iv→(A2→Hp→RS)→A2→Hp→RS
def a0:AO:=.c (.int .i64 (.ofNat 0))
def a1:AO:=.c (.int .i64 (.ofNat 1))
def a2:AO:=.c (.int .i64 (.ofNat 2))
def m (d:aL) (x:AO):GI:=.o d (.op (.mv x))
def y0 (r:A2):AV:=aw .h0 .h0 r
def y1 (r:A2):AV:=aw .h0 .h1 r
def y2 (r:A2):AV:=aw .h0 .h2 r
def y3 (r:A2):AV:=aw .h0 .h3 r
def y4 (r:A2):AV:=aw .h0 .h4 r
def y5 (r:A2):AV:=aw .h0 .h5 r
def y6 (r:A2):AV:=aw .h0 .h6 r
def y7 (r:A2):AV:=aw .h0 .h7 r
def y8 (r:A2):AV:=aw .h0 .h8 r
def y9 (r:A2):AV:=aw .h0 .h9 r
def y10 (r:A2):AV:=aw .h0 .ha r
def y11 (r:A2):AV:=aw .h0 .hb r
def y12 (r:A2):AV:=aw .h0 .hc r
def y13 (r:A2):AV:=aw .h0 .hd r
def y14 (r:A2):AV:=aw .h0 .he r
def y15 (r:A2):AV:=aw .h0 .hf r
def y16 (r:A2):AV:=aw .h1 .h0 r
def y17 (r:A2):AV:=aw .h1 .h1 r
def y18 (r:A2):AV:=aw .h1 .h2 r
def y19 (r:A2):AV:=aw .h1 .h3 r
def y21 (r:A2):AV:=aw .h1 .h5 r
def y22 (r:A2):AV:=aw .h1 .h6 r
def y23 (r:A2):AV:=aw .h1 .h7 r
def y25 (r:A2):AV:=aw .h1 .h9 r
def y26 (r:A2):AV:=aw .h1 .ha r
def y27 (r:A2):AV:=aw .h1 .hb r
def y28 (r:A2):AV:=aw .h1 .hc r
def y29 (r:A2):AV:=aw .h1 .hd r
def y30 (r:A2):AV:=aw .h1 .he r
def y31 (r:A2):AV:=aw .h1 .hf r
def y32 (r:A2):AV:=aw .h2 .h0 r
def y33 (r:A2):AV:=aw .h2 .h1 r
def y34 (r:A2):AV:=aw .h2 .h2 r
def y35 (r:A2):AV:=aw .h2 .h3 r
def y40 (r:A2):AV:=aw .h2 .h8 r
def y41 (r:A2):AV:=aw .h2 .h9 r
def y42 (r:A2):AV:=aw .h2 .ha r
def y43 (r:A2):AV:=aw .h2 .hb r
def y44 (r:A2):AV:=aw .h2 .hc r
def y48 (r:A2):AV:=aw .h3 .h0 r
def y50 (r:A2):AV:=aw .h3 .h2 r
def y52 (r:A2):AV:=aw .h3 .h4 r
def y53 (r:A2):AV:=aw .h3 .h5 r
def y54 (r:A2):AV:=aw .h3 .h6 r
def y59 (r:A2):AV:=aw .h3 .hb r
def y60 (r:A2):AV:=aw .h3 .hc r
def y62 (r:A2):AV:=aw .h3 .he r
def y63 (r:A2):AV:=aw .h3 .hf r
def y65 (r:A2):AV:=aw .h4 .h1 r
def y67 (r:A2):AV:=aw .h4 .h3 r
def y68 (r:A2):AV:=aw .h4 .h4 r
def y69 (r:A2):AV:=aw .h4 .h5 r
def y81 (r:A2):AV:=aw .h5 .h1 r
def y83 (r:A2):AV:=aw .h5 .h3 r
def y84 (r:A2):AV:=aw .h5 .h4 r
def y86 (r:A2):AV:=aw .h5 .h6 r
def y93 (r:A2):AV:=aw .h5 .hd r
def y97 (r:A2):AV:=aw .h6 .h1 r
def y98 (r:A2):AV:=aw .h6 .h2 r
def y120 (r:A2):AV:=aw .h7 .h8 r
def y121 (r:A2):AV:=aw .h7 .h9 r
def y139 (r:A2):AV:=aw .h8 .hb r
def y151 (r:A2):AV:=aw .h9 .h7 r
def y154 (r:A2):AV:=aw .h9 .ha r
def y229 (r:A2):AV:=aw .he .h5 r
def N0 (a0:A1):A2:=.mk a0 .nil .nil .nil .nil .nil .nil .nil .nil .nil .nil .nil .nil .nil .nil .nil
def N1 (a0 a1:A1):A2:=.mk a0 a1 .nil .nil .nil .nil .nil .nil .nil .nil .nil .nil .nil .nil .nil .nil
def N2 (a0 a1 a2:A1):A2:=.mk a0 a1 a2 .nil .nil .nil .nil .nil .nil .nil .nil .nil .nil .nil .nil .nil
def N3 (a0 a1 a2 a3:A1):A2:=.mk a0 a1 a2 a3 .nil .nil .nil .nil .nil .nil .nil .nil .nil .nil .nil .nil
def N4 (a0 a1 a2 a3 a4:A1):A2:=.mk a0 a1 a2 a3 a4 .nil .nil .nil .nil .nil .nil .nil .nil .nil .nil .nil
def N5 (a0 a1 a2 a3 a4 a5:A1):A2:=.mk a0 a1 a2 a3 a4 a5 .nil .nil .nil .nil .nil .nil .nil .nil .nil .nil
def N6 (a0 a1 a2 a3 a4 a5 a6:A1):A2:=.mk a0 a1 a2 a3 a4 a5 a6 .nil .nil .nil .nil .nil .nil .nil .nil .nil
def N7 (a0 a1 a2 a3 a4 a5 a6 a7:A1):A2:=.mk a0 a1 a2 a3 a4 a5 a6 a7 .nil .nil .nil .nil .nil .nil .nil .nil
def N8 (a0 a1 a2 a3 a4 a5 a6 a7 a8:A1):A2:=.mk a0 a1 a2 a3 a4 a5 a6 a7 a8 .nil .nil .nil .nil .nil .nil .nil
def N9 (a0 a1 a2 a3 a4 a5 a6 a7 a8 a9:A1):A2:=.mk a0 a1 a2 a3 a4 a5 a6 a7 a8 a9 .nil .nil .nil .nil .nil .nil
def N10 (a0 a1 a2 a3 a4 a5 a6 a7 a8 a9 a10:A1):A2:=.mk a0 a1 a2 a3 a4 a5 a6 a7 a8 a9 a10 .nil .nil .nil .nil .nil
def N11 (a0 a1 a2 a3 a4 a5 a6 a7 a8 a9 a10 a11:A1):A2:=.mk a0 a1 a2 a3 a4 a5 a6 a7 a8 a9 a10 a11 .nil .nil .nil .nil
def pi (n:Nat):AV:=.int .i64 (.ofNat n)
def ni (n:Nat):AV:=.int .i64 (.negSucc n)
def o (d:aL) (x:ox):GI:=.o d (.op x)
def w (g:GI):DI:=.mk .dQ g
def q (n:Nat) (g:GI):DI:=.mk (.rd n) g
def n (g:GI):DI:=.mk .new g
def tR (x:RV) (k:AV→Hp→RS):RS:=RV.rec k (fun n=>.err n) x
def tT (x:RT) (k:AV→Hp→RS):RS:=RT.elim k (fun n=>.err n) (fun n ih=>.ch n ih) x
def ifR (x:AV) (a b:RS):RS:=AV.bE x (fun t=>Bool.rec b a t) (.err 213)
def gd (x:AV) (w:Bool) (a b:RS):RS:=AV.bE (gb w x) (fun t=>Bool.rec b a (eK t w)) (.err 210)
def ld (x:AV) (h:Hp):RV:=iD (.c x) .nil h
def fa (d:Nat) (x:AV) (h:Hp):RV:=qO d (.c x) .nil h
def ix (es:Nat) (x y:AV) (h:Hp):RV:=qP es (.c x) (.c y) .nil h
def lD (x:AV) (h:Hp):RV:=AV.eN x (fun i o=>Obj.br (aq i h) (fun _ n _ _ c=>Bool.casesOn (Km o n) (.err 13) (.ok (eC o c) h)) (.err 14)) (.err 15)
def kY (m:Nat) (x:AV) (h:Hp):RV:=AV.eN x (fun i o=>Obj.br (aq i h) (fun _ n _ _ c=>Bool.casesOn (Nat.ble (Nat.add o m) n) (.err 16) (.ok (.agg (bu m c o)) h)) (.err 17)) (.err 18)
def sT (x y:AV) (h:Hp):RV:=AV.eN x (fun i o=>Obj.br (aq i h) (fun el n ex fl c=>Bool.casesOn (wr fl) (.err 19) (Bool.casesOn (Bool.and (Km o n) y.one) (.err 20) (.ok .undef (cG i (.cells el n ex fl (uH o y c)) h)))) (.err 21)) (.err 22)
def vg (m:Nat) (x y:AV) (h:Hp):RV:=AV.eN x (fun i o=>Obj.br (aq i h) (fun el n ex fl c=>Bool.casesOn (wr fl) (.err 23) (Bool.casesOn (Nat.ble (Nat.add o m) n) (.err 24) (AV.lO y (fun l=>Bool.casesOn (Nat.beq l.length m) (.err 25) (.ok .undef (cG i (.cells el n ex fl (fq l o c)) h))) (.err 26)))) (.err 27)) (.err 28)
def nC (x:AV) (h:Hp):RV:=OP.casesOn x.ft (qm x h) (fun i o=>.ok (.ptr i o) h)
def fA (d:Nat) (x:AV) (h:Hp):RV:=AV.eN x (fun i o=>.ok (.ptr i (Nat.add o d)) h) (.err 51)
def iX (es:Nat) (x y:AV) (h:Hp):RV:=eo y (fun k=>AV.jj x (fun i o n _=>CQ es i o n k h) (fun i o n _=>CQ es i o n k h) (.err 54) (.err 55)) (.err 55)
def ixa (n es:Nat) (x y:AV) (h:Hp):RV:=eo y (fun k=>AV.eN x (fun i o=>CQ es i o n k h) (.err 56)) (.err 56)
def ext (i:Nat) (x:AV) (h:Hp):RV:=AV.Bm x (fun l=>List.casesOn (List.drop i l) (.err 59) (fun v _=>.ok v h)) (.err 59)
def fl (d:Nat) (x:AV) (h:Hp):RV:=AV.lO x (fun l=>List.casesOn (List.drop d l) (.err 52) (fun v _=>.ok v h)) (.err 52)
def bx (el:Nat) (x:AV) (h:Hp):RV:=OL.casesOn x.asAgg (Bool.casesOn x.one (.err 134) (Ln el (.cons x .nil) h)) (fun l=>Ln el l h)
def alo (e n:Nat) (c:Cl) (h:Hp):RV:=oB e true .plain n c h wt
def bl (z:List AV) (ps:List Part) (h:Hp):RV:=jk z ps .nil h
def bs (e s n:Nat) (z:List AV) (ps:List Part) (h:Hp):RV:=fQ e s n z ps .nil h
def mkm (h:Hp):RV:=qy .nil h
def cd (c:Cf) (x:AV) (l:List AV) (h:Hp):RT:=AV.EK x (fun f cs=>c f (List.append l cs) h) (.err 202)
def gD (x:AV) (w:Bool) (f:(AV→Hp→RS)→RS) (h:Hp) (k:AV→Hp→RS):RS:=gd x w (f k) (k cm h)
def I (x:AV) (a b:RS):RS:=AV.bE x (fun t=>Bool.rec b a t) (.err 213)
def C (c:Cf) (f:Nat) (l:List AV) (h:Hp) (k:AV→Hp→RS):RS:=RT.elim k (fun n=>.err n) (fun n ih=>.ch n ih) (c f l h)
def A (a:Nat) (b:AV) (h:Hp) (k:AV→Hp→RS):RS:=RV.rec k (fun n=>.err n) (fA a b h)
def L (a:AV) (h:Hp) (k:AV→Hp→RS):RS:=RV.rec k (fun n=>.err n) (lD a h)
def J (a:AV) (h:Hp) (k:AV→Hp→RS):RS:=RV.rec k (fun n=>.err n) (nC a h)
def D (a b:AV) (h:Hp) (k:AV→Hp→RS):RS:=RV.rec k (fun n=>.err n) (jS a b h)
def M (a:Nat) (b:AV) (h:Hp) (k:AV→Hp→RS):RS:=RV.rec k (fun n=>.err n) (kY a b h)
def E (a:Nat) (b:AV) (h:Hp) (k:AV→Hp→RS):RS:=RV.rec k (fun n=>.err n) (ext a b h)
def S (a:Nat) (b d:AV) (h:Hp) (k:AV→Hp→RS):RS:=RV.rec k (fun n=>.err n) (vg a b d h)
def W (a b:AV) (h:Hp) (k:AV→Hp→RS):RS:=RV.rec k (fun n=>.err n) (sT a b h)
def O (a b:Nat) (d:Cl) (h:Hp) (k:AV→Hp→RS):RS:=RV.rec k (fun n=>.err n) (alo a b d h)
def Y (a b:AV) (h:Hp) (k:AV→Hp→RS):RS:=RV.rec k (fun n=>.err n) (xW a b h)
def G (a:AV) (h:Hp) (k:AV→Hp→RS):RS:=RV.rec k (fun n=>.err n) (len a h)
def B (a:Nat) (b:AV) (h:Hp) (k:AV→Hp→RS):RS:=RV.rec k (fun n=>.err n) (bx a b h)
def U (a:List AV) (b:List Part) (h:Hp) (k:AV→Hp→RS):RS:=RV.rec k (fun n=>.err n) (bl a b h)
def Q (a b:AV) (h:Hp) (k:AV→Hp→RS):RS:=RV.rec k (fun n=>.err n) (zI a b h)
def X (a:Nat) (b d:AV) (h:Hp) (k:AV→Hp→RS):RS:=RV.rec k (fun n=>.err n) (iX a b d h)
def Z (a b:AV) (h:Hp) (k:AV→Hp→RS):RS:=RV.rec k (fun n=>.err n) (EL a b h)
def F (a:Nat) (b:AV) (h:Hp) (k:AV→Hp→RS):RS:=RV.rec k (fun n=>.err n) (fl a b h)
def i0:AV:=.int .i64 (.ofNat 0)
def i1:AV:=.int .i64 (.ofNat 1)
def iS:AV:=.str []
def of (d:aL) (k:Nat) (x:AO):GI:=.o d (.op (.dh k x))
def ol (d:aL) (x:AO):GI:=.o d (.op (.cY x))
def oj (d:aL) (x:AO):GI:=.o d (.op (.qm x))
def oe (d:aL) (k:Nat) (x:AO):GI:=.o d (.op (.ext k x))
def os (x y:AO):GI:=.o .no (.op (.st1 x y))
def oc (d:aL) (f:Nat) (l:List AO):GI:=.o d (.call f l)
def qf (n:Nat) (d:aL) (k:Nat) (x:AO):DI:=.mk (.rd n) (.o d (.op (.dh k x)))
def ql (n:Nat) (d:aL) (x:AO):DI:=.mk (.rd n) (.o d (.op (.cY x)))
def qj (n:Nat) (d:aL) (x:AO):DI:=.mk (.rd n) (.o d (.op (.qm x)))
def Y1 (a0:AV):A1:=.mk a0 u u u u u u u u u u u u u u u
def Y2 (a0 a1:AV):A1:=.mk a0 a1 u u u u u u u u u u u u u u
def Y3 (a0 a1 a2:AV):A1:=.mk a0 a1 a2 u u u u u u u u u u u u u
def Y4 (a0 a1 a2 a3:AV):A1:=.mk a0 a1 a2 a3 u u u u u u u u u u u u
def Y5 (a0 a1 a2 a3 a4:AV):A1:=.mk a0 a1 a2 a3 a4 u u u u u u u u u u u
def Y6 (a0 a1 a2 a3 a4 a5:AV):A1:=.mk a0 a1 a2 a3 a4 a5 u u u u u u u u u u
def Y7 (a0 a1 a2 a3 a4 a5 a6:AV):A1:=.mk a0 a1 a2 a3 a4 a5 a6 u u u u u u u u u
def Y8 (a0 a1 a2 a3 a4 a5 a6 a7:AV):A1:=.mk a0 a1 a2 a3 a4 a5 a6 a7 u u u u u u u u
def Y9 (a0 a1 a2 a3 a4 a5 a6 a7 a8:AV):A1:=.mk a0 a1 a2 a3 a4 a5 a6 a7 a8 u u u u u u u
def Y10 (a0 a1 a2 a3 a4 a5 a6 a7 a8 a9:AV):A1:=.mk a0 a1 a2 a3 a4 a5 a6 a7 a8 a9 u u u u u u
def Y11 (a0 a1 a2 a3 a4 a5 a6 a7 a8 a9 a10:AV):A1:=.mk a0 a1 a2 a3 a4 a5 a6 a7 a8 a9 a10 u u u u u
def Y12 (a0 a1 a2 a3 a4 a5 a6 a7 a8 a9 a10 a11:AV):A1:=.mk a0 a1 a2 a3 a4 a5 a6 a7 a8 a9 a10 a11 u u u u
def Y13 (a0 a1 a2 a3 a4 a5 a6 a7 a8 a9 a10 a11 a12:AV):A1:=.mk a0 a1 a2 a3 a4 a5 a6 a7 a8 a9 a10 a11 a12 u u u
def Y14 (a0 a1 a2 a3 a4 a5 a6 a7 a8 a9 a10 a11 a12 a13:AV):A1:=.mk a0 a1 a2 a3 a4 a5 a6 a7 a8 a9 a10 a11 a12 a13 u u
def Y15 (a0 a1 a2 a3 a4 a5 a6 a7 a8 a9 a10 a11 a12 a13 a14:AV):A1:=.mk a0 a1 a2 a3 a4 a5 a6 a7 a8 a9 a10 a11 a12 a13 a14 u
def K1 (a0:A2→AV) (g:Cf→Iv→(A2→Hp→RS)→Hp→AV→RS):KF:=fun c i x r h=>g c i x h (a0 r)
def K2 (a0 a1:A2→AV) (g:Cf→Iv→(A2→Hp→RS)→Hp→AV→AV→RS):KF:=fun c i x r h=>g c i x h (a0 r) (a1 r)
def K3 (a0 a1 a2:A2→AV) (g:Cf→Iv→(A2→Hp→RS)→Hp→AV→AV→AV→RS):KF:=fun c i x r h=>g c i x h (a0 r) (a1 r) (a2 r)
def K4 (a0 a1 a2 a3:A2→AV) (g:Cf→Iv→(A2→Hp→RS)→Hp→AV→AV→AV→AV→RS):KF:=fun c i x r h=>g c i x h (a0 r) (a1 r) (a2 r) (a3 r)
def K5 (a0 a1 a2 a3 a4:A2→AV) (g:Cf→Iv→(A2→Hp→RS)→Hp→AV→AV→AV→AV→AV→RS):KF:=fun c i x r h=>g c i x h (a0 r) (a1 r) (a2 r) (a3 r) (a4 r)
def K6 (a0 a1 a2 a3 a4 a5:A2→AV) (g:Cf→Iv→(A2→Hp→RS)→Hp→AV→AV→AV→AV→AV→AV→RS):KF:=fun c i x r h=>g c i x h (a0 r) (a1 r) (a2 r) (a3 r) (a4 r) (a5 r)
def K7 (a0 a1 a2 a3 a4 a5 a6:A2→AV) (g:Cf→Iv→(A2→Hp→RS)→Hp→AV→AV→AV→AV→AV→AV→AV→RS):KF:=fun c i x r h=>g c i x h (a0 r) (a1 r) (a2 r) (a3 r) (a4 r) (a5 r) (a6 r)
def K8 (a0 a1 a2 a3 a4 a5 a6 a7:A2→AV) (g:Cf→Iv→(A2→Hp→RS)→Hp→AV→AV→AV→AV→AV→AV→AV→AV→RS):KF:=fun c i x r h=>g c i x h (a0 r) (a1 r) (a2 r) (a3 r) (a4 r) (a5 r) (a6 r) (a7 r)
def K9 (a0 a1 a2 a3 a4 a5 a6 a7 a8:A2→AV) (g:Cf→Iv→(A2→Hp→RS)→Hp→AV→AV→AV→AV→AV→AV→AV→AV→AV→RS):KF:=fun c i x r h=>g c i x h (a0 r) (a1 r) (a2 r) (a3 r) (a4 r) (a5 r) (a6 r) (a7 r) (a8 r)
def wu (args:List AV) (k:Nat→Nat→Nat→AV) (h:Hp):RT:=match args with
 | [.int .u64 (.ofNat x),.int .u64 (.ofNat y),.int .u64 (.ofNat c)]=>@Bool.rec (fun _=>RT) (.err 403) (.ok (k x y c) h) (Nat.ble c 1)
 | _=>.err 404
def wv (args:List AV) (h:Hp):RT:=wu args (fun x y c=>.eS [.int .u64 (.ofNat (Nat.mod (Nat.add (Nat.add x y) c) 18446744073709551616)),.int .u64 (.ofNat (Nat.div (Nat.add (Nat.add x y) c) 18446744073709551616))]) h
def oC (args:List AV) (h:Hp):RT:=match args with
 | [.iface t (.map i)]=>(Obj.dR (aq i h) (fun l n=>iq (.map l n) h fun j h=>.ok (.iface t (.map j)) h) (.err 401)).jT
 | _=>.err 402
end
end Go.Am.Seat
