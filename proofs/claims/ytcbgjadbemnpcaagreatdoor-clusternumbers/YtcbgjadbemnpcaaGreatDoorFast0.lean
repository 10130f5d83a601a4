/- The same code in a form that runs faster, written by program. Nothing is asked. -/
import Derived.Test.YtcbgjadbemnpcaaGreatDoorHead
set_option linter.all false
namespace Go.Am.Seat
set_option linter.unusedVariables false
set_option maxRecDepth 20000
noncomputable section
def T0 (a b d e : AV) : A2 := N0 (Y7 u u a u b d e)
def T1 (a : AV) : A2 := N0 (Y1 a)
def T2 (a b d : AV) : A2 := N0 (Y6 u u a u b d)
def T3 (a b d e f g j : AV) : A2 := N0 (Y11 u u a u b d u e f g j)
def T4 (a b d e f g j k l m : AV) : A2 := N0 (Y15 u u a u b d u u e f g j k l m)
def T5 (a b d e f g j k l m n o p q : AV) : A2 := N1 (.mk u u a u b d u u e f g j k l m n) (Y4 u o p q)
def T6 (a b d e f g j k l m n o p q s t v : AV) : A2 := N1 (.mk u u a u b d u u e f g j k l m n) (Y7 u o p q s t v)
def T7 (a b d e f g j k l m n o p q s t v w y z : AV) : A2 := N1 (.mk u u a u b d u u e f g j k l m n) (Y11 u o p q s t v u w y z)
def T8 (a b : AV) : A2 := N0 (Y4 u u a b)
def T9 (a b : AV) : A2 := N0 (Y7 a u u u u u b)
def T10 (a b d : AV) : A2 := N1 (Y7 u u u u u u a) (Y7 u u u u u b d)
def T11 (a : AV) : A2 := N0 (Y7 u u u u u u a)
def T12 (a : AV) : A2 := N0 (Y5 u u u u a)
def T13 (a b : AV) : A2 := N0 (Y4 a u u b)
def T14 (a b d : AV) : A2 := N0 (Y8 a u u b u u u d)
def T15 (a b d e : AV) : A2 := N0 (Y9 a u u b u u u d e)
def T16 (a b d e : AV) : A2 := N0 (Y14 a u u b u u u d u u u u u e)
def T17 (a b d e : AV) : A2 := N1 (Y8 a u u b u u u d) (Y3 u u e)
def T18 (a b d e : AV) : A2 := N1 (Y8 a u u b u u u d) (Y15 u u u u u u u u u u u u u u e)
def T19 (a b d e : AV) : A2 := N2 (Y8 a u u b u u u d) .nil (Y9 u u u u u u u u e)
def T20 (a b d e : AV) : A2 := N3 (Y8 a u u b u u u d) .nil .nil (Y3 u u e)
def T21 (a b d e : AV) : A2 := N4 (Y8 a u u b u u u d) .nil .nil .nil (Y3 u u e)
def T22 (a b d e : AV) : A2 := N4 (Y8 a u u b u u u d) .nil .nil .nil (Y11 u u u u u u u u u u e)
def T23 (a b : AV) : A2 := N5 (Y1 a) .nil .nil .nil .nil (Y1 b)
def T24 (a : AV) : A2 := N0 (Y3 u u a)
def T25 (a b : AV) : A2 := N0 (Y2 a b)
def T26 (a b d : AV) : A2 := N0 (Y7 a b u u u u d)
def T27 (a b d e : AV) : A2 := N0 (Y9 a b u u u u d u e)
def T28 (a b : AV) : A2 := N0 (Y6 u u u u a b)
def T29 (a b d : AV) : A2 := N0 (Y11 u u u a u u u u u b d)
def T30 (a b : AV) : A2 := N0 (Y8 u u u u u u a b)
def T31 (a b d : AV) : A2 := N0 (Y3 a b d)
def T32 (a b d : AV) : A2 := N0 (Y6 a b u u u d)
def T33 (a b : AV) : A2 := N0 (Y3 u a b)
def T34 (a : AV) : A2 := N0 (Y2 u a)
def T35 (a b d : AV) : A2 := N0 (Y5 u a u b d)
def T36 : A2 := .nil
def T37 (a b d : AV) : A2 := N0 (Y5 a u u b d)
def T38 (a b d e : AV) : A2 := N0 (Y6 a u u b d e)
def T39 (a b d e : AV) : A2 := N0 (Y7 a u u b d u e)
def T40 (a b d e : AV) : A2 := N0 (Y12 a b u u u u u u u u d e)
def T41 (a b d e : AV) : A2 := N1 (Y1 a) (Y11 u u u u u u u u b d e)
def T42 (a b d : AV) : A2 := N0 (Y7 a u u b u u d)
def T43 (a b d e : AV) : A2 := N0 (Y8 a u u b u u d e)
def T44 (a b d e : AV) : A2 := N1 (Y7 a u u b u u d) (Y12 u u u u u u u u u u u e)
def T45 (a b : AV) : A2 := N0 (Y6 a u u u u b)
def T46 (a b d : AV) : A2 := N0 (Y6 a u u b u d)
def T47 (a b d e f : AV) : A2 := N2 (Y6 a u u b u d) .nil (Y5 u u u e f)
def T48 (a b d e f g j : AV) : A2 := N2 (Y6 a u u b d e) .nil (Y13 u u u f g u u u u u u u j)
def T49 (a b d : AV) : A2 := N2 (Y2 a b) .nil (Y1 d)
def T50 (a b d e f : AV) : A2 := N2 (Y8 a b u u u u d e) .nil (Y1 f)
def T51 (a b d : AV) : A2 := N0 (Y14 u u u u u a u u u u u u b d)
def T52 (a : AV) : A2 := N0 (Y6 u u u u u a)
def T53 (a b d e : AV) : A2 := N0 (Y14 u u u u u a b u u u u u d e)
def T54 (a b d e : AV) : A2 := N2 (Y6 u u u u u a) .nil (Y5 u u b d e)
def T55 (a b d e f g : AV) : A2 := N0 (Y11 a b d u u e u u u f g)
def T56 (a b : AV) : A2 := N0 (Y4 u a u b)
def T57 (a b d e f : AV) : A2 := N2 (Y4 u a u b) .nil (Y12 u u u u u u u u u d e f)
def T58 (a b d e : AV) : A2 := N4 (Y4 u u u a) .nil .nil (.mk u u u u u u u u u u u u u u b d) (Y1 e)
def T59 (a : AV) : A2 := N0 (Y4 u u u a)
def T60 (a b d e f : AV) : A2 := N4 (Y8 u u u a u u u b) .nil .nil (.mk u u u u u u u u u u u u u u d e) (Y1 f)
def T61 (a b d e f g j k : AV) : A2 := N5 (Y8 u u u a u u u b) .nil .nil (.mk u u u u u u u u u u u u u u d e) (.mk f u u u u u u u u u u u u u g j) (Y1 k)
def T62 (a b d : AV) : A2 := N0 (Y4 u a b d)
def T63 (a b d e f : AV) : A2 := N1 (Y4 u a b d) (Y2 e f)
def T64 (a b d : AV) : A2 := N0 (Y5 a b u u d)
def T65 (a b d e f : AV) : A2 := N3 (Y5 a u u u b) .nil .nil (Y5 u u d e f)
def T66 (a b d : AV) : A2 := N3 (Y5 a u u u b) .nil .nil (Y15 u u u u u u u u u u u u u u d)
def T67 (a b d e f : AV) : A2 := N3 (Y13 a u u u b u u u u u u d e) .nil .nil (Y15 u u u u u u u u u u u u u u f)
def T68 (a b d e f g j : AV) : A2 := N5 (Y14 a u u u b u u u u u u d e f) .nil .nil (Y15 u u u u u u u u u u u u u u g) .nil (Y12 u u u u u u u u u u u j)
def T69 (a b d : AV) : A2 := N0 (Y10 a u u b u u u u u d)
def T70 (a b d e f : AV) : A2 := N0 (Y10 a u u b d e u u u f)
def T71 (a b d e f g j : AV) : A2 := N0 (Y10 a u u b d e f g u j)
def T72 (a b d e f g j : AV) : A2 := N0 (Y10 a u u b d e f u g j)
def T73 (a b d : AV) : A2 := N0 (Y7 a u u u u b d)
def T74 (a b d e : AV) : A2 := N0 (Y10 a b d u u u u u u e)
def T75 (a b d e f : AV) : A2 := N0 (Y15 a u u b u u u u u u u u d e f)
def T76 (a b d e f : AV) : A2 := N2 (Y7 u u u a u u b) .nil (Y3 d e f)
def T77 (a b d e f g : AV) : A2 := N2 (Y9 u u u a u u b u d) .nil (Y3 e f g)
def T78 (a b d e : AV) : A2 := N0 (Y10 a u u u u u u b d e)
def T79 (a b : AV) : A2 := N0 (Y5 a u u u b)
def T80 (a b d e : AV) : A2 := N5 (Y1 a) .nil .nil .nil .nil (Y4 u b d e)
def T81 (a b d e : AV) : A2 := N0 (Y9 u u u a u u b d e)
def T82 (a b d e : AV) : A2 := N2 (Y2 u a) .nil (Y9 u u u u u u b d e)
def T83 (a b d e f : AV) : A2 := N2 (Y5 u a u u b) .nil (Y9 u u u u u u d e f)
def T84 (a b d : AV) : A2 := N3 .nil .nil .nil (Y13 u u u u u u u u u u a b d)
def T85 (a b d e : AV) : A2 := N3 (Y7 u u u u u u a) .nil .nil (Y13 u u u u u u u u u u b d e)
def T86 (a b : AV) : A2 := N0 (Y9 u u a u u u u u b)
def T87 (a b d : AV) : A2 := N0 (Y10 u u a u u u u u b d)
def T88 (a b d : AV) : A2 := N0 (Y7 a u b u u u d)
def T89 (a b d e f g : AV) : A2 := N0 (Y14 a b d u u u u u u u u e f g)
def T90 (a b d e f g j k : AV) : A2 := N0 (Y14 a b d u u u e f u u u g j k)
def T91 (a b d e f g j : AV) : A2 := N0 (Y14 a b d u u u e u u u u f g j)
def T92 (a b d e : AV) : A2 := N0 (Y7 a b d u u u e)
def T93 (a b d e : AV) : A2 := N0 (Y8 a b d u u u u e)
def T94 (a b d e f : AV) : A2 := N0 (Y7 a u u b d e f)
def T95 (a b d e f : AV) : A2 := N1 (Y7 a u u b d u e) (Y14 u u u u u u u u u u u u u f)
def T96 (a b d e f g : AV) : A2 := N1 (Y7 a u u b d u e) (Y15 u u u u u u u u u u u u u f g)
def T97 (a b d e f g : AV) : A2 := N2 (Y7 a u u b d u e) (Y14 u u u u u u u u u u u u u f) (Y7 u u u u u u g)
def T98 (a b d e f g : AV) : A2 := N2 (Y7 a u u b d u e) (Y14 u u u u u u u u u u u u u f) (Y15 u u u u u u u u u u u u u u g)
def T99 (a b d e f g : AV) : A2 := N3 (Y7 a u u b d u e) (Y14 u u u u u u u u u u u u u f) .nil (Y7 u u u u u u g)
def T100 (a b d e : AV) : A2 := N4 (Y1 a) .nil .nil .nil (Y8 u u u u u b d e)
def T101 (a b : AV) : A2 := N5 (Y1 a) .nil .nil .nil .nil (Y12 u u u u u u u u u u u b)
def T102 (a b d e : AV) : A2 := N1 (Y1 a) (Y3 b d e)
def T103 (a b d : AV) : A2 := N0 (Y6 a u u u b d)
def T104 (a b d e : AV) : A2 := N0 (Y7 a u u u b d e)
def T105 (a b d : AV) : A2 := N0 (Y13 a b u u u u u u u u u u d)
def T106 (a b d e : AV) : A2 := N0 (Y14 a b u u u u u u u u u u d e)
def T107 (a b d e : AV) : A2 := N1 (Y13 a b u u u u u u u u u u d) (Y5 u u u u e)
def T108 (a : AV) : A2 := N1 .nil (Y14 u u u u u u u u u u u u u a)
def T109 (a b d e f : AV) : A2 := N1 (Y3 u a b) (.mk u u u u u u u u u u u u u d e f)
def T110 (a b d e f : AV) : A2 := N3 (Y3 u a b) .nil .nil (Y5 u u d e f)
def T111 (a b d e f g j : AV) : A2 := N3 (Y8 u a b u u u d e) .nil .nil (Y5 u u f g j)
def T112 (a b d e f : AV) : A2 := N1 (.mk a u b u u u u u u u u u u u d e) (Y1 f)
def T113 (a b d : AV) : A2 := N0 (Y8 u u u u u a b d)
def T114 (a b d : AV) : A2 := N0 (Y12 a b u u u u u u u u u d)
def T115 (a b d e : AV) : A2 := N0 (Y8 a u u u u b d e)
def T116 (a b d e : AV) : A2 := N0 (Y6 a u b u d e)
def T117 (a b d e f : AV) : A2 := N0 (Y7 a u b u d e f)
def T118 (a b d e f : AV) : A2 := N0 (Y9 a u b u d e u u f)
def T119 (a b d e : AV) : A2 := N0 (Y10 a u b u u d u u u e)
def T120 (a b : AV) : A2 := N0 (Y6 u u a u u b)
def T121 (a b : AV) : A2 := N0 (Y7 u u u u a u b)
def T122 (a b : AV) : A2 := N0 (Y3 a u b)
def T123 (a b d : AV) : A2 := N0 (Y4 a u b d)
def T124 (a b d e f : AV) : A2 := N0 (Y10 u a u u b u d u e f)
def T125 (a b d e f g : AV) : A2 := N0 (Y10 a b u d u u e u f g)
def T126 (a b d e f g j : AV) : A2 := N0 (Y11 a b u d u u e u f g j)
def T127 (a b d e f g j k : AV) : A2 := N2 (Y10 a b u u u u d u e f) .nil (Y12 u u u u u u u u u g j k)
def T128 (a b d e : AV) : A2 := N0 (Y10 a b u u u u d u u e)
def T129 (a b d e f : AV) : A2 := N0 (Y10 a b u u u u d u e f)
def T130 (a b d e : AV) : A2 := N0 (Y7 a b u d u u e)
def T131 (a b d : AV) : A2 := N0 (Y7 u a u b u u d)
def T132 (a b d e f : AV) : A2 := N0 (Y13 a b d u u u u u u u u e f)
def T133 (a b d e f : AV) : A2 := N0 (Y9 a b u u u u d e f)
def T134 (a b d e f g j : AV) : A2 := N0 (Y13 a b u u u u d e f u u g j)
def T135 (a b d e f : AV) : A2 := N0 (Y13 a b u u u u d u e u u u f)
def T136 (a b d : AV) : A2 := N0 (Y13 a u u u u u u u b u u u d)
def T137 (a b d e : AV) : A2 := N0 (Y8 u u u u a b d e)
def T138 (a b d : AV) : A2 := N0 (Y11 a u u u u u u u u b d)
def T139 (a b d e f : AV) : A2 := N2 (Y11 u u u u u u u u u a b) .nil (Y9 u u u u u u d e f)
def T140 (a b d e : AV) : A2 := N0 (Y7 a b u u u d e)
def T141 (a : AV) : A2 := N0 (Y8 u u u u u u u a)
def T142 (a b d e : AV) : A2 := N0 (Y11 a u u b d u u u u u e)
def T143 (a b d e f : AV) : A2 := N0 (Y12 a u u b d u u u u u e f)
def T144 (a b d e f : AV) : A2 := N2 (Y11 a u u b d u u u u u e) .nil (Y1 f)
def T145 (a b d e : AV) : A2 := N3 (Y5 a u u b d) .nil .nil (Y11 u u u u u u u u u u e)
def T146 (a : AV) : A2 := N0 (Y9 u u u u u u u u a)
def T147 (a b d e f : AV) : A2 := N0 (Y8 a b d u u u e f)
def T148 (a b d e : AV) : A2 := N5 (Y1 a) .nil .nil .nil .nil (Y7 u u u u b d e)
def T149 (a b d : AV) : A2 := N0 (Y9 a u u u u u u b d)
def T150 (a b d : AV) : A2 := N8 (Y1 a) .nil .nil .nil .nil .nil .nil .nil (Y7 u u u u u b d)
def T151 (a b d : AV) : A2 := N0 (Y5 a u b u d)
def T152 (a b d : AV) : A2 := N0 (Y9 a b u u u u u u d)
def T153 (a b d e f g : AV) : A2 := N1 (Y6 a u u u b d) (Y6 u u u e f g)
def T154 (a b d e : AV) : A2 := N0 (Y13 a u u u u u u u u u b d e)
def T155 (a b d e f : AV) : A2 := N0 (Y9 a b u d u u e u f)
def T156 (a b d e : AV) : A2 := N0 (Y9 a b u d u u u u e)
def T157 (a b : AV) : A2 := N0 (Y9 u u u a u u u u b)
def T158 (a : AV) : A2 := N3 .nil .nil .nil (Y2 u a)
def T159 (a b d e f : AV) : A2 := N0 (Y10 a u u u u b d e u f)
def T160 (a b d e f : AV) : A2 := N0 (Y11 a u u u u b d e u u f)
def T161 (a b d : AV) : A2 := N0 (Y10 a b u u u u u u u d)
def T162 (a b d e : AV) : A2 := N0 (Y8 a u u u b d u e)
def T163 (a b d : AV) : A2 := N0 (Y7 a u u u b u d)
def T164 (a b : AV) : A2 := N0 (Y8 u u u u a u u b)
def T165 (a b d : AV) : A2 := N0 (Y12 u a u b u u u u u u u d)
def T166 (a b d : AV) : A2 := N1 (Y4 u a u b) (Y7 u u u u u u d)
def T167 (a b d e f g : AV) : A2 := N0 (Y8 a u u b d e f g)
def T168 (a b d e : AV) : A2 := N0 (Y9 a b d u u u u u e)
def T169 (a b d e f : AV) : A2 := N0 (Y8 a u b u u d e f)
def T170 (a b d : AV) : A2 := N0 (Y9 u u u u u u a b d)
def T171 (a b d : AV) : A2 := N0 (Y11 a b u u u u u u u u d)
def T172 (a b d e f g : AV) : A2 := N0 (Y15 a b u u u u u u u u d e u f g)
def T173 (a b d e : AV) : A2 := N0 (Y14 a b u u u u u u u u d u u e)
def T174 (a b d e : AV) : A2 := N0 (Y12 u u u a u u u u u b d e)
def T175 (a b d e f : AV) : A2 := N0 (Y12 u u u a u b u u u d e f)
def T176 (a b d : AV) : A2 := N0 (Y5 u u a b d)
def T177 (a b d e : AV) : A2 := N2 (Y10 u u a u u u u u b d) .nil (Y13 u u u u u u u u u u u u e)
def T178 (a b d : AV) : A2 := N0 (Y10 u a b u u u u u u d)
def T179 (a b d e f : AV) : A2 := N1 (Y10 u u a u u u u u u b) (Y15 u u u u u u u u u u u u d e f)
def T180 (a : AV) : A2 := N0 (Y10 u u u u u u u u u a)
def T181 (a b d e f g : AV) : A2 := N1 (Y12 u u a u u u u u u b u d) (Y15 u u u u u u u u u u u u e f g)
def T182 (a b d : AV) : A2 := N0 (Y8 a u u u u u b d)
def T183 (a b d e : AV) : A2 := N0 (Y11 a u u u u u b u u d e)
def T184 (a b d e : AV) : A2 := N0 (Y7 a u b u d u e)
def T185 (a b d e f g j k : AV) : A2 := N0 (Y11 a b d u u u e f g j k)
def T186 (a b d e f g : AV) : A2 := N0 (Y12 a b u u u u d e f u u g)
def T187 (a b d e : AV) : A2 := N0 (Y6 a u b d u e)
def T188 (a b d e : AV) : A2 := N0 (Y9 a b u u u u u d e)
def T189 (a b d e : AV) : A2 := N0 (Y10 u u u a u u u b d e)
def T190 (a b d e f : AV) : A2 := N1 (Y10 u u u a u u u b d e) (Y2 u f)
def T191 (a b d e : AV) : A2 := N1 (.mk a u u u u u u u u u u u u u u b) (Y2 d e)
def T192 (a b d e f g : AV) : A2 := N1 (.mk a u u b d u u u u u u u u u u e) (Y2 f g)
def T193 (a b d : AV) : A2 := N0 (Y7 u u u u a b d)
def T194 (a b d e : AV) : A2 := N0 (Y6 u a u b d e)
def T195 (a b d e : AV) : A2 := N0 (Y9 a u u u u u b d e)
def T196 (a b d e : AV) : A2 := N0 (Y7 a u b u u d e)
def T197 (a b d : AV) : A2 := N0 (Y6 a u b u u d)
def T198 (a b : AV) : A2 := N0 (Y7 u u a u u u b)
def T199 (a b d e f g j : AV) : A2 := N1 (Y8 a u u b d e f g) (Y6 u u u u u j)
def T200 (a b d e f g j k : AV) : A2 := N1 (Y8 a u u b d e f g) (Y12 u u u u u j u u u u u k)
def T201 (a b d e f g j k : AV) : A2 := N2 (Y8 a u u b d e f g) (Y6 u u u u u j) (Y6 u u u u u k)
def T202 (a : AV) : A2 := N2 .nil .nil (.mk u u u u u u u u u u u u u u u a)
def T203 (a b d e f g : AV) : A2 := N8 (Y6 a u u u b d) .nil .nil .nil .nil .nil .nil .nil (Y13 u u u u u u u u u u e f g)
def T204 (a b d e f g j : AV) : A2 := N8 (Y14 a u u u b d u u u u u u u e) .nil .nil .nil .nil .nil .nil .nil (Y13 u u u u u u u u u u f g j)
def T205 (a b : AV) : A2 := N0 (Y8 u a u u u u u b)
def T206 (a b d : AV) : A2 := N0 (Y9 u a u u u u u b d)
def T207 (a b d e : AV) : A2 := N0 (Y14 u u u a u u u u u u u b d e)
def T208 (a b d : AV) : A2 := N0 (Y5 u a b u d)
def T209 (a b d e : AV) : A2 := N2 (Y5 u a b u d) .nil (Y2 u e)
def T210 (a b d e : AV) : A2 := N2 (Y5 u a b u d) .nil (Y3 u u e)
def T211 (a b d e f : AV) : A2 := N9 (Y5 u u a u b) .nil .nil .nil .nil .nil .nil .nil .nil (Y3 d e f)
def T212 (a b : AV) : A2 := N0 (Y5 u u a u b)
def T213 (a b d e f g : AV) : A2 := N9 (Y14 u u a u b u u u u u u u u d) .nil .nil .nil .nil .nil .nil .nil .nil (Y3 e f g)
def T214 (a b d : AV) : A2 := N0 (Y6 u a b u u d)
def T215 (a b d e f g : AV) : A2 := N1 (Y6 u a b u u d) (Y4 u e f g)
def T216 (a b d e f g j : AV) : A2 := N1 (Y9 u a b u u d u u e) (Y4 u f g j)
def T217 (a b d e : AV) : A2 := N3 (Y6 u a b u u d) .nil .nil (Y4 u u u e)
def T218 (a b d e f : AV) : A2 := N3 (Y6 u a b u u d) .nil .nil (Y5 u u u e f)
def T219 (a b d e : AV) : A2 := N4 (Y6 u u a u u b) .nil .nil (Y4 u u u d) (Y4 u u u e)
def T220 (a b d : AV) : A2 := N6 (Y6 u u a u u b) .nil .nil .nil .nil .nil (Y6 u u u u u d)
def T221 (a b d e : AV) : A2 := N0 (Y6 u a b u d e)
def T222 (a b d e f g j : AV) : A2 := N1 (Y6 u a b u d e) (Y5 u u f g j)
def T223 (a b d e f g j k l : AV) : A2 := N1 (Y10 u a b u d e u u f g) (Y5 u u j k l)
def T224 (a b d e f g j : AV) : A2 := N3 (Y6 u a b u d e) .nil (.mk u u u u u u u u u u u u u u f g) (Y1 j)
def T225 (a b d e f g j k l m : AV) : A2 := N3 (Y14 u a b u d e u u u u u f g j) .nil (.mk u u u u u u u u u u u u u u k l) (Y1 m)
def T226 (a b d e f g j k l m n o p : AV) : A2 := N3 (Y14 u a b u d e u u u u u f g j) .nil (.mk u u u u u u u u u u u u u u k l) (Y14 m u u u u u u u u u u n o p)
def T227 (a b d e f g j k l : AV) : A2 := N3 (Y13 u a b u d e u u u u u f g) .nil (.mk u u u u u u u u u u u u u u j k) (Y1 l)
def T228 (a b d e f : AV) : A2 := N0 (.mk a u u b u u u u u u u u u d e f)
def T229 (a b d e f g : AV) : A2 := N0 (.mk a u u b u d u u u u u u u e f g)
def T230 (a b d : AV) : A2 := N2 (Y4 a u u b) .nil (Y11 u u u u u u u u u u d)
def T231 (a b d e f g : AV) : A2 := N1 (Y7 a b u u u u d) (Y3 e f g)
def T232 (a b d e : AV) : A2 := N0 (Y13 a b u u u u d u u u u u e)
def T233 (a b d e f : AV) : A2 := N2 (Y13 a b u u u u d u u u u u e) .nil (Y9 u u u u u u u u f)
def T234 (a b d e f g : AV) : A2 := N2 (Y13 a b u u u u d u u u u u e) .nil (Y15 u u u u u u u u f u u u u u g)
def T235 (a b d : AV) : A2 := N0 (Y13 a u u u u u u u u u u b d)
def T236 (a b d : AV) : A2 := N3 (Y7 a u u u u u b) .nil .nil (Y8 u u u u u u u d)
def T237 (a b : AV) : A2 := N0 (Y13 u u u u u u u u u u u a b)
def T238 (a b d e f : AV) : A2 := N0 (Y9 a b d u u u u e f)
def T239 (a b d e f g : AV) : A2 := N1 (Y9 a b d u u u u e f) (.mk u u u u u u u u u u u u u u u g)
def T240 (a b d : AV) : A2 := N1 (Y1 a) (Y2 b d)
def T241 (a b d e : AV) : A2 := N1 (Y4 a u u b) (Y2 d e)
def T242 (a b d e f g j : AV) : A2 := N0 (Y12 a b d e f u u u u u g j)
def T243 (a b d e f g j k : AV) : A2 := N0 (Y13 a b d e f u u u u u g j k)
def T244 (a b d e f g j k l m : AV) : A2 := N0 (Y15 a b d e f u u u u u g j k l m)
def T245 (a b d e f g j k l : AV) : A2 := N0 (Y14 a b d e f u u u u u g j k l)
def T246 (a b d e f g j k l m : AV) : A2 := N1 (Y12 a b d e f u u u u u u g) (Y5 j u k l m)
def T247 (a b d e f g j k l m n : AV) : A2 := N7 (Y12 a b d e f u u u u u u g) (Y5 j u k l m) .nil .nil .nil .nil .nil (Y14 u u u u u u u u u u u u u n)
def T248 (a b d e : AV) : A2 := N0 (Y7 u a b u u d e)
def T249 (a b d e f g j : AV) : A2 := N1 (.mk u a b u u d e u u u u u u u u f) (Y2 g j)
def T250 (a b d e : AV) : A2 := N2 (Y6 u a b u u d) .nil (Y6 u u u u u e)
def T251 (a b d e f : AV) : A2 := N2 (Y6 u a b u u d) .nil (Y7 u u u u u e f)
def T252 (a : AV) : A2 := N3 .nil .nil .nil (Y8 u u u u u u u a)
def T253 (a b d e f g j k : AV) : A2 := N0 (Y13 a b u u d u u u e f g j k)
def T254 (a b d e f g j k l : AV) : A2 := N0 (Y14 a b u u d u u u e f g j k l)
def T255 (a b d e f : AV) : A2 := N0 (Y13 u u u u a u u u u b d e f)
def T256 (a b d e f g j : AV) : A2 := N2 (Y13 u a u u b u u u d e u f g) .nil (.mk u u u u u u u u u u u u u u u j)
def T257 (a b d e f g j : AV) : A2 := N0 (Y13 u a u u b u u u d e f g j)
def T258 (a b d e : AV) : A2 := N0 (Y12 a u u b d u u u u u u e)
def T259 (a b d : AV) : A2 := N0 (Y9 u a u b u u u u d)
def T260 (a b d e : AV) : A2 := N0 (Y10 u a u b u u u u d e)
def T261 (a b d e : AV) : A2 := N1 (Y9 u a u b u u u u d) (Y6 u u u u u e)
def T262 (a b d : AV) : A2 := N1 (Y4 u a u b) (Y10 u u u u u u u u u d)
def T263 (a b d e : AV) : A2 := N1 (Y6 a b u u u d) (Y7 u u u u u u e)
def T264 (a b d e : AV) : A2 := N1 (Y6 a b u u u d) (Y14 u u u u u u u u u u u u u e)
def T265 (a b d e f g : AV) : A2 := N2 (Y6 a b u u u d) .nil (Y10 u u u u u u u e f g)
def T266 (a b d e f g j : AV) : A2 := N2 (Y8 a b u u u d u e) .nil (Y10 u u u u u u u f g j)
def T267 (a b d e f g j k : AV) : A2 := N3 (Y8 a b u u u d u e) .nil (Y10 u u u u u u u f g j) (Y2 u k)
def T268 (a b d e f : AV) : A2 := N4 (Y9 u a u u u u u u b) .nil .nil (.mk u u u u u u u u u u u u u u u d) (Y2 e f)
def T269 (a b d e : AV) : A2 := N1 (Y2 u a) (Y3 b d e)
def T270 (a b d : AV) : A2 := N1 (Y4 a u u b) (Y10 u u u u u u u u u d)
def T271 (a b d e f g : AV) : A2 := N0 (Y10 a b d e u u u u f g)
def T272 (a b d e f g j : AV) : A2 := N0 (Y11 a b d e u u u u f g j)
def T273 (a b d e f g j k l : AV) : A2 := N0 (Y13 a b d e u u u u f g j k l)
def T274 (a b d e f g j k : AV) : A2 := N0 (Y12 a b d e u u u u f g j k)
def T275 (a b d e f g j k l : AV) : A2 := N1 (Y15 a b d e u u u u u f u u u u g) (Y3 j k l)
def T276 (a b d e f g j k l m : AV) : A2 := N7 (Y15 a b d e u u u u u f u u u u g) (Y3 j k l) .nil .nil .nil .nil .nil (Y2 u m)
def T277 (a b d e f : AV) : A2 := N0 (Y9 a b d e u u u u f)
def T278 (a b d e f : AV) : A2 := N1 (.mk u a b u u u u u u u u u u u u d) (Y2 e f)
def T279 (a b d : AV) : A2 := N0 (Y8 a u b u u u u d)
def T280 (a b d : AV) : A2 := N0 (Y8 a b u u u u u d)
def T281 (a b d e : AV) : A2 := N0 (Y14 a u u u u u u u u u u b d e)
def T282 (a b d e f : AV) : A2 := N0 (Y14 a u u u u b u u u u u d e f)
def T283 (a b d e f : AV) : A2 := N0 (Y10 a u u u u u b d e f)
def T284 (a b d e f : AV) : A2 := N0 (Y12 a u u b u u u u u d e f)
def T285 (a b d e f g : AV) : A2 := N1 (Y12 a u u b u u u u u d e f) (Y5 u u u u g)
def T286 (a b d e : AV) : A2 := N1 (Y7 u u u u u u a) (Y12 u u u u u u u u u b d e)
def T287 (a : AV) : A2 := N1 .nil (Y4 u u u a)
def T288 (a b d e f g : AV) : A2 := N0 (Y9 a b d u u u e f g)
def f583 : AF := .ext .noesc
def f584 : AF := .ext (.mknz 5)
def k3_7 : KF := K21 y2 y4 y5 y8 y9 y10 y11 y12 y13 y14 y15 y17 y18 y19 y20 y21 y22 y24 y25 y26 y142 fun c i x h a b d e f g j k l m n o p q s t v w y z a0=>
 I a0 (.ret (T1 (.bool false)) h) (.nm (T7 a b d e f g j k l m n o p q s t v w y z) h)
def k3_6 : KF := K17 y2 y4 y5 y8 y9 y10 y11 y12 y13 y14 y15 y17 y18 y19 y20 y21 y22 fun c i x h a b d e f g j k l m n o p q s t v=>
 C c 14 [d,i0,(.str [118])] h fun w h=>
 E 0 w h fun y h=>
 E 1 w h fun z h=>
 C c 14 [d,i1,(.str [118])] h fun a0 h=>
 E 0 a0 h fun a1 h=>
 E 1 a0 h fun a2 h=>
 x (T7 a b d e f g j k l m n o p q s t v z a1 a2) h
def k3_5 : KF := K14 y2 y4 y5 y8 y9 y10 y11 y12 y13 y14 y15 y17 y18 y19 fun c i x h a b d e f g j k l m n o p q=>
 C c 13 [(.str [118]),(.str [40,116,97,98,108,101,32,117,41])] h fun s h=>
 U [i0,i0,i0,i0,iS,i0,i0,i0,iS,iS,.nils,.nils] [.mk 0 1 (.c i1),.mk 1 1 (.c i1),.mk 5 7 (.c s)] h fun t h=>
 C c 7 [d,t] h fun v h=>
 C c 12 [d,v] h fun w h=>
 U [i0,i0,i0,i0,iS,i0,i0,i0,iS,iS,.nils,.nils] [.mk 0 1 (.c (pi 2)),.mk 1 1 (.c (pi 2)),.mk 2 1 (.c i1),.mk 4 1 (.c (.str [118]))] h fun y h=>
 C c 7 [d,y] h fun z h=>
 C c 12 [d,z] h fun a0 h=>
 U [i0,i0,i0,i0,iS,i0,i0,i0,iS,iS,.nils,.nils] [.mk 0 1 (.c (pi 2)),.mk 1 1 (.c (pi 3)),.mk 2 1 (.c i0),.mk 4 1 (.c (.str [118]))] h fun a1 h=>
 C c 7 [d,a1] h fun a2 h=>
 U [i0,i0,i0,i0,iS,i0,i0,i0,iS,iS,.nils,.nils] [.mk 0 1 (.c (pi 7)),.mk 2 1 (.c i0)] h fun a3 h=>
 C c 7 [d,a3] h fun a4 h=>
 tR (appV 54 18 a2 a4 h) fun a5 h=>
 x (T6 a b d e f g j k l m n o p q w a0 a5) h
def k3_4 : KF := K10 y2 y4 y5 y8 y9 y10 y11 y12 y13 y14 fun c i x h a b d e f g j k l m=>
 C c 9 [d,(pi 500)] h fun n h=>
 E 0 n h fun o h=>
 E 1 n h fun p h=>
 C c 10 [d] h fun q h=>
 C c 11 [d,i1] h fun s h=>
 U [i0,i0,i0,i0,iS,i0,i0,i0,iS,iS,.nils,.nils] [.mk 0 1 (.c (pi 8)),.mk 2 1 (.c i1)] h fun t h=>
 C c 7 [d,t] h fun v h=>
 C c 12 [d,v] h fun w h=>
 x (T5 a b d e f g j k l m o q s w) h
def k3_3 : KF := K7 y2 y4 y5 y7 y8 y9 y10 fun c i x h a b d e f g j=>
 U [i0,i0,i0,i0,iS,i0,i0,i0,iS,iS,.nils,.nils] [.mk 0 1 (.c (pi 2)),.mk 1 1 (.c (pi 6)),.mk 2 1 (.c (pi 3)),.mk 4 1 (.c (.str [118]))] h fun k h=>
 C c 7 [d,k] h fun l h=>
 M 7 e h fun m h=>
 U [i0,i0,i0,i0,iS,i0,i0,i0,iS,iS,.nils,.nils] [.mk 0 1 (.c i1),.mk 1 1 (.c (pi 16)),.mk 5 7 (.c m)] h fun n h=>
 C c 7 [d,n] h fun o h=>
 U [i0,i0,i0,iS,iS,.nils,.nils] [.mk 2 1 (.c (pi 1099511627776))] h fun p h=>
 U [i0,i0,i0,i0,iS,i0,i0,i0,iS,iS,.nils,.nils] [.mk 0 1 (.c i1),.mk 1 1 (.c (pi 7)),.mk 5 7 (.c p)] h fun q h=>
 C c 7 [d,q] h fun s h=>
 C c 8 [(pi 10001)] h fun t h=>
 tR (cK .b2s t h) fun v h=>
 U [i0,i0,i0,iS,iS,.nils,.nils] [.mk 4 1 (.c v)] h fun w h=>
 U [i0,i0,i0,i0,iS,i0,i0,i0,iS,iS,.nils,.nils] [.mk 0 1 (.c i1),.mk 1 1 (.c (pi 7)),.mk 5 7 (.c w)] h fun y h=>
 C c 7 [d,y] h fun z h=>
 x (T4 a b d f g j l o s z) h
def k3_2 : KF := K3 y2 y4 y5 fun c i x h a b d=>
 C c 6 [] h fun e h=>
 C c 5 [(.str [117]),e] h fun f h=>
 O 29 7 (.k1 (Y7 i0 i0 i0 iS iS .nils .nils)) h fun g h=>
 S 7 g f h fun j h=>
 U [i0,i0,i0,i0,iS,i0,i0,i0,iS,iS,.nils,.nils] [.mk 0 1 (.c (pi 7)),.mk 2 1 (.c i1)] h fun k h=>
 C c 7 [d,k] h fun l h=>
 U [i0,i0,i0,i0,iS,i0,i0,i0,iS,iS,.nils,.nils] [.mk 0 1 (.c (pi 7)),.mk 2 1 (.c (pi 2))] h fun m h=>
 C c 7 [d,m] h fun n h=>
 M 7 g h fun o h=>
 U [i0,i0,i0,i0,iS,i0,i0,i0,iS,iS,.nils,.nils] [.mk 0 1 (.c i1),.mk 1 1 (.c (pi 5)),.mk 5 7 (.c o)] h fun p h=>
 C c 7 [d,p] h fun q h=>
 M 7 g h fun s h=>
 U [i0,i0,i0,i0,iS,i0,i0,i0,iS,iS,.nils,.nils] [.mk 0 1 (.c i1),.mk 1 1 (.c (pi 5)),.mk 5 7 (.c s)] h fun t h=>
 C c 7 [d,t] h fun v h=>
 U [i0,i0,i0,i0,iS,i0,i0,i0,iS,iS,.nils,.nils] [.mk 0 1 (.c (pi 2)),.mk 1 1 (.c (pi 6)),.mk 2 1 (.c i1),.mk 4 1 (.c (.str [118]))] h fun w h=>
 C c 7 [d,w] h fun y h=>
 x (T3 a b d g q v y) h
def k3_1 : KF := K4 y2 y4 y5 y6 fun c i x h a b d e=>
 tR (bK .peq d .nilp h) fun f h=>
 gD f false (fun g=>g e h) h fun g h=>
 gD f false (fun j=>tR (b_ne g i0 h) fun k h=>
 j k h) h fun j h=>
 tR (o_pick (.c f) (.c (.bool true)) (.c j) .nil h) fun k h=>
 I k (.ret (T1 (.bool false)) h) (x (T2 a b d) h)
def k3_0 : KF := fun c i x r h=>
 C c 4 [i0] h fun a h=>
 E 0 a h fun b h=>
 E 1 a h fun d h=>
 C c 4 [(pi 6)] h fun e h=>
 E 0 e h fun f h=>
 E 1 e h fun g h=>
 C c 4 [(pi 3)] h fun j h=>
 E 0 j h fun k h=>
 E 1 j h fun l h=>
 x (T0 d g k l) h
def x3 : AC := (.shal k3_0 (.shal k3_1 (.shal k3_2 (.shal k3_3 (.shal k3_4 (.shal k3_5 (.shal k3_6 (.seq (.seq (.ops [m d125 r19,
 o d126 (.len r125),
 o d127 (.bin .ne r126 a1),
 m d128 r127,
 .g .h8 .h0 false d129 (.op (.mv r20)),
 .g .h8 .h0 false d130 (.op (.len r129)),
 .g .h8 .h0 false d131 (.op (.bin .ne r130 a2)),
 o d132 (.pick r128 (.c (.bool true)) r131),
 m d133 r132,
 .g .h8 .h5 false d134 (.op (.mv r21)),
 .g .h8 .h5 false d135 (.op (.len r134)),
 .g .h8 .h5 false d136 (.op (.bin .ne r135 a2)),
 o d137 (.pick r133 (.c (.bool true)) r136),
 m d138 r137,
 .g .h8 .ha false d139 (.op (.mv r22)),
 .g .h8 .ha false d140 (.op (.len r139)),
 .g .h8 .ha false d141 (.op (.bin .ne r140 a2)),
 o d142 (.pick r138 (.c (.bool true)) r141)]) (.shal k3_7 .skip)) (.seq (.opsb 2 [m d127 r2,
 o d128 (.bin .eq r127 a1),
 m d129 r128,
 .g .h8 .h1 true d130 (.op (.mv r4)),
 .g .h8 .h1 true d131 (.op (.bin .eq r130 a1)),
 o d132 (.pick r129 r131 (.c (.bool false))),
 m d133 r132,
 .g .h8 .h5 true d134 (.op (.mv r8)),
 .g .h8 .h5 true d135 (.op (.len r134)),
 .g .h8 .h5 true d136 (.op (.bin .eq r135 a1)),
 o d137 (.pick r133 r136 (.c (.bool false))),
 m d138 r137,
 .g .h8 .ha true d139 (.op (.mv r9)),
 .g .h8 .ha true d140 (.call 15 [r139]),
 o d141 (.pick r138 r140 (.c (.bool false))),
 m d142 r141,
 .g .h8 .he true d143 (.op (.mv r10)),
 .g .h8 .he true d144 (.call 15 [r143]),
 o d145 (.pick r142 r144 (.c (.bool false))),
 m d146 r145,
 .g .h9 .h2 true d147 (.op (.mv r11)),
 .g .h9 .h2 true d148 (.call 15 [r147]),
 o d149 (.pick r146 r148 (.c (.bool false))),
 m d150 r149,
 .g .h9 .h6 true d151 (.op (.mv r12)),
 .g .h9 .h6 true d152 (.call 15 [r151]),
 o d153 (.pick r150 r152 (.c (.bool false))),
 m d154 r153,
 .g .h9 .ha true d155 (.op (.mv r13)),
 .g .h9 .ha true d156 (.call 15 [r155]),
 o d157 (.pick r154 r156 (.c (.bool false))),
 m d158 r157,
 .g .h9 .he true d159 (.op (.mv r14)),
 .g .h9 .he true d160 (.call 15 [r159]),
 o d161 (.pick r158 r160 (.c (.bool false))),
 m d162 r161,
 .g .ha .h2 true d163 (.op (.mv r15)),
 .g .ha .h2 true d164 (.op (.len r163)),
 .g .ha .h2 true d165 (.op (.bin .eq r164 a0)),
 o d166 (.pick r162 r165 (.c (.bool false))),
 m d167 r166,
 .g .ha .h7 true d168 (.op (.mv r17)),
 .g .ha .h7 true d169 (.op (.bslice 3 1 1 [i0] [.mk 0 1 (.c (pi 5))])),
 .g .ha .h7 true d170 (.call 16 [r168,r169]),
 o d171 (.pick r167 r170 (.c (.bool false))),
 m d172 r171,
 .g .ha .hc true d173 (.op (.mv r18)),
 .g .ha .hc true d174 (.op (.un .not r173)),
 o d175 (.pick r172 r174 (.c (.bool false))),
 m d176 r175,
 .g .hb .h0 true d177 (.op (.mv r19)),
 .g .hb .h0 true d178 (.op (.ixs 18 r177 a0)),
 .g .hb .h0 true d179 (.op (.fad 1 r178)),
 .g .hb .h0 true d180 (.op (.ld1 r179)),
 .g .hb .h0 true d181 (.op (.bin .eq r180 (.c (pi 5)))),
 o d182 (.pick r176 r181 (.c (.bool false))),
 m d183 r182,
 .g .hb .h7 true d184 (.op (.mv r19)),
 .g .hb .h7 true d185 (.op (.ixs 18 r184 a0)),
 .g .hb .h7 true d186 (.op (.fad 14 r185)),
 .g .hb .h7 true d187 (.op (.ldn 3 r186)),
 .g .hb .h7 true d188 (.op (.build [i0,i0,iS] [])),
 .g .hb .h7 true d189 (.op (.bin (.aeq [.i,.i,.s]) r187 r188)),
 o d190 (.pick r183 r189 (.c (.bool false))),
 m d191 r190,
 .g .hb .hf true d192 (.op (.mv r20)),
 .g .hb .hf true d193 (.op (.ixs 18 r192 a1)),
 .g .hb .hf true d194 (.op (.fad 14 r193)),
 .g .hb .hf true d195 (.op (.ldn 3 r194)),
 .g .hb .hf true d196 (.op (.build [i0,i0,iS] [])),
 .g .hb .hf true d197 (.op (.bin (.aeq [.i,.i,.s]) r195 r196)),
 o d198 (.pick r191 r197 (.c (.bool false))),
 m d199 r198,
 .g .hc .h7 true d200 (.op (.mv r21)),
 .g .hc .h7 true d201 (.op (.ixs 18 r200 a1)),
 .g .hc .h7 true d202 (.op (.fad 14 r201)),
 .g .hc .h7 true d203 (.op (.ldn 3 r202)),
 .g .hc .h7 true d204 (.op (.build [i0,i0,iS] [])),
 .g .hc .h7 true d205 (.op (.bin (.aeq [.i,.i,.s]) r203 r204)),
 o d206 (.pick r199 r205 (.c (.bool false))),
 m d207 r206,
 .g .hc .hf true d208 (.op (.mv r21)),
 .g .hc .hf true d209 (.op (.ixs 18 r208 a1)),
 .g .hc .hf true d210 (.op (.fad 17 r209)),
 .g .hc .hf true d211 (.op (.ld1 r210)),
 .g .hc .hf true d212 (.op (.len r211)),
 .g .hc .hf true d213 (.op (.bin .eq r212 a0)),
 o d214 (.pick r207 r213 (.c (.bool false))),
 m d215 r214,
 .g .hd .h7 true d216 (.op (.mv r22)),
 .g .hd .h7 true d217 (.op (.ixs 18 r216 a1)),
 .g .hd .h7 true d218 (.op (.fad 14 r217)),
 .g .hd .h7 true d219 (.op (.fad 0 r218)),
 .g .hd .h7 true d220 (.op (.ld1 r219)),
 .g .hd .h7 true d221 (.op (.bin .eq r220 a0)),
 .g .hd .h7 true d222 (.op (.mv r221)),
 .g .hd .he false d223 (.op (.mv r22)),
 .g .hd .he false d224 (.op (.ixs 18 r223 a1)),
 .g .hd .he false d225 (.op (.fad 14 r224)),
 .g .hd .he false d226 (.op (.fad 0 r225)),
 .g .hd .he false d227 (.op (.ld1 r226)),
 .g .hd .he false d228 (.op (.bin .eq r227 (.c (pi 29)))),
 .g .hd .h7 true d229 (.op (.pick r222 (.c (.bool true)) r228)),
 o d230 (.pick r215 r229 (.c (.bool false))),
 m d231 r230,
 .g .he .h7 true d232 (.op (.mv r24)),
 .g .he .h7 true d233 (.op (.un .not r232)),
 o d234 (.pick r231 r233 (.c (.bool false))),
 m d235 r234,
 .g .he .hb true d236 (.op (.mv r26)),
 o d237 (.pick r235 r236 (.c (.bool false))),
 m d238 r237,
 .g .he .he true d239 (.op (.mv r25)),
 .g .he .he true d240 (.op (.len r239)),
 .g .he .he true d241 (.op (.bin .eq r240 a0)),
 o d242 (.pick r238 r241 (.c (.bool false))),
 m d243 r242,
 .g .hf .h3 true d244 (.op (.mv r5)),
 .g .hf .h3 true d245 (.call 17 [r244,a0]),
 .g .hf .h3 true d246 (.op (.bin .eq r245 a0)),
 o d247 (.pick r243 r246 (.c (.bool false))),
 m d248 r247,
 .g .hf .h8 true d249 (.op (.mv r5)),
 .g .hf .h8 true d250 (.call 17 [r249,a1]),
 .g .hf .h8 true d251 (.op (.bin .eq r250 a2)),
 o d252 (.pick r248 r251 (.c (.bool false))),
 m d253 r252,
 .g .hf .hd true d254 (.call 18 []),
 o d255 (.pick r253 r254 (.c (.bool false))),
 m d0 r255]) .ret)))))))))
def f3 : AF := .mk x3 [.t .h0 .h0]
def k4_3 : KF := K3 y6 y21 y22 fun c i x h a b d=>
 D d i1 h fun e h=>
 .nm (T10 a b e) h
def k4_2 : KF := K3 y6 y21 y22 fun c i x h a b d=>
 Y d b h fun e h=>
 I e (x (T10 a b d) h) (.ex 0 (T11 a) h)
def k4_1 : KF := K2 y0 y6 fun c i x h a b=>
 x (T10 b a i0) h
def k4_4 : KF := K1 y6 fun c i x h a=>
 .ret (T8 a i0) h
def k4_0 : KF := K1 y0 fun c i x h a=>
 C c 19 [a] h fun b h=>
 E 0 b h fun d h=>
 E 1 b h fun e h=>
 tR (b_ne e i0 h) fun f h=>
 I f (.ret (T8 .nilp e) h) (tR (o_mkslice 3 [i0] (.c a) (.c a) .nil h) fun g h=>
 U [.nilp,i0,.nils,.nils,(.bool false),(.bool false),i0,i0,i0,i0,i0,iS,i0,i0,i0,iS,iS,.nils,.nils,iS,i0,i0,(.bool false),(.bool false),i0,i0,i0,i0,i0,iS,i0,i0,i0,iS,iS,.nils,.nils,iS,i0,i0,(.bool false),(.bool false),i0,i0,i0,i0,i0,iS,i0,i0,i0,iS,iS,.nils,.nils,iS,i0,i0,(.bool false),(.bool false),i0,i0,i0,i0,i0,iS,i0,i0,i0,iS,iS,.nils,.nils,iS,i0,i0,(.bool false),(.bool false),i0,i0,i0,i0,i0,iS,i0,i0,i0,iS,iS,.nils,.nils,iS,i0,i0,(.bool false),(.bool false),i0,i0,i0,i0,i0,iS,i0,i0,i0,iS,iS,.nils,.nils,iS,i0,i0,(.bool false),(.bool false),i0,i0,i0,i0,i0,iS,i0,i0,i0,iS,iS,.nils,.nils,iS,i0,i0,(.bool false),(.bool false),i0,i0,i0,i0,i0,iS,i0,i0,i0,iS,iS,.nils,.nils,iS,i0,i0,(.bool false),(.bool false),i0,i0,i0,i0,i0,iS,i0,i0,i0,iS,iS,.nils,.nils,iS,i0,i0,(.bool false),(.bool false),i0,i0,i0,i0,i0,iS,i0,i0,i0,iS,iS,.nils,.nils,iS,i0,i0,(.bool false),(.bool false),i0,i0,i0,i0,i0,iS,i0,i0,i0,iS,iS,.nils,.nils,iS,i0,i0,(.bool false),(.bool false),i0,i0,i0,i0,i0,iS,i0,i0,i0,iS,iS,.nils,.nils,iS,i0,i0,(.bool false),(.bool false),i0,i0,i0,i0,i0,iS,i0,i0,i0,iS,iS,.nils,.nils,iS,i0,i0,(.bool false),(.bool false),i0,i0,i0,i0,i0,iS,i0,i0,i0,iS,iS,.nils,.nils,iS,i0,i0,(.bool false),(.bool false),i0,i0,i0,i0,i0,iS,i0,i0,i0,iS,iS,.nils,.nils,iS,i0,i0,(.bool false),(.bool false),i0,i0,i0,i0,i0,iS,i0,i0,i0,iS,iS,.nils,.nils,iS,i0,i0,i0,.nils] [.mk 0 1 (.c d),.mk 1 1 (.c a),.mk 3 1 (.c g)] h fun j h=>
 B 65 j h fun k h=>
 x (T9 a k) h)
def x4 : AC := (.shal k4_0 (.seq (.shal k4_1 (.block 0 (.loop (.shal k4_2 (.seq (.block 1 (.drw [w (oc d29 20 []),
 w (o d30 (.bslice 66 1 1 [.nilp] [.mk 0 1 r29])),
 q 2 (m d25 r6),
 qj 2 d26 r25,
 qf 2 d27 2 r26,
 ql 2 d28 r27,
 w (o d31 (.app 66 1 r28 r30)),
 q 3 (m d24 r6),
 qj 0 d32 r24,
 qf 0 d33 2 r32,
 w (os r33 r31)])) (.shal k4_3 .skip)))))) (.shal k4_4 .skip)))
def f4 : AF := .mk x4 [.t .h0 .h2,.t .h0 .h3]
def k5_0 : KF := K2 y0 y1 fun c i x h a b=>
 O 29 7 (.k1 (Y7 i0 i0 i0 iS iS .nils .nils)) h fun d h=>
 tR (bs 69 2 0 [] [] h) fun e h=>
 tR (appV 69 2 e b h) fun f h=>
 U [i0,i0,i0,iS,iS,.nils,.nils] [.mk 2 1 (.c i1),.mk 3 1 (.c a),.mk 5 1 (.c f)] h fun g h=>
 S 7 d g h fun j h=>
 .ret (T12 d) h
def x5 : AC := (.shal k5_0 .skip)
def f5 : AF := .mk x5 [.agg 7 .h0 .h4]
def k6_0 : KF := fun c i x r h=>
 U [iS,i0] [.mk 0 1 (.c (.str [97])),.mk 1 1 (.c i1)] h fun a h=>
 U [iS,i0] [.mk 0 1 (.c (.str [99])),.mk 1 1 (.c i1)] h fun b h=>
 tR (bs 69 2 2 [iS,i0,iS,i0] [.mk 0 2 (.c a),.mk 2 2 (.c b)] h) fun d h=>
 .ret (T1 d) h
def x6 : AC := (.shal k6_0 .skip)
def f6 : AF := .mk x6 [.t .h0 .h0]
def k7_3 : KF := K2 y0 y3 fun c i x h a b=>
 M 12 b h fun d h=>
 C c 21 [a,d] h fun e h=>
 .nm (T1 a) h
def k7_5 : KF := K2 y0 y3 fun c i x h a b=>
 M 12 b h fun d h=>
 C c 22 [a,d] h fun e h=>
 .nm (T1 a) h
def k7_8 : KF := K2 y0 y3 fun c i x h a b=>
 tQ (nC a h) fun d=>
 tQ (fA 0 d h) fun e=>
 tQ (lD e h) fun f=>
 tQ (fA 3 b h) fun g=>
 tQ (lD g h) fun j=>
 tQ (bl [i0,i0,i0,iS] [.mk 0 1 (.c (pi 4)),.mk 2 1 (.c j)] h) fun k=>
 tX (c 24 [f,k] h) fun l h=>
 .nm (T1 a) h
def k7_10 : KF := K2 y0 y3 fun c i x h a b=>
 tQ (nC a h) fun d=>
 tQ (fA 0 d h) fun e=>
 tQ (lD e h) fun f=>
 tQ (fA 3 b h) fun g=>
 tQ (lD g h) fun j=>
 tQ (bl [i0,i0,i0,iS] [.mk 0 1 (.c (pi 5)),.mk 2 1 (.c j)] h) fun k=>
 tX (c 24 [f,k] h) fun l h=>
 .nm (T1 a) h
def k7_12 : KF := K1 y0 fun c i x h a=>
 C c 25 [a] h fun b h=>
 .nm (T1 a) h
def k7_14 : KF := K2 y0 y3 fun c i x h a b=>
 A 2 b h fun d h=>
 L d h fun e h=>
 A 3 b h fun f h=>
 L f h fun g h=>
 C c 26 [a,e,g] h fun j h=>
 .nm (T1 a) h
def k7_16 : KF := K2 y0 y3 fun c i x h a b=>
 A 2 b h fun d h=>
 L d h fun e h=>
 C c 27 [a,e] h fun f h=>
 .nm (T1 a) h
def k7_17 : KF := K2 y0 y7 fun c i x h a b=>
 Q b (pi 9) h fun d h=>
 x (T23 a d) h
def k7_15 : KF := K3 y0 y3 y7 fun c i x h a b d=>
 Q d (pi 8) h fun e h=>
 x (T22 a b d e) h
def k7_13 : KF := K3 y0 y3 y7 fun c i x h a b d=>
 Q d (pi 7) h fun e h=>
 x (T21 a b d e) h
def k7_11 : KF := K3 y0 y3 y7 fun c i x h a b d=>
 Q d (pi 6) h fun e h=>
 x (T20 a b d e) h
def k7_9 : KF := K3 y0 y3 y7 fun c i x h a b d=>
 Q d (pi 5) h fun e h=>
 x (T19 a b d e) h
def k7_7 : KF := K3 y0 y3 y7 fun c i x h a b d=>
 Q d (pi 4) h fun e h=>
 x (T18 a b d e) h
def k7_6 : KF := K3 y0 y3 y7 fun c i x h a b d=>
 Q d (pi 3) h fun e h=>
 x (T17 a b d e) h
def k7_4 : KF := K3 y0 y3 y7 fun c i x h a b d=>
 Q d (pi 2) h fun e h=>
 x (T16 a b d e) h
def k7_2 : KF := K3 y0 y3 y7 fun c i x h a b d=>
 Q d i1 h fun e h=>
 x (T15 a b d e) h
def k7_1 : KF := K2 y0 y3 fun c i x h a b=>
 A 0 b h fun d h=>
 L d h fun e h=>
 x (T14 a b e) h
def k7_18 : KF := K1 y0 fun c i x h a=>
 C c 31 [a] h fun b h=>
 .ret (T12 b) h
def k7_0 : KF := K2 y0 y1 fun c i x h a b=>
 B 35 b h fun d h=>
 x (T13 a d) h
def x7 : AC := (.shal k7_0 (.seq (.shal k7_1 (.block 0 (.shal k7_2 (.cond r8 (.shal k7_3 .skip) (.shal k7_4 (.cond r13 (.shal k7_5 .skip) (.shal k7_6 (.cond r18 (.drw [q 0 (m d21 r0),
 qj 0 d22 r21,
 qf 0 d23 0 r22,
 ql 0 d24 r23,
 qf 0 d25 3 r3,
 ql 0 d26 r25,
 q 0 (o d27 (.build [i0,i0,i0,iS] [.mk 0 1 (.c (pi 3)),.mk 2 1 r26])),
 w (oc d28 24 [r24,r27]),
 q 1 (m d20 r0),
 w (oc d29 23 [r20,r28])]) (.shal k7_7 (.cond r30 (.shal k7_8 .skip) (.shal k7_9 (.cond r40 (.shal k7_10 .skip) (.shal k7_11 (.cond r50 (.seq (.drw [q 0 (m d53 r0),
 qj 0 d54 r53,
 qf 0 d55 0 r54,
 ql 0 d56 r55,
 qf 0 d57 2 r3,
 ql 0 d58 r57,
 qf 0 d59 3 r3,
 ql 0 d60 r59,
 q 0 (o d61 (.build [i0,i0,i0,iS] [.mk 0 1 (.c (pi 6)),.mk 1 1 r58,.mk 2 1 r60])),
 w (oc d62 24 [r56,r61]),
 q 1 (m d52 r0),
 w (oc d63 23 [r52,r62])]) (.shal k7_12 .skip)) (.shal k7_13 (.cond r66 (.shal k7_14 .skip) (.shal k7_15 (.cond r74 (.shal k7_16 .skip) (.shal k7_17 (.cond r80 (.bad 0) .skip)))))))))))))))))))) (.shal k7_18 .skip)))
def f7 : AF := .mk x7 [.t .h0 .h4]
def k8_0 : KF := K1 y0 fun c i x h a=>
 tR (o_mkslice 5 [(.int .u8 (.ofNat 0))] (.c a) (.c a) .nil h) fun b h=>
 .ret (T24 b) h
def x8 : AC := (.shal k8_0 .skip)
def f8 : AF := .mk x8 [.t .h0 .h2]
def k9_4 : KF := K4 y0 y1 y6 y46 fun c i x h a b d e=>
 I e (.go 0 (T26 a b d) h) (.nm (T26 a b d) h)
def k9_5 : KF := K2 y0 y6 fun c i x h a b=>
 C c 31 [a] h fun d h=>
 .ret (T28 d b) h
def k9_3 : KF := K3 y0 y1 y6 fun c i x h a b d=>
 J a h fun e h=>
 A 0 e h fun f h=>
 L f h fun g h=>
 Z b d h fun j h=>
 C c 32 [g,j] h fun k h=>
 E 0 k h fun l h=>
 E 1 k h fun m h=>
 C c 23 [a,l] h fun n h=>
 D d m h fun o h=>
 x (T27 a b o m) h
def k9_2 : KF := K3 y0 y1 y6 fun c i x h a b d=>
 Y d b h fun e h=>
 I e (C c 25 [a] h fun f h=>
 x (T26 a b d) h) (x (T26 a b d) h)
def k9_1 : KF := K2 y0 y1 fun c i x h a b=>
 tR (maxV false [b,i0] h) fun d h=>
 tR (maxV true [d,(pi 20000)] h) fun e h=>
 x (T26 a e i0) h
def k9_0 : KF := K2 y0 y1 fun c i x h a b=>
 x (T25 a b) h
def x9 : AC := (.shal k9_0 (.scope (.shal k9_1 (.seq (.label 0) (.shal k9_2 (.shal k9_3 (.seq (.seq (.ops [m d34 r8,
 o d35 (.bin .gt r34 a0),
 m d36 r35,
 .g .h2 .h4 true d37 (.op (.mv r6)),
 .g .h2 .h4 true d38 (.op (.mv r1)),
 .g .h2 .h4 true d39 (.op (.bin .lt r37 r38)),
 o d40 (.pick r36 r39 (.c (.bool false))),
 m d41 r40,
 .g .h2 .h9 true d42 (.op (.mv r0)),
 .g .h2 .h9 true d43 (.call 10 [r42]),
 .g .h2 .h9 true d44 (.op (.len r43)),
 .g .h2 .h9 true d45 (.op (.bin .gt r44 a0)),
 o d46 (.pick r41 r45 (.c (.bool false)))]) (.shal k9_4 .skip)) (.shal k9_5 .skip))))))))
def f9 : AF := .mk x9 [.t .h0 .h4,.t .h0 .h5]
def k10_2 : KF := K3 y3 y9 y10 fun c i x h a b d=>
 Y d (pi 16) h fun e h=>
 I e (tR (o_idxa 16 18 true (.c b) (.c d) .nil h) fun f h=>
 O 62 18 (.k2 (.mk (.mk (.bool false) (.bool false) i0 i0 i0 i0 i0 iS i0 i0 i0 iS iS .nils .nils iS) (Y2 i0 i0) .nil .nil .nil .nil .nil .nil .nil .nil .nil .nil .nil .nil .nil .nil)) h fun g h=>
 S 18 g f h fun j h=>
 A 0 g h fun k h=>
 L k h fun l h=>
 I l (tR (bs 3 1 1 [i0] [.mk 0 1 (.c d)] h) fun m h=>
 tR (appV 3 1 a m h) fun n h=>
 D d i1 h fun o h=>
 .nm (T29 n b o) h) (D d i1 h fun m h=>
 .nm (T29 a b m) h)) (.ex 0 (T29 a b d) h)
def k10_1 : KF := K2 y0 y3 fun c i x h a b=>
 J a h fun d h=>
 A 4 d h fun e h=>
 M 288 e h fun f h=>
 x (T29 b f i0) h
def k10_3 : KF := K1 y3 fun c i x h a=>
 .ret (T24 a) h
def k10_0 : KF := K1 y0 fun c i x h a=>
 x (T13 a .nils) h
def x10 : AC := (.shal k10_0 (.seq (.shal k10_1 (.block 0 (.loop (.shal k10_2 .skip)))) (.shal k10_3 .skip)))
def f10 : AF := .mk x10 [.t .h0 .h2]
def k11_0 : KF := K2 y0 y1 fun c i x h a b=>
 J a h fun d h=>
 A 0 d h fun e h=>
 L e h fun f h=>
 C c 28 [f,b] h fun g h=>
 .ret (T12 g) h
def x11 : AC := (.shal k11_0 .skip)
def f11 : AF := .mk x11 [.t .h0 .h4]
def k12_0 : KF := K2 y0 y1 fun c i x h a b=>
 C c 9 [a,(pi 20000)] h fun d h=>
 E 0 d h fun e h=>
 E 1 d h fun f h=>
 tR (bs 54 18 0 [] [] h) fun g h=>
 tR (appV 54 18 g b h) fun j h=>
 tR (appV 54 18 j e h) fun k h=>
 .ret (T12 k) h
def x12 : AC := (.shal k12_0 .skip)
def f12 : AF := .mk x12 [.t .h0 .h4]
def k13_0 : KF := K2 y0 y1 fun c i x h a b=>
 O 29 7 (.k1 (Y7 i0 i0 i0 iS iS .nils .nils)) h fun d h=>
 U [i0,i0,i0,iS,iS,.nils,.nils] [.mk 2 1 (.c (pi 3)),.mk 3 1 (.c a),.mk 4 1 (.c b)] h fun e h=>
 S 7 d e h fun f h=>
 .ret (T12 d) h
def x13 : AC := (.shal k13_0 .skip)
def f13 : AF := .mk x13 [.agg 7 .h0 .h4]
def k14_1 : KF := K3 y0 y1 y2 fun c i x h a b d=>
 J a h fun e h=>
 A 2 e h fun f h=>
 L f h fun g h=>
 X 1 g b h fun j h=>
 L j h fun k h=>
 C c 33 [k,d] h fun l h=>
 E 0 l h fun m h=>
 E 1 l h fun n h=>
 .ret (T30 m n) h
def k14_0 : KF := K3 y0 y1 y2 fun c i x h a b d=>
 J a h fun e h=>
 A 0 e h fun f h=>
 L f h fun g h=>
 C c 28 [g,b] h fun j h=>
 tR (u_not j h) fun k h=>
 I k (.ret (T30 .nils (.bool false)) h) (x (T31 a b d) h)
def x14 : AC := (.shal k14_0 (.shal k14_1 .skip))
def f14 : AF := .mk x14 [.t .h0 .h6,.t .h0 .h7]
def k15_0 : KF := K1 y0 fun c i x h a=>
 x (T1 a) h
def x15 : AC := (.shal k15_0 (.seq (.ops [m d3 r0,
 o d4 (.len r3),
 o d5 (.bin .eq r4 a1),
 m d6 r5,
 .g .h0 .h6 true d7 (.op (.mv r0)),
 .g .h0 .h6 true d8 (.op (.ixs 18 r7 a0)),
 .g .h0 .h6 true d9 (.op (.fad 0 r8)),
 .g .h0 .h6 true d10 (.op (.ld1 r9)),
 .g .h0 .h6 true d11 (.op (.bin .eq r10 (.c (pi 3)))),
 o d12 (.pick r6 r11 (.c (.bool false))),
 m d2 r12]) .ret))
def f15 : AF := .mk x15 [.t .h0 .h2]
def k16_2 : KF := K3 y0 y1 y5 fun c i x h a b d=>
 G a h fun e h=>
 Y d e h fun f h=>
 I f (tQ (iX 1 a d h) fun g=>
 tQ (lD g h) fun j=>
 tQ (iX 1 b d h) fun k=>
 tQ (lD k h) fun l=>
 tQ (b_ne j l h) fun m=>
 I m (.ret (T12 (.bool false)) h) (D d i1 h fun n h=>
 .nm (T32 a b n) h)) (.ex 0 (T32 a b d) h)
def k16_1 : KF := K2 y0 y1 fun c i x h a b=>
 x (T32 a b i0) h
def k16_3 : KF := fun c i x r h=>
 .ret (T12 (.bool true)) h
def k16_0 : KF := K2 y0 y1 fun c i x h a b=>
 G a h fun d h=>
 G b h fun e h=>
 tR (b_ne d e h) fun f h=>
 I f (.ret (T12 (.bool false)) h) (x (T25 a b) h)
def x16 : AC := (.shal k16_0 (.seq (.shal k16_1 (.block 0 (.loop (.shal k16_2 .skip)))) (.shal k16_3 .skip)))
def f16 : AF := .mk x16 [.t .h0 .h4]
def k17_0 : KF := K2 y0 y1 fun c i x h a b=>
 J a h fun d h=>
 A 0 d h fun e h=>
 L e h fun f h=>
 C c 28 [f,b] h fun g h=>
 tR (u_not g h) fun j h=>
 I j (.ret (T12 i0) h) (J a h fun k h=>
 A 2 k h fun l h=>
 L l h fun m h=>
 X 1 m b h fun n h=>
 L n h fun o h=>
 C c 34 [o] h fun p h=>
 .ret (T12 p) h)
def x17 : AC := (.shal k17_0 .skip)
def f17 : AF := .mk x17 [.t .h0 .h4]
def k18_2 : KF := K1 y1 fun c i x h a=>
 C c 35 [] h fun b h=>
 C c 5 [(.str [116]),b] h fun d h=>
 U [i0,i0,i0,i0,iS,i0,i0,i0,iS,iS,.nils,.nils] [.mk 0 1 (.c i1),.mk 5 7 (.c d)] h fun e h=>
 C c 7 [a,e] h fun f h=>
 C c 12 [a,f] h fun g h=>
 U [i0,i0,i0,i0,iS,i0,i0,i0,iS,iS,.nils,.nils] [.mk 0 1 (.c (pi 2)),.mk 2 1 (.c i1),.mk 4 1 (.c (.str [118]))] h fun j h=>
 C c 7 [a,j] h fun k h=>
 C c 12 [a,k] h fun l h=>
 x (T35 a g l) h
def k18_1 : KF := K2 y1 y2 fun c i x h a b=>
 tR (bK .peq a .nilp h) fun d h=>
 gD d false (fun e=>e b h) h fun e h=>
 gD d false (fun f=>tR (b_ne e i0 h) fun g h=>
 f g h) h fun f h=>
 tR (o_pick (.c d) (.c (.bool true)) (.c f) .nil h) fun g h=>
 I g (.ret (T1 (.bool false)) h) (x (T34 a) h)
def k18_0 : KF := fun c i x r h=>
 C c 4 [(pi 3)] h fun a h=>
 E 0 a h fun b h=>
 E 1 a h fun d h=>
 x (T33 b d) h
def x18 : AC := (.shal k18_0 (.shal k18_1 (.shal k18_2 (.seq (.ops [m d27 r3,
 o d28 (.len r27),
 o d29 (.bin .eq r28 a2),
 m d30 r29,
 .g .h1 .he true d31 (.op (.mv r3)),
 .g .h1 .he true d32 (.op (.ixs 18 r31 a0)),
 .g .h1 .he true d33 (.op (.fad 0 r32)),
 .g .h1 .he true d34 (.op (.ld1 r33)),
 .g .h1 .he true d35 (.op (.bin .eq r34 a1)),
 o d36 (.pick r30 r35 (.c (.bool false))),
 m d37 r36,
 .g .h2 .h5 true d38 (.op (.mv r3)),
 .g .h2 .h5 true d39 (.op (.ixs 18 r38 a1)),
 .g .h2 .h5 true d40 (.op (.fad 0 r39)),
 .g .h2 .h5 true d41 (.op (.ld1 r40)),
 .g .h2 .h5 true d42 (.op (.bin .eq r41 a2)),
 o d43 (.pick r37 r42 (.c (.bool false))),
 m d44 r43,
 .g .h2 .hc true d45 (.op (.mv r3)),
 .g .h2 .hc true d46 (.op (.ixs 18 r45 a1)),
 .g .h2 .hc true d47 (.op (.fad 14 r46)),
 .g .h2 .hc true d48 (.op (.ldn 3 r47)),
 .g .h2 .hc true d49 (.op (.build [i0,i0,iS] [])),
 .g .h2 .hc true d50 (.op (.bin (.aeq [.i,.i,.s]) r48 r49)),
 o d51 (.pick r44 r50 (.c (.bool false))),
 m d52 r51,
 .g .h3 .h4 true d53 (.op (.mv r4)),
 .g .h3 .h4 true d54 (.op (.len r53)),
 .g .h3 .h4 true d55 (.op (.bin .eq r54 a2)),
 o d56 (.pick r52 r55 (.c (.bool false))),
 m d57 r56,
 .g .h3 .h9 true d58 (.op (.mv r4)),
 .g .h3 .h9 true d59 (.op (.ixs 18 r58 a1)),
 .g .h3 .h9 true d60 (.op (.fad 14 r59)),
 .g .h3 .h9 true d61 (.op (.ldn 3 r60)),
 .g .h3 .h9 true d62 (.op (.build [i0,i0,iS] [.mk 0 1 (.c (pi 20))])),
 .g .h3 .h9 true d63 (.op (.bin (.aeq [.i,.i,.s]) r61 r62)),
 o d64 (.pick r57 r63 (.c (.bool false))),
 m d65 r64,
 .g .h4 .h1 true d66 (.op (.mv r1)),
 .g .h4 .h1 true d67 (.call 10 [r66]),
 .g .h4 .h1 true d68 (.op (.len r67)),
 .g .h4 .h1 true d69 (.op (.bin .eq r68 a0)),
 o d70 (.pick r65 r69 (.c (.bool false))),
 m d0 r70]) .ret))))
def f18 : AF := .mk x18 [.t .h0 .h0]
def k19_1 : KF := K1 y0 fun c i x h a=>
 U [i0,iS,.nils,i0,iS,.nils,i0,iS,.nils,i0,iS,.nils,i0,iS,.nils,.nils] [] h fun b h=>
 B 90 b h fun d h=>
 U [.nilp,.nilp] [.mk 1 1 (.c d)] h fun e h=>
 B 93 e h fun f h=>
 J f h fun g h=>
 A 1 g h fun j h=>
 L j h fun k h=>
 C c 36 [a,(.iface 84 k)] h fun l h=>
 J f h fun m h=>
 A 0 m h fun n h=>
 W n l h fun o h=>
 .ret (T8 f i0) h
def k19_0 : KF := K1 y0 fun c i x h a=>
 Y a i1 h fun b h=>
 gD b false (fun d=>d a h) h fun d h=>
 gD b false (fun e=>tR (b_gt d (pi 5) h) fun f h=>
 e f h) h fun e h=>
 tR (o_pick (.c b) (.c (.bool true)) (.c e) .nil h) fun f h=>
 I f (.ret (T8 .nilp i1) h) (x (T1 a) h)
def x19 : AC := (.shal k19_0 (.shal k19_1 .skip))
def f19 : AF := .mk x19 [.t .h0 .h2,.t .h0 .h3]
def k20_0 : KF := fun c i x r h=>
 C c 37 [] h fun a h=>
 U [.nilp,i0] [.mk 0 1 (.c a)] h fun b h=>
 B 98 b h fun d h=>
 .ret (T1 d) h
def x20 : AC := (.shal k20_0 .skip)
def f20 : AF := .mk x20 [.t .h0 .h0]
def k21_3 : KF := K5 y0 y3 y4 y6 y44 fun c i x h a b d e f=>
 I f (A 1 b h fun g h=>
 L g h fun j h=>
 M 12 b h fun k h=>
 U [i0,i0,iS] [] h fun l h=>
 C c 39 [a,(pi 3),j,k,l,.nils] h fun m h=>
 .ret T36 h) (.nm (T39 a b d e) h)
def k21_4 : KF := K2 y0 y3 fun c i x h a b=>
 A 1 b h fun d h=>
 L d h fun e h=>
 M 12 b h fun f h=>
 U [i0,i0,iS] [] h fun g h=>
 C c 39 [a,i1,e,f,g,.nils] h fun j h=>
 C c 25 [a] h fun k h=>
 .nm T36 h
def k21_2 : KF := K4 y0 y3 y4 y5 fun c i x h a b d e=>
 M 7 e h fun f h=>
 C c 40 [f] h fun g h=>
 x (T39 a b d g) h
def k21_1 : KF := K3 y0 y3 y4 fun c i x h a b d=>
 A 5 b h fun e h=>
 M 7 e h fun f h=>
 O 29 7 (.k1 (Y7 i0 i0 i0 iS iS .nils .nils)) h fun g h=>
 S 7 g f h fun j h=>
 x (T38 a b d g) h
def k21_0 : KF := K2 y0 y1 fun c i x h a b=>
 B 35 b h fun d h=>
 A 1 d h fun e h=>
 L e h fun f h=>
 C c 38 [a,f] h fun g h=>
 tR (u_not g h) fun j h=>
 I j (A 1 d h fun k h=>
 L k h fun l h=>
 M 12 d h fun m h=>
 U [i0,i0,iS] [] h fun n h=>
 C c 39 [a,(pi 3),l,m,n,.nils] h fun o h=>
 .ret T36 h) (tQ (fA 1 d h) fun k=>
 tQ (lD k h) fun l=>
 tQ (nC a h) fun m=>
 tQ (fA 4 m h) fun n=>
 tQ (ixa 16 18 n l h) fun o=>
 x (T37 a d o) h)
def x21 : AC := (.shal k21_0 (.shal k21_1 (.seq (.drw [qf 0 d26 1 r3,
 ql 0 d27 r26,
 qf 0 d33 0 r5,
 w (os r33 r27),
 q 1 (m d28 r4),
 qj 1 d29 r28,
 qf 1 d30 2 r29,
 ql 1 d31 r30,
 q 1 (o d32 (.bin .add r31 a1)),
 qf 0 d34 1 r5,
 w (os r34 r32)]) (.shal k21_2 (.seq (.seq (.ops [m d37 r6,
 o d38 (.len r37),
 o d39 (.bin .eq r38 a0),
 m d40 r39,
 .g .h2 .h8 false d41 (.op (.mv r6)),
 .g .h2 .h8 false d42 (.op (.len r41)),
 .g .h2 .h8 false d43 (.op (.bin .gt r42 (.c (pi 10000)))),
 o d44 (.pick r40 (.c (.bool true)) r43)]) (.shal k21_3 .skip)) (.seq (.drw [q 0 (o d57 (.ldn 12 r3)),
 w (oc d58 41 [r57]),
 q 1 (m d51 r4),
 q 1 (m d52 r4),
 qj 1 d53 r52,
 qf 1 d54 2 r53,
 ql 1 d55 r54,
 q 1 (o d56 (.bin .add r55 a1)),
 q 1 (m d59 r6),
 q 1 (o d60 (.conv .b2s r59)),
 q 0 (o d61 (.build [(.bool false),(.bool false),i0,i0,i0,i0,i0,iS,i0,i0,i0,iS,iS,.nils,.nils,iS,i0,i0] [.mk 0 1 (.c (.bool true)),.mk 2 1 r56,.mk 3 12 r58,.mk 15 1 r60,.mk 16 1 (.c (ni 0))])),
 qj 0 d62 r51,
 w (o .no (.stn 18 r62 r61))]) (.shal k21_4 .skip)))))))
def f21 : AF := .mk x21 []
def k22_1 : KF := K3 y0 y3 y19 fun c i x h a b d=>
 I d (A 1 b h fun e h=>
 L e h fun f h=>
 M 12 b h fun g h=>
 U [i0,i0,iS] [] h fun j h=>
 C c 39 [a,(pi 3),f,g,j,.nils] h fun k h=>
 .ret T36 h) (.nm (T13 a b) h)
def k22_3 : KF := K3 y0 y3 y4 fun c i x h a b d=>
 A 1 b h fun e h=>
 L e h fun f h=>
 M 12 b h fun g h=>
 U [i0,i0,iS] [] h fun j h=>
 C c 39 [a,i1,f,g,j,.nils] h fun k h=>
 x (T37 a b d) h
def k22_2 : KF := K2 y0 y3 fun c i x h a b=>
 J a h fun d h=>
 A 292 d h fun e h=>
 L e h fun f h=>
 D f i1 h fun g h=>
 J a h fun j h=>
 A 292 j h fun k h=>
 W k g h fun l h=>
 tQ (fA 1 b h) fun m=>
 tQ (lD m h) fun n=>
 tQ (nC a h) fun o=>
 tQ (fA 4 o h) fun p=>
 tQ (ixa 16 18 p n h) fun q=>
 x (T37 a b q) h
def k22_0 : KF := K2 y0 y1 fun c i x h a b=>
 B 35 b h fun d h=>
 x (T13 a d) h
def x22 : AC := (.shal k22_0 (.seq (.seq (.drw [q 0 (m d5 r0),
 qf 0 d6 1 r3,
 ql 0 d7 r6,
 w (oc d8 38 [r5,r7]),
 q 0 (o d9 (.un .not r8)),
 q 0 (m d10 r9),
 q 0 (.g .h0 .ha false d11 (.op (.mv r0))),
 q 0 (.g .h0 .ha false d12 (.op (.nilc r11))),
 q 0 (.g .h0 .ha false d13 (.op (.fad 0 r12))),
 q 0 (.g .h0 .ha false d14 (.op (.ld1 r13))),
 q 0 (.g .h0 .ha false d15 (.op (.fad 2 r3))),
 q 0 (.g .h0 .ha false d16 (.op (.ld1 r15))),
 w (.g .h0 .ha false d17 (.call 28 [r14,r16])),
 q 0 (.g .h0 .ha false d18 (.op (.un .not r17))),
 q 0 (o d19 (.pick r10 (.c (.bool true)) r18))]) (.shal k22_1 .skip)) (.shal k22_2 (.seq (.drw [q 0 (o d44 (.ldn 12 r3)),
 w (oc d45 41 [r44]),
 q 1 (m d46 r0),
 qj 1 d47 r46,
 qf 1 d48 292 r47,
 ql 1 d49 r48,
 w (oc d50 42 [r49]),
 q 2 (m d39 r4),
 q 2 (m d40 r4),
 qj 2 d41 r40,
 qf 2 d42 2 r41,
 ql 2 d43 r42,
 qf 2 d51 2 r3,
 ql 2 d52 r51,
 q 2 (m d53 r0),
 qj 2 d54 r53,
 qf 2 d55 3 r54,
 ql 2 d56 r55,
 qf 2 d57 2 r3,
 ql 2 d58 r57,
 q 2 (o d59 (.ixs 1 r56 r58)),
 ql 2 d60 r59,
 q 0 (o d61 (.build [(.bool false),(.bool false),i0,i0,i0,i0,i0,iS,i0,i0,i0,iS,iS,.nils,.nils,iS,i0,i0] [.mk 0 1 (.c (.bool true)),.mk 1 1 (.c (.bool true)),.mk 2 1 r43,.mk 3 12 r45,.mk 15 1 r50,.mk 16 1 r52,.mk 17 1 r60])),
 qj 0 d62 r39,
 w (o .no (.stn 18 r62 r61))]) (.shal k22_3 (.drw [q 0 (m d70 r0),
 qj 0 d71 r70,
 qf 0 d72 0 r71,
 ql 0 d73 r72,
 qf 0 d74 2 r3,
 ql 0 d75 r74,
 q 0 (m d76 r4),
 qj 0 d77 r76,
 qf 0 d78 15 r77,
 ql 0 d79 r78,
 q 0 (o d80 (.build [i0,i0,i0,iS] [.mk 0 1 a2,.mk 1 1 r75,.mk 3 1 r79])),
 w (oc d81 24 [r73,r80]),
 q 1 (m d69 r0),
 w (oc d82 23 [r69,r81])]))))))
def f22 : AF := .mk x22 []
def k23_1 : KF := K4 y0 y1 y10 y11 fun c i x h a b d e=>
 Y e d h fun f h=>
 I f (J a h fun g h=>
 A 0 g h fun j h=>
 L j h fun k h=>
 C c 28 [k,e] h fun l h=>
 I l (C c 43 [a,e] h fun m h=>
 D e i1 h fun n h=>
 .nm (T40 a b d n) h) (D e i1 h fun m h=>
 .nm (T40 a b d m) h)) (.ex 0 (T40 a b d e) h)
def k23_0 : KF := K2 y0 y1 fun c i x h a b=>
 J a h fun d h=>
 A 1 d h fun e h=>
 L e h fun f h=>
 x (T40 a b f i0) h
def k23_3 : KF := K4 y0 y24 y25 y26 fun c i x h a b d e=>
 Y e d h fun f h=>
 I f (X 4 b e h fun g h=>
 M 4 g h fun j h=>
 O 105 4 (.k1 (Y4 i0 i0 iS i0)) h fun k h=>
 S 4 k j h fun l h=>
 A 0 k h fun m h=>
 L m h fun n h=>
 Q n (pi 2) h fun o h=>
 I o (M 4 k h fun p h=>
 C c 44 [a,p] h fun q h=>
 D e i1 h fun s h=>
 .nm (T41 a b d s) h) (D e i1 h fun p h=>
 .nm (T41 a b d p) h)) (.ex 2 (T41 a b d e) h)
def k23_2 : KF := K2 y0 y1 fun c i x h a b=>
 G b h fun d h=>
 x (T41 a b d i0) h
def x23 : AC := (.seq (.shal k23_0 (.block 0 (.loop (.shal k23_1 .skip)))) (.shal k23_2 (.block 2 (.loop (.shal k23_3 .skip)))))
def f23 : AF := .mk x23 []
def k24_3 : KF := K3 y0 y3 y17 fun c i x h a b d=>
 I d (tQ (nC a h) fun e=>
 tQ (fA 0 e h) fun f=>
 tQ (lD f h) fun g=>
 tQ (fA 1 b h) fun j=>
 tQ (lD j h) fun k=>
 tQ (fA 3 b h) fun l=>
 tQ (lD l h) fun m=>
 tX (c 45 [g,k,m,(.bool false)] h) fun n h=>
 .nm (T1 a) h) (.nm (T1 a) h)
def k24_5 : KF := K4 y0 y3 y6 y27 fun c i x h a b d e=>
 I e (A 3 b h fun f h=>
 L f h fun g h=>
 tR (b_sne g iS h) fun j h=>
 I j (tQ (nC a h) fun k=>
 tQ (fA 0 k h) fun l=>
 tQ (lD l h) fun m=>
 tQ (fA 1 b h) fun n=>
 tQ (lD n h) fun o=>
 tQ (fA 3 b h) fun p=>
 tQ (lD p h) fun q=>
 tX (c 45 [m,o,q,(.bool true)] h) fun s h=>
 .nm (T1 a) h) (.nm (T1 a) h)) (Q d (pi 3) h fun f h=>
 I f (tQ (nC a h) fun g=>
 tQ (fA 0 g h) fun j=>
 tQ (lD j h) fun k=>
 tQ (fA 2 b h) fun l=>
 tQ (lD l h) fun m=>
 tX (c 46 [k,m] h) fun n h=>
 .nm (T1 a) h) (Q d (pi 4) h fun g h=>
 I g (tQ (nC a h) fun j=>
 tQ (fA 0 j h) fun k=>
 tQ (lD k h) fun l=>
 tQ (fA 2 b h) fun m=>
 tQ (lD m h) fun n=>
 tX (c 47 [l,n] h) fun o h=>
 .nm (T1 a) h) (Q d (pi 5) h fun j h=>
 I j (tQ (nC a h) fun k=>
 tQ (fA 0 k h) fun l=>
 tQ (lD l h) fun m=>
 tQ (fA 2 b h) fun n=>
 tQ (lD n h) fun o=>
 tX (c 48 [m,o] h) fun p h=>
 .nm (T1 a) h) (Q d (pi 6) h fun k h=>
 I k (tQ (nC a h) fun l=>
 tQ (fA 0 l h) fun m=>
 tQ (lD m h) fun n=>
 tQ (fA 1 b h) fun o=>
 tQ (lD o h) fun p=>
 tQ (fA 2 b h) fun q=>
 tQ (lD q h) fun s=>
 tX (c 49 [n,p,s] h) fun t h=>
 .nm (T1 a) h) (Q d (pi 7) h fun l h=>
 I l (tQ (nC a h) fun m=>
 tQ (fA 0 m h) fun n=>
 tQ (lD n h) fun o=>
 tQ (fA 1 b h) fun p=>
 tQ (lD p h) fun q=>
 tQ (fA 2 b h) fun s=>
 tQ (lD s h) fun t=>
 tX (c 50 [o,q,t] h) fun v h=>
 .nm (T1 a) h) (Q d (pi 8) h fun m h=>
 I m (tQ (nC a h) fun n=>
 tQ (fA 0 n h) fun o=>
 tQ (lD o h) fun p=>
 tQ (fA 1 b h) fun q=>
 tQ (lD q h) fun s=>
 tX (c 51 [p,s] h) fun t h=>
 .nm (T1 a) h) (Q d (pi 9) h fun n h=>
 I n (tQ (nC a h) fun o=>
 tQ (fA 0 o h) fun p=>
 tQ (lD p h) fun q=>
 tQ (fA 1 b h) fun s=>
 tQ (lD s h) fun t=>
 tQ (fA 2 b h) fun v=>
 tQ (lD v h) fun w=>
 tQ (fA 3 b h) fun y=>
 tQ (lD y h) fun z=>
 tX (c 52 [q,t,w,z] h) fun a0 h=>
 .nm (T1 a) h) (.nm (T1 a) h))))))))
def k24_4 : KF := K3 y0 y3 y6 fun c i x h a b d=>
 Q d (pi 2) h fun e h=>
 x (T44 a b d e) h
def k24_2 : KF := K3 y0 y3 y6 fun c i x h a b d=>
 Q d i1 h fun e h=>
 x (T43 a b d e) h
def k24_1 : KF := K2 y0 y3 fun c i x h a b=>
 A 0 b h fun d h=>
 L d h fun e h=>
 x (T42 a b e) h
def k24_6 : KF := K1 y0 fun c i x h a=>
 C c 53 [a] h fun b h=>
 .ret (T12 b) h
def k24_0 : KF := K2 y0 y1 fun c i x h a b=>
 B 75 b h fun d h=>
 x (T13 a d) h
def x24 : AC := (.shal k24_0 (.seq (.shal k24_1 (.block 0 (.shal k24_2 (.cond r7 (.seq (.ops [of d9 3 r3,
 ol d10 r9,
 o d11 (.bin .sne r10 (.c iS)),
 m d12 r11,
 .g .h0 .hc true d13 (.op (.fad 3 r3)),
 .g .h0 .hc true d14 (.op (.ld1 r13)),
 .g .h0 .hc true d15 (.op (.lent r14)),
 .g .h0 .hc true d16 (.op (.bin .le r15 (.c (pi 10000)))),
 o d17 (.pick r12 r16 (.c (.bool false)))]) (.shal k24_3 .skip)) (.shal k24_4 (.shal k24_5 .skip)))))) (.shal k24_6 .skip)))
def f24 : AF := .mk x24 [.t .h0 .h4]
def k25_3 : KF := K4 y0 y3 y5 y31 fun c i x h a b d e=>
 I e (.ex 1 (T46 a b d) h) (.nm (T46 a b d) h)
def k25_7 : KF := K4 y0 y3 y4 y5 fun c i x h a b d e=>
 J a h fun f h=>
 A 3 f h fun g h=>
 L g h fun j h=>
 X 1 j d h fun k h=>
 L k h fun l h=>
 J b h fun m h=>
 A 16 m h fun n h=>
 W n d h fun o h=>
 J b h fun p h=>
 A 17 p h fun q h=>
 W q l h fun s h=>
 x (T38 a b d e) h
def k25_6 : KF := K5 y0 y3 y5 y35 y36 fun c i x h a b d e f=>
 J a h fun g h=>
 A 0 g h fun j h=>
 L j h fun k h=>
 C c 28 [k,f] h fun l h=>
 x (T48 a b f d e f l) h
def k25_8 : KF := K5 y0 y3 y5 y35 y36 fun c i x h a b d e f=>
 D f i1 h fun g h=>
 .nm (T47 a b d e g) h
def k25_5 : KF := K5 y0 y3 y5 y35 y36 fun c i x h a b d e f=>
 Y f e h fun g h=>
 I g (x (T47 a b d e f) h) (.ex 2 (T45 a d) h)
def k25_4 : KF := K3 y0 y3 y5 fun c i x h a b d=>
 J a h fun e h=>
 A 1 e h fun f h=>
 L f h fun g h=>
 x (T47 a b d g i0) h
def k25_2 : KF := K2 y0 y5 fun c i x h a b=>
 J a h fun d h=>
 A 4 d h fun e h=>
 tR (ixa 16 18 e b h) fun f h=>
 x (T46 a f b) h
def k25_9 : KF := K2 y0 y5 fun c i x h a b=>
 D b i1 h fun d h=>
 .nm (T45 a d) h
def k25_1 : KF := K2 y0 y5 fun c i x h a b=>
 Y b (pi 16) h fun d h=>
 I d (x (T45 a b) h) (.ex 0 T36 h)
def k25_0 : KF := K1 y0 fun c i x h a=>
 x (T45 a i0) h
def x25 : AC := (.shal k25_0 (.block 0 (.loop (.shal k25_1 (.seq (.block 1 (.shal k25_2 (.seq (.seq (.ops [m d13 r3,
 oj d14 r13,
 of d15 0 r14,
 ol d16 r15,
 o d17 (.un .not r16),
 m d18 r17,
 .g .h1 .h2 false d19 (.op (.mv r3)),
 .g .h1 .h2 false d20 (.op (.nilc r19)),
 .g .h1 .h2 false d21 (.op (.fad 1 r20)),
 .g .h1 .h2 false d22 (.op (.ld1 r21)),
 o d23 (.pick r18 (.c (.bool true)) r22),
 m d24 r23,
 .g .h1 .h8 false d25 (.op (.mv r0)),
 .g .h1 .h8 false d26 (.op (.mv r3)),
 .g .h1 .h8 false d27 (.op (.nilc r26)),
 .g .h1 .h8 false d28 (.op (.ldn 18 r27)),
 .g .h1 .h8 false d29 (.call 54 [r25,r28]),
 .g .h1 .h8 false d30 (.op (.un .not r29)),
 o d31 (.pick r24 (.c (.bool true)) r30)]) (.shal k25_3 .skip)) (.shal k25_4 (.block 2 (.loop (.shal k25_5 (.seq (.block 3 (.shal k25_6 (.cond r44 (.shal k25_7 (.seq (.drw [q 0 (m d60 r0),
 qj 0 d61 r60,
 qf 0 d62 0 r61,
 ql 0 d63 r62,
 q 0 (m d64 r4),
 q 0 (m d65 r3),
 qj 0 d66 r65,
 qf 0 d67 15 r66,
 ql 0 d68 r67,
 q 0 (o d69 (.build [i0,i0,i0,iS] [.mk 0 1 a1,.mk 1 1 r64,.mk 3 1 r68])),
 w (oc d70 24 [r63,r69]),
 q 1 (m d59 r0),
 w (oc d71 23 [r59,r70])]) (.exit 2))) .skip))) (.shal k25_8 .skip))))))))) (.shal k25_9 .skip))))))
def f25 : AF := .mk x25 []
def k26_4 : KF := K6 y0 y1 y6 y7 y32 y57 fun c i x h a b d e f g=>
 I g (J e h fun j h=>
 A 0 j h fun k h=>
 W k (.bool false) h fun l h=>
 J e h fun m h=>
 A 3 m h fun n h=>
 M 12 n h fun o h=>
 U [i0,i0,iS] [.mk 0 1 (.c (pi 29))] h fun p h=>
 C c 39 [a,(pi 2),d,o,p,.nils] h fun q h=>
 .nm (T49 a b f) h) (.nm (T49 a b f) h)
def k26_3 : KF := K3 y0 y1 y32 fun c i x h a b d=>
 J a h fun e h=>
 A 4 e h fun f h=>
 tR (ixa 16 18 f d h) fun g h=>
 x (T50 a b d g d) h
def k26_5 : KF := K3 y0 y1 y32 fun c i x h a b d=>
 D d i1 h fun e h=>
 .nm (T49 a b e) h
def k26_2 : KF := K3 y0 y1 y32 fun c i x h a b d=>
 Y d (pi 16) h fun e h=>
 I e (x (T49 a b d) h) (.ex 0 T36 h)
def k26_1 : KF := K2 y0 y1 fun c i x h a b=>
 x (T49 a b i0) h
def k26_0 : KF := K3 y0 y1 y2 fun c i x h a b d=>
 J a h fun e h=>
 A 0 e h fun f h=>
 L f h fun g h=>
 C c 28 [g,b] h fun j h=>
 tR (u_not j h) fun k h=>
 I k (.ret T36 h) (J a h fun l h=>
 A 0 l h fun m h=>
 L m h fun n h=>
 U [i0,i0,i0,iS] [.mk 0 1 (.c (pi 7)),.mk 1 1 (.c b),.mk 2 1 (.c d)] h fun o h=>
 C c 24 [n,o] h fun p h=>
 C c 23 [a,p] h fun q h=>
 x (T25 a b) h)
def x26 : AC := (.shal k26_0 (.seq (.drw [w (oc d30 20 []),
 q 1 (m d25 r0),
 qj 1 d26 r25,
 qf 1 d27 2 r26,
 ql 1 d28 r27,
 q 1 (m d29 r1),
 q 0 (o d31 (.ixs 1 r28 r29)),
 w (os r31 r30)]) (.shal k26_1 (.block 0 (.loop (.shal k26_2 (.seq (.block 1 (.shal k26_3 (.seq (.ops [m d40 r7,
 oj d41 r40,
 of d42 0 r41,
 ol d43 r42,
 m d44 r43,
 .g .h2 .hc true d45 (.op (.mv r7)),
 .g .h2 .hc true d46 (.op (.nilc r45)),
 .g .h2 .hc true d47 (.op (.fad 1 r46)),
 .g .h2 .hc true d48 (.op (.ld1 r47)),
 o d49 (.pick r44 r48 (.c (.bool false))),
 m d50 r49,
 .g .h3 .h2 true d51 (.op (.mv r7)),
 .g .h3 .h2 true d52 (.op (.nilc r51)),
 .g .h3 .h2 true d53 (.op (.fad 16 r52)),
 .g .h3 .h2 true d54 (.op (.ld1 r53)),
 .g .h3 .h2 true d55 (.op (.mv r1)),
 .g .h3 .h2 true d56 (.op (.bin .eq r54 r55)),
 o d57 (.pick r50 r56 (.c (.bool false)))]) (.shal k26_4 .skip)))) (.shal k26_5 .skip))))))))
def f26 : AF := .mk x26 []
def k27_0 : KF := K3 y0 y1 y21 fun c i x h a b d=>
 I d (.ret T36 h) (.nm (T25 a b) h)
def k27_1 : KF := K2 y0 y1 fun c i x h a b=>
 J a h fun d h=>
 A 3 d h fun e h=>
 L e h fun f h=>
 X 1 f b h fun g h=>
 L g h fun j h=>
 D j i1 h fun k h=>
 X 1 f b h fun l h=>
 W l k h fun m h=>
 J a h fun n h=>
 A 0 n h fun o h=>
 L o h fun p h=>
 U [i0,i0,i0,iS] [.mk 0 1 (.c (pi 8)),.mk 1 1 (.c b)] h fun q h=>
 C c 24 [p,q] h fun s h=>
 C c 23 [a,s] h fun t h=>
 C c 25 [a] h fun v h=>
 .nm T36 h
def x27 : AC := (.seq (.seq (.ops [m d4 r1,
 o d5 (.bin .lt r4 a0),
 m d6 r5,
 .g .h0 .h6 false d7 (.op (.mv r1)),
 .g .h0 .h6 false d8 (.op (.mv r0)),
 .g .h0 .h6 false d9 (.op (.nilc r8)),
 .g .h0 .h6 false d10 (.op (.fad 1 r9)),
 .g .h0 .h6 false d11 (.op (.ld1 r10)),
 .g .h0 .h6 false d12 (.op (.bin .ge r7 r11)),
 o d13 (.pick r6 (.c (.bool true)) r12),
 m d14 r13,
 .g .h0 .he false d15 (.op (.mv r0)),
 .g .h0 .he false d16 (.op (.nilc r15)),
 .g .h0 .he false d17 (.op (.fad 0 r16)),
 .g .h0 .he false d18 (.op (.ld1 r17)),
 .g .h0 .he false d19 (.op (.mv r1)),
 .g .h0 .he false d20 (.call 28 [r18,r19]),
 o d21 (.pick r14 (.c (.bool true)) r20)]) (.shal k27_0 .skip)) (.shal k27_1 .skip))
def f27 : AF := .mk x27 []
def k28_0 : KF := K2 y0 y1 fun c i x h a b=>
 J a h fun d h=>
 A 0 d h fun e h=>
 L e h fun f h=>
 C c 55 [f,b] h fun g h=>
 .ret (T12 g) h
def x28 : AC := (.shal k28_0 .skip)
def f28 : AF := .mk x28 [.t .h0 .h4]
def k29_0 : KF := K1 y0 fun c i x h a=>
 J a h fun b h=>
 A 1 b h fun d h=>
 L d h fun e h=>
 .ret (T24 e) h
def x29 : AC := (.shal k29_0 .skip)
def f29 : AF := .mk x29 [.t .h0 .h2]
def k31_0 : KF := K1 y0 fun c i x h a=>
 J a h fun b h=>
 A 293 b h fun d h=>
 L d h fun e h=>
 J a h fun f h=>
 A 293 f h fun g h=>
 W g .nils h fun j h=>
 .ret (T24 e) h
def x31 : AC := (.shal k31_0 .skip)
def f31 : AF := .mk x31 [.t .h0 .h2]
def k32_2 : KF := K4 y0 y1 y6 y19 fun c i x h a b d e=>
 I e (D d i1 h fun f h=>
 .go 0 (T26 a b f) h) (.nm (T26 a b d) h)
def k32_3 : KF := K4 y0 y1 y6 y31 fun c i x h a b d e=>
 I e (J a h fun f h=>
 A 0 f h fun g h=>
 L g h fun j h=>
 C c 61 [j] h fun k h=>
 D d i1 h fun l h=>
 .go 0 (T26 a b l) h) (.nm (T26 a b d) h)
def k32_4 : KF := K2 y0 y6 fun c i x h a b=>
 C c 53 [a] h fun d h=>
 .ret (T28 d b) h
def k32_1 : KF := K2 y0 y1 fun c i x h a b=>
 tR (maxV false [b,i0] h) fun d h=>
 tR (maxV true [d,(pi 20000)] h) fun e h=>
 x (T26 a e i0) h
def k32_0 : KF := K2 y0 y1 fun c i x h a b=>
 x (T25 a b) h
def x32 : AC := (.shal k32_0 (.scope (.shal k32_1 (.seq (.label 0) (.seq (.seq (.ops [m d10 r6,
 m d11 r1,
 o d12 (.bin .lt r10 r11),
 m d13 r12,
 .g .h0 .hd true d14 (.op (.mv r0)),
 .g .h0 .hd true d15 (.op (.nilc r14)),
 .g .h0 .hd true d16 (.op (.fad 0 r15)),
 .g .h0 .hd true d17 (.op (.ld1 r16)),
 .g .h0 .hd true d18 (.call 46 [r17,a0]),
 o d19 (.pick r13 r18 (.c (.bool false)))]) (.shal k32_2 .skip)) (.seq (.seq (.ops [m d22 r6,
 m d23 r1,
 o d24 (.bin .lt r22 r23),
 m d25 r24,
 .g .h1 .h9 true d26 (.op (.mv r0)),
 .g .h1 .h9 true d27 (.op (.nilc r26)),
 .g .h1 .h9 true d28 (.op (.fad 0 r27)),
 .g .h1 .h9 true d29 (.op (.ld1 r28)),
 .g .h1 .h9 true d30 (.call 60 [r29]),
 o d31 (.pick r25 r30 (.c (.bool false)))]) (.shal k32_3 .skip)) (.shal k32_4 .skip)))))))
def f32 : AF := .mk x32 [.t .h0 .h4,.t .h0 .h5]
def k33_0 : KF := K2 y0 y1 fun c i x h a b=>
 J a h fun d h=>
 A 0 d h fun e h=>
 L e h fun f h=>
 C c 62 [f,b] h fun g h=>
 E 0 g h fun j h=>
 E 1 g h fun k h=>
 .ret (T28 j k) h
def x33 : AC := (.shal k33_0 .skip)
def f33 : AF := .mk x33 [.t .h0 .h4,.t .h0 .h5]
def k34_2 : KF := K3 y0 y3 y5 fun c i x h a b d=>
 Y d (pi 16) h fun e h=>
 I e (J a h fun f h=>
 A 0 f h fun g h=>
 L g h fun j h=>
 C c 63 [j,d] h fun k h=>
 D b k h fun l h=>
 D d i1 h fun m h=>
 .nm (T46 a l m) h) (.ex 0 (T46 a b d) h)
def k34_1 : KF := K2 y0 y3 fun c i x h a b=>
 x (T46 a b i0) h
def k34_3 : KF := K1 y3 fun c i x h a=>
 .ret (T24 a) h
def k34_0 : KF := K1 y0 fun c i x h a=>
 x (T13 a i0) h
def x34 : AC := (.shal k34_0 (.seq (.shal k34_1 (.block 0 (.loop (.shal k34_2 .skip)))) (.shal k34_3 .skip)))
def f34 : AF := .mk x34 [.t .h0 .h2]
def k35_0 : KF := fun c i x r h=>
 U [iS,i0] [.mk 0 1 (.c (.str [97])),.mk 1 1 (.c i1)] h fun a h=>
 U [iS,i0] [.mk 0 1 (.c (.str [98])),.mk 1 1 (.c i1)] h fun b h=>
 U [iS,i0] [.mk 0 1 (.c (.str [115])),.mk 1 1 (.c (pi 2))] h fun d h=>
 tR (bs 69 2 3 [iS,i0,iS,i0,iS,i0] [.mk 0 2 (.c a),.mk 2 2 (.c b),.mk 4 2 (.c d)] h) fun e h=>
 .ret (T1 e) h
def x35 : AC := (.shal k35_0 .skip)
def f35 : AF := .mk x35 [.t .h0 .h0]
def k36_3 : KF := K3 y5 y12 y13 fun c i x h a b d=>
 x (T53 a d b d) h
def k36_4 : KF := K3 y5 y12 y13 fun c i x h a b d=>
 D d i1 h fun e h=>
 .nm (T51 a b e) h
def k36_2 : KF := K3 y5 y12 y13 fun c i x h a b d=>
 Y d b h fun e h=>
 I e (x (T51 a b d) h) (.ex 0 (T52 a) h)
def k36_1 : KF := K2 y0 y5 fun c i x h a b=>
 x (T51 b a i0) h
def k36_6 : KF := K4 y5 y34 y35 y36 fun c i x h a b d e=>
 Y e d h fun f h=>
 I f (X 1 b e h fun g h=>
 L g h fun j h=>
 C c 65 [j,(.bool false)] h fun k h=>
 D e i1 h fun l h=>
 .nm (T54 a b d l) h) (.ex 2 (T54 a b d e) h)
def k36_5 : KF := K1 y5 fun c i x h a=>
 J a h fun b h=>
 A 1 b h fun d h=>
 L d h fun e h=>
 G e h fun f h=>
 x (T54 a e f i0) h
def k36_7 : KF := K1 y5 fun c i x h a=>
 .ret (T12 a) h
def k36_0 : KF := K2 y0 y1 fun c i x h a b=>
 U [.nils,.nils,.nili] [.mk 2 1 (.c b)] h fun d h=>
 B 120 d h fun e h=>
 x (T45 a e) h
def x36 : AC := (.shal k36_0 (.seq (.shal k36_1 (.block 0 (.loop (.shal k36_2 (.seq (.block 1 (.shal k36_3 (.drw [w (oc d23 64 []),
 q 1 (m d21 r5),
 q 1 (m d22 r6),
 q 0 (o d24 (.build [.nilp,i0,.nilp,i0,(.bool false),i0,i0,.nilp,.nilp,.nilp,i0,.nilm,i0,i0,i0,.nilm,iS,.nils,i0,i0,.nilm,i0,i0,i0,(.bool false)] [.mk 0 1 r21,.mk 1 1 r22,.mk 2 1 r23])),
 w (o d25 (.box 134 r24)),
 w (o d26 (.bslice 121 1 1 [.nilp] [.mk 0 1 r25])),
 q 3 (m d17 r5),
 qj 3 d18 r17,
 qf 3 d19 1 r18,
 ql 3 d20 r19,
 w (o d27 (.app 121 1 r20 r26)),
 q 4 (m d16 r5),
 qj 0 d28 r16,
 qf 0 d29 1 r28,
 w (os r29 r27)]))) (.shal k36_4 .skip)))))) (.seq (.shal k36_5 (.block 2 (.loop (.shal k36_6 .skip)))) (.shal k36_7 .skip))))
def f36 : AF := .mk x36 [.t .h0 .h4]
def k37_0 : KF := fun c i x r h=>
 C c 66 [] h fun a h=>
 tR (mkm h) fun b h=>
 C c 67 [] h fun d h=>
 U [.nilp,.nils,.nilm,.nilp] [.mk 0 1 (.c a),.mk 2 1 (.c b),.mk 3 1 (.c d)] h fun e h=>
 B 143 e h fun f h=>
 .ret (T1 f) h
def x37 : AC := (.shal k37_0 .skip)
def f37 : AF := .mk x37 [.t .h0 .h0]
def k38_0 : KF := K2 y0 y1 fun c i x h a b=>
 x (T25 a b) h
def x38 : AC := (.shal k38_0 (.seq (.ops [m d5 r1,
 o d6 (.bin .ge r5 a0),
 m d7 r6,
 .g .h0 .h7 true d8 (.op (.mv r1)),
 .g .h0 .h7 true d9 (.op (.bin .lt r8 (.c (pi 16)))),
 o d10 (.pick r7 r9 (.c (.bool false))),
 m d11 r10,
 .g .h0 .hb true d12 (.op (.mv r0)),
 .g .h0 .hb true d13 (.op (.mv r1)),
 .g .h0 .hb true d14 (.op (.nilc r12)),
 .g .h0 .hb true d15 (.op (.fad 4 r14)),
 .g .h0 .hb true d16 (.op (.ixa 16 18 r15 r13)),
 .g .h0 .hb true d17 (.op (.fad 0 r16)),
 .g .h0 .hb true d18 (.op (.ld1 r17)),
 .g .h0 .hb true d19 (.op (.un .not r18)),
 o d20 (.pick r11 r19 (.c (.bool false))),
 m d4 r20]) .ret))
def f38 : AF := .mk x38 [.t .h0 .h4]
def k39_0 : KF := K6 y0 y1 y2 y3 y4 y5 fun c i x h a b d e f g=>
 B 35 e h fun j h=>
 B 52 f h fun k h=>
 x (T55 a b d g j k) h
def x39 : AC := (.shal k39_0 (.drw [q 0 (o d19 (.ldn 12 r9)),
 w (oc d20 41 [r19]),
 q 1 (m d22 r5),
 w (oc d23 68 [r22]),
 q 2 (m d17 r1),
 q 2 (m d18 r2),
 q 2 (o d21 (.ldn 3 r10)),
 q 0 (o d24 (.build [i0,i0,i0,i0,i0,i0,iS,i0,i0,i0,iS,iS,.nils,.nils,i0,i0,iS,.nils] [.mk 0 1 r17,.mk 1 1 r18,.mk 2 12 r20,.mk 14 3 r21,.mk 17 1 r23])),
 w (o d25 (.bslice 54 18 1 [i0,i0,i0,i0,i0,i0,iS,i0,i0,i0,iS,iS,.nils,.nils,i0,i0,iS,.nils] [.mk 0 18 r24])),
 q 3 (m d13 r0),
 qj 3 d14 r13,
 qf 3 d15 293 r14,
 ql 3 d16 r15,
 w (o d26 (.app 54 18 r16 r25)),
 q 4 (m d12 r0),
 qj 0 d27 r12,
 qf 0 d28 293 r27,
 w (os r28 r26)]))
def f39 : AF := .mk x39 []
def k40_3 : KF := K5 y1 y3 y41 y42 y43 fun c i x h a b d e f=>
 Y f e h fun g h=>
 I g (X 2 d f h fun j h=>
 M 2 j h fun k h=>
 O 69 2 (.k1 (Y2 iS i0)) h fun l h=>
 S 2 l k h fun m h=>
 A 0 l h fun n h=>
 L n h fun o h=>
 C c 70 [b,o] h fun p h=>
 A 1 l h fun q h=>
 L q h fun s h=>
 C c 57 [b,s] h fun t h=>
 D f i1 h fun v h=>
 .nm (T57 a b d e v) h) (.ex 0 (T57 a b d e f) h)
def k40_2 : KF := K2 y1 y3 fun c i x h a b=>
 A 5 a h fun d h=>
 L d h fun e h=>
 G e h fun f h=>
 x (T57 a b e f i0) h
def k40_9 : KF := K8 y3 y7 y62 y63 y64 y78 y79 y80 fun c i x h a b d e f g j k=>
 Y k j h fun l h=>
 I l (X 3 g k h fun m h=>
 M 3 m h fun n h=>
 O 152 3 (.k1 (Y3 i0 i0 iS)) h fun o h=>
 S 3 o n h fun p h=>
 A 0 o h fun q h=>
 L q h fun s h=>
 C c 57 [a,s] h fun t h=>
 A 1 o h fun v h=>
 L v h fun w h=>
 C c 57 [a,w] h fun y h=>
 A 2 o h fun z h=>
 L z h fun a0 h=>
 C c 70 [a,a0] h fun a1 h=>
 D k i1 h fun a2 h=>
 .nm (T61 a b d e f g j a2) h) (.ex 4 (T61 a b d e f g j k) h)
def k40_8 : KF := K5 y3 y7 y62 y63 y64 fun c i x h a b d e f=>
 A 1 b h fun g h=>
 L g h fun j h=>
 G j h fun k h=>
 x (T61 a b d e f j k i0) h
def k40_10 : KF := K5 y3 y7 y62 y63 y64 fun c i x h a b d e f=>
 A 2 b h fun g h=>
 L g h fun j h=>
 I j (C c 71 [a,i1] h fun k h=>
 .nm (T58 a d e f) h) (C c 71 [a,i0] h fun k h=>
 .nm (T58 a d e f) h)
def k40_7 : KF := K4 y3 y62 y63 y64 fun c i x h a b d e=>
 X 3 b e h fun f h=>
 M 3 f h fun g h=>
 O 150 3 (.k1 (Y3 iS .nils (.bool false))) h fun j h=>
 S 3 j g h fun k h=>
 A 0 j h fun l h=>
 L l h fun m h=>
 C c 70 [a,m] h fun n h=>
 A 1 j h fun o h=>
 L o h fun p h=>
 G p h fun q h=>
 C c 71 [a,q] h fun s h=>
 x (T60 a j b d e) h
def k40_11 : KF := K4 y3 y62 y63 y64 fun c i x h a b d e=>
 D e i1 h fun f h=>
 .nm (T58 a b d f) h
def k40_6 : KF := K4 y3 y62 y63 y64 fun c i x h a b d e=>
 Y e d h fun f h=>
 I f (x (T58 a b d e) h) (.ex 2 (T59 a) h)
def k40_5 : KF := K2 y1 y3 fun c i x h a b=>
 A 6 a h fun d h=>
 L d h fun e h=>
 G e h fun f h=>
 x (T58 b e f i0) h
def k40_12 : KF := K1 y3 fun c i x h a=>
 C c 58 [a] h fun b h=>
 .ret (T24 b) h
def k40_4 : KF := K2 y1 y3 fun c i x h a b=>
 A 6 a h fun d h=>
 L d h fun e h=>
 G e h fun f h=>
 C c 71 [b,f] h fun g h=>
 x (T56 a b) h
def k40_1 : KF := K2 y1 y3 fun c i x h a b=>
 A 3 a h fun d h=>
 L d h fun e h=>
 C c 70 [b,e] h fun f h=>
 A 4 a h fun g h=>
 L g h fun j h=>
 C c 70 [b,j] h fun k h=>
 A 5 a h fun l h=>
 L l h fun m h=>
 G m h fun n h=>
 C c 71 [b,n] h fun o h=>
 x (T56 a b) h
def k40_0 : KF := K1 y0 fun c i x h a=>
 B 29 a h fun b h=>
 M 7 b h fun d h=>
 C c 69 [d] h fun e h=>
 tR (u_not e h) fun f h=>
 I f (.ret (T24 .nils) h) (C c 56 [] h fun g h=>
 A 0 b h fun j h=>
 L j h fun k h=>
 C c 57 [g,k] h fun l h=>
 A 1 b h fun m h=>
 L m h fun n h=>
 C c 57 [g,n] h fun o h=>
 A 2 b h fun p h=>
 L p h fun q h=>
 C c 57 [g,q] h fun s h=>
 x (T56 b g) h)
def x40 : AC := (.shal k40_0 (.shal k40_1 (.seq (.shal k40_2 (.block 0 (.loop (.shal k40_3 .skip)))) (.shal k40_4 (.seq (.shal k40_5 (.block 2 (.loop (.shal k40_6 (.seq (.block 3 (.shal k40_7 (.seq (.shal k40_8 (.block 4 (.loop (.shal k40_9 .skip)))) (.shal k40_10 .skip)))) (.shal k40_11 .skip)))))) (.shal k40_12 .skip))))))
def f40 : AF := .mk x40 [.t .h0 .h2]
def k41_2 : KF := K5 y1 y2 y3 y16 y17 fun c i x h a b d e f=>
 Y f e h fun g h=>
 I g (X 3 d f h fun j h=>
 A 1 j h fun k h=>
 L k h fun l h=>
 C c 74 [l] h fun m h=>
 X 3 d f h fun n h=>
 A 1 n h fun o h=>
 W o m h fun p h=>
 D f i1 h fun q h=>
 .nm (T63 a b d e q) h) (.ex 0 (T63 a b d e f) h)
def k41_1 : KF := K3 y1 y2 y3 fun c i x h a b d=>
 G d h fun e h=>
 x (T63 a b d e i0) h
def k41_3 : KF := K3 y1 y2 y3 fun c i x h a b d=>
 A 5 a h fun e h=>
 A 6 e h fun f h=>
 W f d h fun g h=>
 M 12 a h fun j h=>
 S 12 b j h fun k h=>
 .ret (T24 b) h
def k41_0 : KF := K1 y0 fun c i x h a=>
 B 35 a h fun b h=>
 O 35 12 (.k1 (Y12 i0 i0 i0 i0 iS i0 i0 i0 iS iS .nils .nils)) h fun d h=>
 A 5 b h fun e h=>
 A 5 e h fun f h=>
 L f h fun g h=>
 C c 72 [g] h fun j h=>
 A 5 b h fun k h=>
 A 5 k h fun l h=>
 W l j h fun m h=>
 A 5 b h fun n h=>
 A 6 n h fun o h=>
 L o h fun p h=>
 C c 73 [p] h fun q h=>
 x (T62 b d q) h
def x41 : AC := (.shal k41_0 (.seq (.shal k41_1 (.block 0 (.loop (.shal k41_2 .skip)))) (.shal k41_3 .skip)))
def f41 : AF := .mk x41 [.agg 12 .h0 .h2]
def k42_0 : KF := K1 y0 fun c i x h a=>
 C c 75 [a] h fun b h=>
 .ret (T24 b) h
def x42 : AC := (.shal k42_0 .skip)
def f42 : AF := .mk x42 [.t .h0 .h2]
def k43_3 : KF := K5 y0 y4 y50 y51 y52 fun c i x h a b d e f=>
 Y f e h fun g h=>
 I g (X 1 d f h fun j h=>
 L j h fun k h=>
 C c 29 [b] h fun l h=>
 C c 79 [b,l,k] h fun m h=>
 D f i1 h fun n h=>
 .nm (T65 a b d e n) h) (.ex 0 (T65 a b d e f) h)
def k43_2 : KF := K3 y0 y4 y8 fun c i x h a b d=>
 G d h fun e h=>
 x (T65 a b d e i0) h
def k43_7 : KF := K6 y0 y4 y11 y12 y62 y80 fun c i x h a b d e f g=>
 I g (.ex 3 (T67 a b d e f) h) (.nm (T67 a b d e f) h)
def k43_9 : KF := K7 y0 y4 y11 y12 y13 y62 y91 fun c i x h a b d e f g j=>
 I j (J e h fun k h=>
 A 0 k h fun l h=>
 W l (.bool false) h fun m h=>
 tQ (nC e h) fun n=>
 tQ (fA 3 n h) fun o=>
 tQ (ldn 12 o h) fun p=>
 tQ (ldn 3 f h) fun q=>
 tX (c 39 [a,(pi 2),d,p,q,.nils] h) fun s h=>
 .nm (T66 a b g) h) (.nm (T66 a b g) h)
def k43_8 : KF := K5 y0 y4 y11 y12 y62 fun c i x h a b d e f=>
 J e h fun g h=>
 A 2 g h fun j h=>
 L j h fun k h=>
 C c 80 [b,d,k] h fun l h=>
 E 0 l h fun m h=>
 E 1 l h fun n h=>
 O 52 3 (.k1 (Y3 i0 i0 iS)) h fun o h=>
 S 3 o m h fun p h=>
 x (T68 a b d e o f n) h
def k43_6 : KF := K3 y0 y4 y62 fun c i x h a b d=>
 J a h fun e h=>
 A 4 e h fun f h=>
 tR (ixa 16 18 f d h) fun g h=>
 x (T67 a b d g d) h
def k43_10 : KF := K3 y0 y4 y62 fun c i x h a b d=>
 D d i1 h fun e h=>
 .nm (T66 a b e) h
def k43_5 : KF := K3 y0 y4 y62 fun c i x h a b d=>
 Y d (pi 16) h fun e h=>
 I e (x (T66 a b d) h) (.ex 2 T36 h)
def k43_4 : KF := K2 y0 y4 fun c i x h a b=>
 x (T66 a b i0) h
def k43_1 : KF := K3 y0 y1 y4 fun c i x h a b d=>
 J a h fun e h=>
 A 0 e h fun f h=>
 L f h fun g h=>
 C c 76 [g,b] h fun j h=>
 E 0 j h fun k h=>
 E 1 j h fun l h=>
 C c 29 [d] h fun m h=>
 tR (b_gt k m h) fun n h=>
 I n (C c 77 [d,k,l] h fun o h=>
 x (T64 a b d) h) (x (T64 a b d) h)
def k43_0 : KF := K2 y0 y1 fun c i x h a b=>
 J a h fun d h=>
 A 2 d h fun e h=>
 L e h fun f h=>
 X 1 f b h fun g h=>
 L g h fun j h=>
 x (T64 a b j) h
def x43 : AC := (.shal k43_0 (.shal k43_1 (.seq (.drw [q 0 (m d45 r4),
 w (oc d46 29 [r45]),
 q 1 (m d40 r0),
 qj 1 d41 r40,
 qf 1 d42 0 r41,
 ql 1 d43 r42,
 q 1 (m d44 r1),
 w (oc d47 78 [r43,r44,r46]),
 q 0 (m d39 r47),
 q 0 (oe d48 0 r39),
 q 0 (oe d49 1 r39),
 q 0 (m d7 r48),
 q 0 (m d8 r49)]) (.seq (.shal k43_2 (.block 0 (.loop (.shal k43_3 .skip)))) (.shal k43_4 (.block 2 (.loop (.shal k43_5 (.seq (.block 3 (.shal k43_6 (.seq (.seq (.ops [m d70 r12,
 oj d71 r70,
 of d72 0 r71,
 ol d73 r72,
 o d74 (.un .not r73),
 m d75 r74,
 .g .h4 .hb false d76 (.op (.mv r12)),
 .g .h4 .hb false d77 (.op (.nilc r76)),
 .g .h4 .hb false d78 (.op (.fad 1 r77)),
 .g .h4 .hb false d79 (.op (.ld1 r78)),
 o d80 (.pick r75 (.c (.bool true)) r79)]) (.shal k43_7 .skip)) (.shal k43_8 (.shal k43_9 .skip))))) (.shal k43_10 .skip))))))))))
def f43 : AF := .mk x43 []
def k44_3 : KF := K6 y0 y3 y4 y5 y9 y46 fun c i x h a b d e f g=>
 I g (.ex 1 (T70 a b d e f) h) (.nm (T70 a b d e f) h)
def k44_6 : KF := K7 y0 y3 y4 y5 y6 y8 y9 fun c i x h a b d e f g j=>
 tQ (nC e h) fun k=>
 tQ (fA 3 k h) fun l=>
 tQ (ldn 12 l h) fun m=>
 tQ (ldn 3 g h) fun n=>
 tX (c 39 [a,(pi 2),d,m,n,f] h) fun o h=>
 .nm (T69 a b j) h
def k44_5 : KF := K7 y0 y3 y4 y5 y6 y7 y9 fun c i x h a b d e f g j=>
 U [i0,i0,iS] [] h fun k h=>
 O 52 3 (.k1 (Y3 i0 i0 iS)) h fun l h=>
 S 3 l k h fun m h=>
 tR (u_not g h) fun n h=>
 I n (A 0 l h fun o h=>
 W o (pi 20) h fun p h=>
 x (T72 a b d e f l j) h) (x (T72 a b d e f l j) h)
def k44_4 : KF := K5 y0 y3 y4 y5 y9 fun c i x h a b d e f=>
 J e h fun g h=>
 A 0 g h fun j h=>
 W j (.bool false) h fun k h=>
 tQ (nC a h) fun l=>
 tQ (fA 2 l h) fun m=>
 tQ (lD m h) fun n=>
 tQ (fA 1 b h) fun o=>
 tQ (lD o h) fun p=>
 tQ (iX 1 n p h) fun q=>
 tQ (lD q h) fun s=>
 tQ (nC e h) fun t=>
 tQ (fA 3 t h) fun v=>
 tQ (fA 4 v h) fun w=>
 tQ (lD w h) fun y=>
 tX (c 33 [s,y] h) fun z h=>
 tQ (ext 0 z h) fun a0=>
 tQ (ext 1 z h) fun a1=>
 x (T71 a b d e a0 a1 f) h
def k44_2 : KF := K3 y0 y3 y9 fun c i x h a b d=>
 J a h fun e h=>
 A 4 e h fun f h=>
 tR (ixa 16 18 f d h) fun g h=>
 x (T70 a b d g d) h
def k44_7 : KF := K3 y0 y3 y9 fun c i x h a b d=>
 D d i1 h fun e h=>
 .nm (T69 a b e) h
def k44_1 : KF := K3 y0 y3 y9 fun c i x h a b d=>
 Y d (pi 16) h fun e h=>
 I e (x (T69 a b d) h) (.ex 0 T36 h)
def k44_0 : KF := K2 y0 y1 fun c i x h a b=>
 B 105 b h fun d h=>
 x (T69 a d i0) h
def x44 : AC := (.shal k44_0 (.block 0 (.loop (.shal k44_1 (.seq (.block 1 (.shal k44_2 (.seq (.seq (.drw [q 0 (m d17 r5),
 qj 0 d18 r17,
 qf 0 d19 0 r18,
 ql 0 d20 r19,
 q 0 (o d21 (.un .not r20)),
 q 0 (m d22 r21),
 q 0 (.g .h1 .h6 false d23 (.op (.mv r5))),
 q 0 (.g .h1 .h6 false d24 (.op (.nilc r23))),
 q 0 (.g .h1 .h6 false d25 (.op (.fad 1 r24))),
 q 0 (.g .h1 .h6 false d26 (.op (.ld1 r25))),
 q 0 (.g .h1 .h6 false d27 (.op (.un .not r26))),
 q 0 (o d28 (.pick r22 (.c (.bool true)) r27)),
 q 0 (m d29 r28),
 q 0 (.g .h1 .hd false d30 (.op (.mv r5))),
 q 0 (.g .h1 .hd false d31 (.op (.nilc r30))),
 q 0 (.g .h1 .hd false d32 (.op (.fad 16 r31))),
 q 0 (.g .h1 .hd false d33 (.op (.ld1 r32))),
 q 0 (.g .h1 .hd false d34 (.op (.fad 1 r3))),
 q 0 (.g .h1 .hd false d35 (.op (.ld1 r34))),
 q 0 (.g .h1 .hd false d36 (.op (.bin .ne r33 r35))),
 q 0 (o d37 (.pick r29 (.c (.bool true)) r36)),
 q 0 (m d38 r37),
 q 0 (.g .h2 .h6 false d39 (.op (.mv r5))),
 q 0 (.g .h2 .h6 false d40 (.op (.nilc r39))),
 q 0 (.g .h2 .h6 false d41 (.op (.fad 15 r40))),
 q 0 (.g .h2 .h6 false d42 (.op (.ld1 r41))),
 q 0 (.g .h2 .h6 false d43 (.op (.fad 2 r3))),
 q 0 (.g .h2 .h6 false d44 (.op (.ld1 r43))),
 q 0 (.g .h2 .h6 false d45 (.op (.bin .sne r42 r44))),
 q 0 (o d46 (.pick r38 (.c (.bool true)) r45))]) (.shal k44_3 .skip)) (.shal k44_4 (.shal k44_5 (.shal k44_6 .skip)))))) (.shal k44_7 .skip))))))
def f44 : AF := .mk x44 []
def k45_0 : KF := K4 y0 y1 y2 y3 fun c i x h a b d e=>
 C c 55 [a,b] h fun f h=>
 I f (J a h fun g h=>
 A 1 g h fun j h=>
 L j h fun k h=>
 X 1 k b h fun l h=>
 L l h fun m h=>
 C c 81 [m,d,e] h fun n h=>
 .nm T36 h) (.nm T36 h)
def x45 : AC := (.shal k45_0 .skip)
def f45 : AF := .mk x45 []
def k46_2 : KF := K2 y0 y6 fun c i x h a b=>
 tQ (nC a h) fun d=>
 tQ (fA 1 d h) fun e=>
 tQ (lD e h) fun f=>
 tQ (fA 1 b h) fun g=>
 tQ (lD g h) fun j=>
 tQ (iX 1 f j h) fun k=>
 tQ (lD k h) fun l=>
 tQ (nC l h) fun m=>
 tQ (fA 4 m h) fun n=>
 tQ (lD n h) fun o=>
 I o (tQ (nC a h) fun p=>
 tQ (fA 1 p h) fun q=>
 tQ (lD q h) fun s=>
 tQ (fA 1 b h) fun t=>
 tQ (lD t h) fun v=>
 tQ (iX 1 s v h) fun w=>
 tQ (lD w h) fun y=>
 tQ (ldn 3 b h) fun z=>
 tX (c 84 [y,z] h) fun a0 h=>
 x (T12 (.bool true)) h) (x (T12 (.bool true)) h)
def k46_1 : KF := K3 y0 y5 y6 fun c i x h a b d=>
 J a h fun e h=>
 A 0 e h fun f h=>
 L f h fun g h=>
 D b i1 h fun j h=>
 C c 83 [g,b,j] h fun k h=>
 J a h fun l h=>
 A 0 l h fun m h=>
 W m k h fun n h=>
 x (T9 a d) h
def k46_0 : KF := K2 y0 y1 fun c i x h a b=>
 C c 82 [a,b] h fun d h=>
 Y d i0 h fun e h=>
 I e (.ret (T12 (.bool false)) h) (J a h fun f h=>
 A 0 f h fun g h=>
 L g h fun j h=>
 X 3 j d h fun k h=>
 M 3 k h fun l h=>
 O 167 3 (.k1 (Y3 i0 i0 .nils)) h fun m h=>
 S 3 m l h fun n h=>
 x (T73 a d m) h)
def x46 : AC := (.shal k46_0 (.shal k46_1 (.shal k46_2 .ret)))
def f46 : AF := .mk x46 [.t .h0 .h4]
def k49_0 : KF := K4 y0 y1 y2 y16 fun c i x h a b d e=>
 I e (J a h fun f h=>
 A 1 f h fun g h=>
 L g h fun j h=>
 X 1 j b h fun k h=>
 L k h fun l h=>
 C c 87 [l,d] h fun m h=>
 .nm T36 h) (.nm T36 h)
def x49 : AC := (.seq (.ops [m d6 r0,
 m d7 r1,
 oc d8 86 [r6,r7],
 m d9 r8,
 .g .h0 .h9 true d10 (.op (.mv r2)),
 .g .h0 .h9 true d11 (.op (.bin .ge r10 a1)),
 o d12 (.pick r9 r11 (.c (.bool false))),
 m d13 r12,
 .g .h0 .hd true d14 (.op (.mv r2)),
 .g .h0 .hd true d15 (.op (.bin .le r14 (.c (pi 1000)))),
 o d16 (.pick r13 r15 (.c (.bool false)))]) (.shal k49_0 .skip))
def f49 : AF := .mk x49 []
def k50_1 : KF := K4 y0 y1 y2 y9 fun c i x h a b d e=>
 I e (J a h fun f h=>
 A 1 f h fun g h=>
 L g h fun j h=>
 X 1 j b h fun k h=>
 L k h fun l h=>
 J l h fun m h=>
 A 4 m h fun n h=>
 W n (.bool false) h fun o h=>
 J l h fun p h=>
 A 17 p h fun q h=>
 W q .nils h fun s h=>
 J l h fun t h=>
 A 2 t h fun v h=>
 L v h fun w h=>
 C c 88 [w,d] h fun y h=>
 .nm T36 h) (.nm T36 h)
def k50_0 : KF := K3 y0 y1 y2 fun c i x h a b d=>
 C c 55 [a,b] h fun e h=>
 x (T74 a b d e) h
def x50 : AC := (.shal k50_0 (.shal k50_1 .skip))
def f50 : AF := .mk x50 []
def k51_1 : KF := K3 y0 y1 y20 fun c i x h a b d=>
 I d (.ret (T12 (.bool false)) h) (.nm (T25 a b) h)
def k51_2 : KF := K2 y0 y1 fun c i x h a b=>
 J a h fun d h=>
 A 1 d h fun e h=>
 L e h fun f h=>
 X 1 f b h fun g h=>
 L g h fun j h=>
 C c 65 [j,(.bool true)] h fun k h=>
 .ret (T12 (.bool true)) h
def k51_0 : KF := K2 y0 y1 fun c i x h a b=>
 x (T25 a b) h
def x51 : AC := (.shal k51_0 (.seq (.seq (.ops [m d5 r0,
 m d6 r1,
 oc d7 86 [r5,r6],
 o d8 (.un .not r7),
 m d9 r8,
 .g .h0 .h9 false d10 (.op (.mv r0)),
 .g .h0 .h9 false d11 (.op (.nilc r10)),
 .g .h0 .h9 false d12 (.op (.fad 1 r11)),
 .g .h0 .h9 false d13 (.op (.ld1 r12)),
 .g .h0 .h9 false d14 (.op (.mv r1)),
 .g .h0 .h9 false d15 (.op (.ixs 1 r13 r14)),
 .g .h0 .h9 false d16 (.op (.ld1 r15)),
 .g .h0 .h9 false d17 (.op (.nilc r16)),
 .g .h0 .h9 false d18 (.op (.fad 4 r17)),
 .g .h0 .h9 false d19 (.op (.ld1 r18)),
 o d20 (.pick r9 (.c (.bool true)) r19)]) (.shal k51_1 .skip)) (.shal k51_2 .skip)))
def f51 : AF := .mk x51 [.t .h0 .h4]
def k53_0 : KF := K1 y0 fun c i x h a=>
 J a h fun b h=>
 A 1 b h fun d h=>
 L d h fun e h=>
 J e h fun f h=>
 A 15 f h fun g h=>
 L g h fun j h=>
 J a h fun k h=>
 A 1 k h fun l h=>
 L l h fun m h=>
 J m h fun n h=>
 A 15 n h fun o h=>
 W o .nils h fun p h=>
 .ret (T24 j) h
def x53 : AC := (.shal k53_0 .skip)
def f53 : AF := .mk x53 [.t .h0 .h2]
def k54_0 : KF := K2 y0 y1 fun c i x h a b=>
 B 62 b h fun d h=>
 x (T13 a d) h
def x54 : AC := (.shal k54_0 (.seq (.drw [qf 0 d5 16 r3,
 ql 0 d6 r5,
 q 0 (o d7 (.bin .lt r6 a0)),
 q 0 (m d8 r7),
 q 0 (.g .h0 .h8 false d9 (.op (.mv r0))),
 q 0 (.g .h0 .h8 false d10 (.op (.nilc r9))),
 q 0 (.g .h0 .h8 false d11 (.op (.fad 0 r10))),
 q 0 (.g .h0 .h8 false d12 (.op (.ld1 r11))),
 q 0 (.g .h0 .h8 false d13 (.op (.fad 16 r3))),
 q 0 (.g .h0 .h8 false d14 (.op (.ld1 r13))),
 w (.g .h0 .h8 false d15 (.call 28 [r12,r14])),
 q 0 (.g .h0 .h8 false d16 (.op (.un .not r15))),
 q 0 (o d17 (.pick r8 (.c (.bool true)) r16)),
 q 0 (m d18 r17),
 q 0 (.g .h1 .h2 false d19 (.op (.mv r0))),
 q 0 (.g .h1 .h2 false d20 (.op (.nilc r19))),
 q 0 (.g .h1 .h2 false d21 (.op (.fad 3 r20))),
 q 0 (.g .h1 .h2 false d22 (.op (.ld1 r21))),
 q 0 (.g .h1 .h2 false d23 (.op (.fad 16 r3))),
 q 0 (.g .h1 .h2 false d24 (.op (.ld1 r23))),
 q 0 (.g .h1 .h2 false d25 (.op (.ixs 1 r22 r24))),
 q 0 (.g .h1 .h2 false d26 (.op (.ld1 r25))),
 q 0 (.g .h1 .h2 false d27 (.op (.fad 17 r3))),
 q 0 (.g .h1 .h2 false d28 (.op (.ld1 r27))),
 q 0 (.g .h1 .h2 false d29 (.op (.bin .ne r26 r28))),
 q 0 (o d30 (.pick r18 (.c (.bool true)) r29)),
 q 0 (m d4 r30)]) .ret))
def f54 : AF := .mk x54 [.t .h0 .h4]
def k55_0 : KF := K2 y0 y1 fun c i x h a b=>
 x (T25 a b) h
def x55 : AC := (.shal k55_0 (.seq (.ops [m d5 r0,
 m d6 r1,
 oc d7 86 [r5,r6],
 m d8 r7,
 .g .h0 .h8 true d9 (.op (.mv r0)),
 .g .h0 .h8 true d10 (.op (.nilc r9)),
 .g .h0 .h8 true d11 (.op (.fad 1 r10)),
 .g .h0 .h8 true d12 (.op (.ld1 r11)),
 .g .h0 .h8 true d13 (.op (.mv r1)),
 .g .h0 .h8 true d14 (.op (.ixs 1 r12 r13)),
 .g .h0 .h8 true d15 (.op (.ld1 r14)),
 .g .h0 .h8 true d16 (.op (.nilc r15)),
 .g .h0 .h8 true d17 (.op (.fad 4 r16)),
 .g .h0 .h8 true d18 (.op (.ld1 r17)),
 o d19 (.pick r8 r18 (.c (.bool false))),
 m d4 r19]) .ret))
def f55 : AF := .mk x55 [.t .h0 .h4]
def k56_0 : KF := fun c i x r h=>
 U [.nils] [] h fun a h=>
 B 173 a h fun b h=>
 .ret (T1 b) h
def x56 : AC := (.shal k56_0 .skip)
def f56 : AF := .mk x56 [.t .h0 .h0]
def k57_0 : KF := K2 y0 y1 fun c i x h a b=>
 tR (cK (.toInt .u64) b h) fun d h=>
 C c 90 [a,d,(pi 8)] h fun e h=>
 .nm T36 h
def x57 : AC := (.shal k57_0 .skip)
def f57 : AF := .mk x57 []
def k58_0 : KF := K1 y0 fun c i x h a=>
 J a h fun b h=>
 A 0 b h fun d h=>
 L d h fun e h=>
 C c 91 [e] h fun f h=>
 .ret (T24 f) h
def x58 : AC := (.shal k58_0 .skip)
def f58 : AF := .mk x58 [.t .h0 .h2]
def k60_2 : KF := K5 y0 y3 y12 y13 y14 fun c i x h a b d e f=>
 Y f e h fun g h=>
 I g (X 1 d f h fun j h=>
 L j h fun k h=>
 J k h fun l h=>
 A 4 l h fun m h=>
 L m h fun n h=>
 I n (J k h fun o h=>
 A 10 o h fun p h=>
 L p h fun q h=>
 tR (maxV false [b,q] h) fun s h=>
 D f i1 h fun t h=>
 .nm (T75 a s d e t) h) (D f i1 h fun o h=>
 .nm (T75 a b d e o) h)) (.ex 0 (T75 a b d e f) h)
def k60_1 : KF := K2 y0 y3 fun c i x h a b=>
 J a h fun d h=>
 A 1 d h fun e h=>
 L e h fun f h=>
 G f h fun g h=>
 x (T75 a b f g i0) h
def k60_6 : KF := K5 y3 y6 y32 y33 y34 fun c i x h a b d e f=>
 X 1 d f h fun g h=>
 L g h fun j h=>
 J j h fun k h=>
 A 4 k h fun l h=>
 L l h fun m h=>
 tR (u_not m h) fun n h=>
 I n (.ex 3 (T76 a b d e f) h) (J j h fun o h=>
 A 9 o h fun p h=>
 L p h fun q h=>
 C c 96 [q] h fun s h=>
 Y s a h fun t h=>
 I t (J j h fun v h=>
 A 24 v h fun w h=>
 W w (.bool true) h fun y h=>
 x (T77 a (.bool true) j d e f) h) (x (T77 a b j d e f) h))
def k60_7 : KF := K5 y3 y6 y32 y33 y34 fun c i x h a b d e f=>
 D f i1 h fun g h=>
 .nm (T76 a b d e g) h
def k60_5 : KF := K5 y3 y6 y32 y33 y34 fun c i x h a b d e f=>
 Y f e h fun g h=>
 I g (x (T76 a b d e f) h) (.ex 2 (T11 b) h)
def k60_4 : KF := K3 y0 y3 y6 fun c i x h a b d=>
 J a h fun e h=>
 A 1 e h fun f h=>
 L f h fun g h=>
 G g h fun j h=>
 x (T76 b d g j i0) h
def k60_8 : KF := K1 y6 fun c i x h a=>
 .ret (T24 a) h
def k60_3 : KF := K2 y0 y3 fun c i x h a b=>
 x (T42 a b (.bool false)) h
def k60_0 : KF := K1 y0 fun c i x h a=>
 x (T13 a i0) h
def x60 : AC := (.shal k60_0 (.seq (.shal k60_1 (.block 0 (.loop (.shal k60_2 .skip)))) (.shal k60_3 (.seq (.shal k60_4 (.block 2 (.loop (.shal k60_5 (.seq (.block 3 (.shal k60_6 (.ops [m d53 r6,
 m d54 r53,
 .g .h3 .h6 false d55 (.op (.mv r8)),
 .g .h3 .h6 false d56 (.call 97 [r55]),
 o d57 (.pick r54 (.c (.bool true)) r56),
 m d58 r57,
 .g .h3 .ha false d59 (.op (.mv r8)),
 .g .h3 .ha false d60 (.op (.nilc r59)),
 .g .h3 .ha false d61 (.op (.fad 17 r60)),
 .g .h3 .ha false d62 (.op (.ld1 r61)),
 .g .h3 .ha false d63 (.op (.len r62)),
 .g .h3 .ha false d64 (.op (.bin .gt r63 a0)),
 o d65 (.pick r58 (.c (.bool true)) r64),
 m d6 r65]))) (.shal k60_7 .skip)))))) (.shal k60_8 .skip)))))
def f60 : AF := .mk x60 [.t .h0 .h2]
def k61_1 : KF := K4 y0 y7 y8 y9 fun c i x h a b d e=>
 Y e d h fun f h=>
 I f (X 1 b e h fun g h=>
 L g h fun j h=>
 J j h fun k h=>
 A 4 k h fun l h=>
 L l h fun m h=>
 I m (C c 49 [a,e,(pi 250)] h fun n h=>
 D e i1 h fun o h=>
 .nm (T78 a b d o) h) (D e i1 h fun n h=>
 .nm (T78 a b d n) h)) (.ex 0 (T78 a b d e) h)
def k61_0 : KF := K1 y0 fun c i x h a=>
 J a h fun b h=>
 A 1 b h fun d h=>
 L d h fun e h=>
 G e h fun f h=>
 x (T78 a e f i0) h
def x61 : AC := (.shal k61_0 (.block 0 (.loop (.shal k61_1 .skip))))
def f61 : AF := .mk x61 []
def k62_0 : KF := K2 y0 y1 fun c i x h a b=>
 J a h fun d h=>
 A 2 d h fun e h=>
 L e h fun f h=>
 tR (lkp (.one .s) .nilp false f b h) fun g h=>
 tR (bK .peq g .nilp h) fun j h=>
 I j (.ret (T28 .nils (.bool false)) h) (C c 98 [g] h fun k h=>
 .ret (T28 k (.bool true)) h)
def x62 : AC := (.shal k62_0 .skip)
def f62 : AF := .mk x62 [.t .h0 .h4,.t .h0 .h5]
def k63_0 : KF := K2 y0 y1 fun c i x h a b=>
 J a h fun d h=>
 A 3 d h fun e h=>
 L e h fun f h=>
 C c 99 [f,b] h fun g h=>
 .ret (T12 g) h
def x63 : AC := (.shal k63_0 .skip)
def f63 : AF := .mk x63 [.t .h0 .h4]
def k64_0 : KF := fun c i x r h=>
 U [.nils,i0] [] h fun a h=>
 B 184 a h fun b h=>
 .ret (T1 b) h
def x64 : AC := (.shal k64_0 .skip)
def f64 : AF := .mk x64 [.t .h0 .h0]
def k65_6 : KF := K4 y0 y81 y82 y83 fun c i x h a b d e=>
 Y e d h fun f h=>
 I f (X 1 b e h fun g h=>
 L g h fun j h=>
 C c 107 [j] h fun k h=>
 C c 106 [a,k] h fun l h=>
 D e i1 h fun m h=>
 .nm (T80 a b d m) h) (.ex 0 (T80 a b d e) h)
def k65_5 : KF := K2 y0 y4 fun c i x h a b=>
 G b h fun d h=>
 x (T80 a b d i0) h
def k65_9 : KF := K1 y0 fun c i x h a=>
 C c 109 [a] h fun b h=>
 .nm T36 h
def k65_8 : KF := K1 y0 fun c i x h a=>
 tQ (nC a h) fun b=>
 tQ (fA 0 b h) fun d=>
 tQ (lD d h) fun e=>
 tQ (nC e h) fun f=>
 tQ (fA 2 f h) fun g=>
 tQ (lD g h) fun j=>
 tQ (nC a h) fun k=>
 tQ (fA 1 k h) fun l=>
 tQ (lD l h) fun m=>
 tQ (nC a h) fun n=>
 tQ (fA 13 n h) fun o=>
 tQ (fA 1 o h) fun p=>
 tQ (lD p h) fun q=>
 tQ (nC a h) fun s=>
 tQ (fA 13 s h) fun t=>
 tQ (fA 3 t h) fun v=>
 tQ (lD v h) fun w=>
 tQ (nC j h) fun y=>
 tX (i 0 j [m,q,w] h) fun z h=>
 x (T1 a) h
def k65_7 : KF := K1 y0 fun c i x h a=>
 J a h fun b h=>
 A 6 b h fun d h=>
 L d h fun e h=>
 D e i1 h fun f h=>
 J a h fun g h=>
 A 6 g h fun j h=>
 W j f h fun k h=>
 C c 108 [a] h fun l h=>
 x (T1 a) h
def k65_4 : KF := K1 y0 fun c i x h a=>
 J a h fun b h=>
 A 2 b h fun d h=>
 L d h fun e h=>
 C c 105 [e] h fun f h=>
 C c 104 [f] h fun g h=>
 E 0 g h fun j h=>
 E 1 g h fun k h=>
 x (T79 a j) h
def k65_3 : KF := K2 y0 y1 fun c i x h a b=>
 J a h fun d h=>
 A 3 d h fun e h=>
 L e h fun f h=>
 J a h fun g h=>
 A 19 g h fun j h=>
 W j i0 h fun k h=>
 J a h fun l h=>
 A 22 l h fun m h=>
 W m i0 h fun n h=>
 J a h fun o h=>
 A 23 o h fun p h=>
 W p f h fun q h=>
 J a h fun s h=>
 A 24 s h fun t h=>
 W t b h fun v h=>
 x (T1 a) h
def k65_2 : KF := K2 y0 y1 fun c i x h a b=>
 U [i0,i0,.nilm,iS] [] h fun d h=>
 J a h fun e h=>
 A 13 e h fun f h=>
 S 4 f d h fun g h=>
 x (T25 a b) h
def k65_1 : KF := K2 y0 y1 fun c i x h a b=>
 tR (mkm h) fun d h=>
 J a h fun e h=>
 A 11 e h fun f h=>
 W f d h fun g h=>
 J a h fun j h=>
 A 17 j h fun k h=>
 W k .nils h fun l h=>
 J a h fun m h=>
 A 18 m h fun n h=>
 W n i0 h fun o h=>
 J a h fun p h=>
 A 6 p h fun q h=>
 W q i0 h fun s h=>
 J a h fun t h=>
 A 10 t h fun v h=>
 W v i0 h fun w h=>
 J a h fun y h=>
 A 12 y h fun z h=>
 W z i0 h fun a0 h=>
 x (T25 a b) h
def k65_0 : KF := K2 y0 y1 fun c i x h a b=>
 J a h fun d h=>
 A 4 d h fun e h=>
 W e (.bool true) h fun f h=>
 x (T25 a b) h
def x65 : AC := (.shal k65_0 (.seq (.drw [w (oc d14 100 []),
 w (oc d15 101 []),
 q 2 (m d20 r0),
 qj 2 d21 r20,
 qf 2 d22 0 r21,
 ql 2 d23 r22,
 w (oc d24 103 [r23]),
 q 3 (m d16 r0),
 qj 3 d17 r16,
 qf 3 d18 1 r17,
 ql 3 d19 r18,
 w (oc d25 102 [r19,r24]),
 q 4 (m d11 r0),
 qj 0 d26 r11,
 qf 0 d27 7 r26,
 w (os r27 r14),
 q 5 (m d12 r0),
 qj 0 d28 r12,
 qf 0 d29 9 r28,
 w (os r29 r15),
 q 6 (m d13 r0),
 qj 0 d30 r13,
 qf 0 d31 8 r30,
 w (os r31 r25)]) (.shal k65_1 (.shal k65_2 (.shal k65_3 (.shal k65_4 (.seq (.shal k65_5 (.block 0 (.loop (.shal k65_6 .skip)))) (.shal k65_7 (.shal k65_8 (.shal k65_9 .skip))))))))))
def f65 : AF := .mk x65 []
def k66_0 : KF := fun c i x r h=>
 U [.nils,.nils] [] h fun a h=>
 B 197 a h fun b h=>
 .ret (T1 b) h
def x66 : AC := (.shal k66_0 .skip)
def f66 : AF := .mk x66 [.t .h0 .h0]
def k67_0 : KF := fun c i x r h=>
 U [i0,i0,i0,iS,i0,i0,i0,iS,i0,i0,i0,iS,i0,i0,i0,iS,i0,i0,i0,iS,i0,i0,i0,iS,i0,i0,i0,iS,i0,i0,i0,iS,i0,i0,i0,iS,i0,i0,i0,iS,i0,i0,i0,iS,i0,i0,i0,iS,i0,i0,i0,iS,i0,i0,i0,iS,i0,i0,i0,iS,i0,i0,i0,iS] [] h fun a h=>
 B 202 a h fun b h=>
 .ret (T1 b) h
def x67 : AC := (.shal k67_0 .skip)
def f67 : AF := .mk x67 [.t .h0 .h0]
def k68_2 : KF := K4 y3 y6 y7 y8 fun c i x h a b d e=>
 Y e d h fun f h=>
 I f (X 2 b e h fun g h=>
 M 2 g h fun j h=>
 O 205 2 (.k1 (Y2 .nils (.cplx .f64 0 0))) h fun k h=>
 S 2 k j h fun l h=>
 A 0 k h fun m h=>
 L m h fun n h=>
 A 1 k h fun o h=>
 L o h fun p h=>
 C c 110 [n,p] h fun q h=>
 tR (bs 205 2 1 [.nils,(.cplx .f64 0 0)] [.mk 0 2 (.c q)] h) fun s h=>
 tR (appV 205 2 a s h) fun t h=>
 D e i1 h fun v h=>
 .nm (T81 t b d v) h) (.ex 0 (T81 a b d e) h)
def k68_1 : KF := K2 y0 y3 fun c i x h a b=>
 G a h fun d h=>
 x (T81 b a d i0) h
def k68_3 : KF := K1 y3 fun c i x h a=>
 .ret (T24 a) h
def k68_0 : KF := K1 y0 fun c i x h a=>
 x (T13 a .nils) h
def x68 : AC := (.shal k68_0 (.seq (.shal k68_1 (.block 0 (.loop (.shal k68_2 .skip)))) (.shal k68_3 .skip)))
def f68 : AF := .mk x68 [.t .h0 .h2]
def k69_1 : KF := K2 y1 y36 fun c i x h a b=>
 I b (.ret (T24 (.bool false)) h) (.nm (T34 a) h)
def k69_5 : KF := K5 y1 y38 y39 y40 y55 fun c i x h a b d e f=>
 I f (.ret (T24 (.bool false)) h) (.nm (T82 a b d e) h)
def k69_4 : KF := K4 y1 y38 y39 y40 fun c i x h a b d e=>
 X 2 b e h fun f h=>
 M 2 f h fun g h=>
 O 69 2 (.k1 (Y2 iS i0)) h fun j h=>
 S 2 j g h fun k h=>
 x (T83 a j b d e) h
def k69_6 : KF := K4 y1 y38 y39 y40 fun c i x h a b d e=>
 D e i1 h fun f h=>
 .nm (T82 a b d f) h
def k69_3 : KF := K4 y1 y38 y39 y40 fun c i x h a b d e=>
 Y e d h fun f h=>
 I f (x (T82 a b d e) h) (.ex 0 (T34 a) h)
def k69_2 : KF := K1 y1 fun c i x h a=>
 A 5 a h fun b h=>
 L b h fun d h=>
 G d h fun e h=>
 x (T82 a d e i0) h
def k69_10 : KF := K4 y58 y59 y60 y74 fun c i x h a b d e=>
 I e (.ret (T24 (.bool false)) h) (.nm (T84 a b d) h)
def k69_9 : KF := K3 y58 y59 y60 fun c i x h a b d=>
 X 3 a d h fun e h=>
 M 3 e h fun f h=>
 O 150 3 (.k1 (Y3 iS .nils (.bool false))) h fun g h=>
 S 3 g f h fun j h=>
 x (T85 g a b d) h
def k69_11 : KF := K3 y58 y59 y60 fun c i x h a b d=>
 D d i1 h fun e h=>
 .nm (T84 a b e) h
def k69_8 : KF := K3 y58 y59 y60 fun c i x h a b d=>
 Y d b h fun e h=>
 I e (x (T84 a b d) h) (.ex 2 T36 h)
def k69_7 : KF := K1 y1 fun c i x h a=>
 A 6 a h fun b h=>
 L b h fun d h=>
 G d h fun e h=>
 x (T84 d e i0) h
def k69_12 : KF := fun c i x r h=>
 .ret (T24 (.bool true)) h
def k69_0 : KF := K1 y0 fun c i x h a=>
 B 29 a h fun b h=>
 x (T34 b) h
def x69 : AC := (.shal k69_0 (.seq (.seq (.ops [of d7 0 r1,
 ol d8 r7,
 of d9 1 r1,
 ol d10 r9,
 of d11 2 r1,
 ol d12 r11,
 o d13 (.bslice 3 1 3 [i0,i0,i0] [.mk 0 1 r8,.mk 1 1 r10,.mk 2 1 r12]),
 oc d14 111 [r13],
 o d15 (.un .not r14),
 m d16 r15,
 .g .h1 .h0 false d17 (.op (.fad 3 r1)),
 .g .h1 .h0 false d18 (.op (.ld1 r17)),
 .g .h1 .h0 false d19 (.op (.fad 4 r1)),
 .g .h1 .h0 false d20 (.op (.ld1 r19)),
 .g .h1 .h0 false d21 (.op (.bslice 9 1 2 [iS,iS] [.mk 0 1 r18,.mk 1 1 r20])),
 .g .h1 .h0 false d22 (.call 112 [r21]),
 .g .h1 .h0 false d23 (.op (.un .not r22)),
 o d24 (.pick r16 (.c (.bool true)) r23),
 m d25 r24,
 .g .h1 .h9 false d26 (.op (.fad 5 r1)),
 .g .h1 .h9 false d27 (.op (.ld1 r26)),
 .g .h1 .h9 false d28 (.op (.len r27)),
 .g .h1 .h9 false d29 (.op (.bin .gt r28 (.c (pi 255)))),
 o d30 (.pick r25 (.c (.bool true)) r29),
 m d31 r30,
 .g .h1 .hf false d32 (.op (.fad 6 r1)),
 .g .h1 .hf false d33 (.op (.ld1 r32)),
 .g .h1 .hf false d34 (.op (.len r33)),
 .g .h1 .hf false d35 (.op (.bin .gt r34 (.c (pi 255)))),
 o d36 (.pick r31 (.c (.bool true)) r35)]) (.shal k69_1 .skip)) (.seq (.shal k69_2 (.block 0 (.loop (.shal k69_3 (.seq (.block 1 (.shal k69_4 (.seq (.ops [of d44 1 r4,
 ol d45 r44,
 o d46 (.bslice 3 1 1 [i0] [.mk 0 1 r45]),
 oc d47 111 [r46],
 o d48 (.un .not r47),
 m d49 r48,
 .g .h3 .h1 false d50 (.op (.fad 0 r4)),
 .g .h3 .h1 false d51 (.op (.ld1 r50)),
 .g .h3 .h1 false d52 (.op (.bslice 9 1 1 [iS] [.mk 0 1 r51])),
 .g .h3 .h1 false d53 (.call 112 [r52]),
 .g .h3 .h1 false d54 (.op (.un .not r53)),
 o d55 (.pick r49 (.c (.bool true)) r54)]) (.shal k69_5 .skip)))) (.shal k69_6 .skip)))))) (.seq (.shal k69_7 (.block 2 (.loop (.shal k69_8 (.seq (.block 3 (.shal k69_9 (.seq (.ops [of d64 0 r6,
 ol d65 r64,
 o d66 (.bslice 9 1 1 [iS] [.mk 0 1 r65]),
 oc d67 112 [r66],
 o d68 (.un .not r67),
 m d69 r68,
 .g .h4 .h5 false d70 (.op (.fad 1 r6)),
 .g .h4 .h5 false d71 (.op (.ld1 r70)),
 .g .h4 .h5 false d72 (.call 113 [r71]),
 .g .h4 .h5 false d73 (.op (.un .not r72)),
 o d74 (.pick r69 (.c (.bool true)) r73)]) (.shal k69_10 .skip)))) (.shal k69_11 .skip)))))) (.shal k69_12 .skip)))))
def f69 : AF := .mk x69 [.t .h0 .h2]
def k70_0 : KF := K2 y0 y1 fun c i x h a b=>
 tR (lent b h) fun d h=>
 C c 114 [a,d] h fun e h=>
 J a h fun f h=>
 A 0 f h fun g h=>
 L g h fun j h=>
 tR (o_apps 5 (.c j) (.c b) .nil h) fun k h=>
 J a h fun l h=>
 A 0 l h fun m h=>
 W m k h fun n h=>
 .nm T36 h
def x70 : AC := (.shal k70_0 .skip)
def f70 : AF := .mk x70 []
def k71_0 : KF := K2 y0 y1 fun c i x h a b=>
 tR (cK (.toInt .u64) b h) fun d h=>
 C c 90 [a,d,i1] h fun e h=>
 .nm T36 h
def x71 : AC := (.shal k71_0 .skip)
def f71 : AF := .mk x71 []
def k72_0 : KF := K1 y0 fun c i x h a=>
 tR (bK (.isnil .s) a .nils h) fun b h=>
 I b (.ret (T24 .nils) h) (tR (bs 69 2 0 [] [] h) fun d h=>
 tR (appV 69 2 d a h) fun e h=>
 .ret (T24 e) h)
def x72 : AC := (.shal k72_0 .skip)
def f72 : AF := .mk x72 [.t .h0 .h2]
def k73_0 : KF := K1 y0 fun c i x h a=>
 tR (bK (.isnil .s) a .nils h) fun b h=>
 I b (.ret (T24 .nils) h) (tR (bs 150 3 0 [] [] h) fun d h=>
 tR (appV 150 3 d a h) fun e h=>
 .ret (T24 e) h)
def x73 : AC := (.shal k73_0 .skip)
def f73 : AF := .mk x73 [.t .h0 .h2]
def k75_0 : KF := K1 y0 fun c i x h a=>
 C c 115 [a,(pi 10)] h fun b h=>
 .ret (T24 b) h
def x75 : AC := (.shal k75_0 .skip)
def f75 : AF := .mk x75 [.t .h0 .h2]
def k76_1 : KF := K2 y0 y1 fun c i x h a b=>
 tQ (nC a h) fun d=>
 tQ (fA 1 d h) fun e=>
 tQ (lD e h) fun f=>
 tQ (nC f h) fun g=>
 tQ (fA 0 g h) fun j=>
 tQ (ixa 5 3 j b h) fun k=>
 tQ (fA 0 k h) fun l=>
 tQ (lD l h) fun m=>
 tQ (nC a h) fun n=>
 tQ (fA 1 n h) fun o=>
 tQ (lD o h) fun p=>
 tQ (nC p h) fun q=>
 tQ (fA 0 q h) fun s=>
 tQ (ixa 5 3 s b h) fun t=>
 tQ (fA 1 t h) fun v=>
 tQ (lD v h) fun w=>
 .ret (T28 m w) h
def k76_0 : KF := K2 y0 y1 fun c i x h a b=>
 J a h fun d h=>
 A 0 d h fun e h=>
 L e h fun f h=>
 C c 55 [f,b] h fun g h=>
 tR (u_not g h) fun j h=>
 I j (.ret (T28 i0 iS) h) (x (T25 a b) h)
def x76 : AC := (.shal k76_0 (.shal k76_1 .skip))
def f76 : AF := .mk x76 [.t .h0 .h4,.t .h0 .h5]
def k78_2 : KF := K4 y2 y8 y9 y40 fun c i x h a b d e=>
 I e (.ret (T30 d .nils) h) (.nm (T87 a b d) h)
def k78_3 : KF := K3 y2 y8 y9 fun c i x h a b d=>
 A 2 b h fun e h=>
 L e h fun f h=>
 A 0 b h fun g h=>
 L g h fun j h=>
 Z a j h fun k h=>
 tR (o_slc 1 (.c f) (.some (.c k)) .none .none .nil h) fun l h=>
 C c 118 [l] h fun m h=>
 .ret (T30 d m) h
def k78_1 : KF := K2 y2 y8 fun c i x h a b=>
 A 0 b h fun d h=>
 L d h fun e h=>
 A 2 b h fun f h=>
 L f h fun g h=>
 G g h fun j h=>
 D e j h fun k h=>
 x (T87 a b k) h
def k78_0 : KF := K3 y0 y1 y2 fun c i x h a b d=>
 J a h fun e h=>
 A 0 e h fun f h=>
 L f h fun g h=>
 C c 55 [g,b] h fun j h=>
 tR (u_not j h) fun k h=>
 I k (.ret (T30 i0 .nils) h) (J a h fun l h=>
 A 1 l h fun m h=>
 L m h fun n h=>
 J n h fun o h=>
 A 0 o h fun p h=>
 tR (ixa 5 3 p b h) fun q h=>
 M 3 q h fun s h=>
 O 87 3 (.k1 (Y3 i0 iS .nils)) h fun t h=>
 S 3 t s h fun v h=>
 x (T86 d t) h)
def x78 : AC := (.shal k78_0 (.shal k78_1 (.seq (.seq (.ops [m d32 r2,
 of d33 0 r8,
 ol d34 r33,
 o d35 (.bin .lt r32 r34),
 m d36 r35,
 .g .h2 .h4 false d37 (.op (.mv r2)),
 .g .h2 .h4 false d38 (.op (.mv r9)),
 .g .h2 .h4 false d39 (.op (.bin .ge r37 r38)),
 o d40 (.pick r36 (.c (.bool true)) r39)]) (.shal k78_2 .skip)) (.shal k78_3 .skip))))
def f78 : AF := .mk x78 [.t .h0 .h6,.t .h0 .h7]
def k79_1 : KF := K3 y0 y2 y6 fun c i x h a b d=>
 tR (cK (.s2b 5) b h) fun e h=>
 C c 119 [e] h fun f h=>
 E 0 f h fun g h=>
 E 1 f h fun j h=>
 O 29 7 (.k1 (Y7 i0 i0 i0 iS iS .nils .nils)) h fun k h=>
 S 7 k g h fun l h=>
 tR (b_ne j i0 h) fun m h=>
 I m (U [i0,i0,iS] [.mk 0 1 (.c (pi 12))] h fun n h=>
 S 3 d n h fun o h=>
 .ret (T30 d i0) h) (tQ (nC a h) fun n=>
 tQ (fA 0 n h) fun o=>
 tQ (lD o h) fun p=>
 tQ (ldn 7 k h) fun q=>
 tX (c 120 [p,q] h) fun s h=>
 tX (RV.toT (stn 3 d s h)) fun t h=>
 x (T30 d i0) h)
def k79_0 : KF := K3 y0 y1 y2 fun c i x h a b d=>
 O 52 3 (.k1 (Y3 i0 i0 iS)) h fun e h=>
 J a h fun f h=>
 A 1 f h fun g h=>
 L g h fun j h=>
 tR (b_ne b j h) fun k h=>
 I k (U [i0,i0,iS] [] h fun l h=>
 S 3 e l h fun m h=>
 .ret (T30 e i1) h) (J a h fun l h=>
 A 1 l h fun m h=>
 L m h fun n h=>
 D n i1 h fun o h=>
 J a h fun p h=>
 A 1 p h fun q h=>
 W q o h fun s h=>
 x (T88 a d e) h)
def x79 : AC := (.shal k79_0 (.shal k79_1 .ret))
def f79 : AF := .mk x79 [.agg 3 .h0 .h6,.t .h0 .h7]
def k80_0 : KF := K3 y0 y1 y2 fun c i x h a b d=>
 O 52 3 (.k1 (Y3 i0 i0 iS)) h fun e h=>
 J a h fun f h=>
 A 0 f h fun g h=>
 L g h fun j h=>
 C c 121 [j,b,d] h fun k h=>
 E 0 k h fun l h=>
 E 1 k h fun m h=>
 S 3 e l h fun n h=>
 .ret (T30 e m) h
def x80 : AC := (.shal k80_0 .skip)
def f80 : AF := .mk x80 [.agg 3 .h0 .h6,.t .h0 .h7]
def k81_3 : KF := K8 y0 y1 y2 y6 y11 y12 y13 y27 fun c i x h a b d e f g j k=>
 I k (.ex 1 (T91 a b d e f g j) h) (.nm (T91 a b d e f g j) h)
def k81_4 : KF := K4 y0 y1 y2 y6 fun c i x h a b d e=>
 tR (u_not d h) fun f h=>
 I f (.ret T36 h) (x (T92 a b d e) h)
def k81_2 : KF := K6 y0 y1 y2 y11 y12 y13 fun c i x h a b d e f g=>
 X 6 e g h fun j h=>
 M 6 j h fun k h=>
 O 221 6 (.k1 (Y6 i0 i0 i0 (.bool false) iS i0)) h fun l h=>
 S 6 l k h fun m h=>
 x (T90 a b d g l e f g) h
def k81_5 : KF := K6 y0 y1 y2 y11 y12 y13 fun c i x h a b d e f g=>
 D g i1 h fun j h=>
 .nm (T89 a b d e f j) h
def k81_1 : KF := K6 y0 y1 y2 y11 y12 y13 fun c i x h a b d e f g=>
 Y g f h fun j h=>
 I j (x (T89 a b d e f g) h) (.ex 0 (T31 a b d) h)
def k81_0 : KF := K3 y0 y1 y2 fun c i x h a b d=>
 J a h fun e h=>
 A 17 e h fun f h=>
 L f h fun g h=>
 G g h fun j h=>
 x (T89 a b d g j i0) h
def k81_7 : KF := K1 y0 fun c i x h a=>
 J a h fun b h=>
 A 19 b h fun d h=>
 L d h fun e h=>
 Q e (pi 2) h fun f h=>
 I f (C c 122 [a] h fun g h=>
 .nm T36 h) (Q e i0 h fun g h=>
 I g (J a h fun j h=>
 A 3 j h fun k h=>
 L k h fun l h=>
 J a h fun m h=>
 A 23 m h fun n h=>
 W n l h fun o h=>
 C c 123 [a] h fun p h=>
 .nm T36 h) (.nm T36 h))
def k81_6 : KF := K3 y0 y1 y2 fun c i x h a b d=>
 J a h fun e h=>
 A 18 e h fun f h=>
 L f h fun g h=>
 D g i1 h fun j h=>
 J a h fun k h=>
 A 18 k h fun l h=>
 W l j h fun m h=>
 x (T31 a b d) h
def x81 : AC := (.seq (.shal k81_0 (.block 0 (.loop (.shal k81_1 (.seq (.block 1 (.shal k81_2 (.seq (.seq (.ops [of d18 4 r7,
 ol d19 r18,
 m d20 r1,
 o d21 (.bin .sne r19 r20),
 m d22 r21,
 .g .h1 .h6 false d23 (.op (.fad 3 r7)),
 .g .h1 .h6 false d24 (.op (.ld1 r23)),
 .g .h1 .h6 false d25 (.op (.mv r2)),
 .g .h1 .h6 false d26 (.op (.bin .bne r24 r25)),
 o d27 (.pick r22 (.c (.bool true)) r26)]) (.shal k81_3 .skip)) (.shal k81_4 (.seq (.drw [q 0 (m d31 r0),
 qj 0 d32 r31,
 qf 0 d33 17 r32,
 ql 0 d34 r33,
 q 0 (m d35 r6),
 q 0 (m d36 r6),
 q 0 (o d37 (.slc 6 r34 .none (.some r35) (.some r36))),
 q 0 (m d38 r0),
 qj 0 d39 r38,
 qf 0 d40 17 r39,
 ql 0 d41 r40,
 q 0 (m d42 r6),
 q 0 (o d43 (.bin .add r42 a1)),
 q 0 (o d44 (.slc 6 r41 (.some r43) .none .none)),
 w (o d45 (.app 221 6 r37 r44)),
 q 1 (m d30 r0),
 qj 0 d46 r30,
 qf 0 d47 17 r46,
 w (os r47 r45)]) (.exit 0)))))) (.shal k81_5 .skip)))))) (.shal k81_6 (.seq (.drw [q 0 (m d61 r0),
 qj 0 d62 r61,
 qf 0 d63 1 r62,
 ql 0 d64 r63,
 q 0 (m d65 r0),
 qj 0 d66 r65,
 qf 0 d67 6 r66,
 ql 0 d68 r67,
 q 0 (m d69 r0),
 qj 0 d70 r69,
 qf 0 d71 18 r70,
 ql 0 d72 r71,
 q 0 (o d73 (.build [i0,i0,i0] [.mk 0 1 r64,.mk 1 1 r68,.mk 2 1 r72])),
 q 0 (m d74 r2),
 q 0 (m d75 r1),
 q 0 (o d76 (.build [i0,i0,i0,(.bool false),iS,i0] [.mk 0 3 r73,.mk 3 1 r74,.mk 4 1 r75,.mk 5 1 (.c (ni 0))])),
 w (o d77 (.bslice 221 6 1 [i0,i0,i0,(.bool false),iS,i0] [.mk 0 6 r76])),
 q 1 (m d57 r0),
 qj 1 d58 r57,
 qf 1 d59 17 r58,
 ql 1 d60 r59,
 w (o d78 (.app 221 6 r60 r77)),
 q 2 (m d56 r0),
 qj 0 d79 r56,
 qf 0 d80 17 r79,
 w (os r80 r78)]) (.shal k81_7 .skip))))
def f81 : AF := .mk x81 []
def k82_1 : KF := K2 y0 y1 fun c i x h a b=>
 J a h fun d h=>
 A 0 d h fun e h=>
 L e h fun f h=>
 G f h fun g h=>
 tR (b_rem b g h) fun j h=>
 .ret (T12 j) h
def k82_0 : KF := K2 y0 y1 fun c i x h a b=>
 J a h fun d h=>
 A 0 d h fun e h=>
 L e h fun f h=>
 G f h fun g h=>
 Q g i0 h fun j h=>
 I j (.ret (T12 (ni 0)) h) (Y b i0 h fun k h=>
 I k (D b i1 h fun l h=>
 tR (u_neg l h) fun m h=>
 x (T25 a m) h) (x (T25 a b) h))
def x82 : AC := (.shal k82_0 (.shal k82_1 .skip))
def f82 : AF := .mk x82 [.t .h0 .h4]
def k83_1 : KF := K4 y0 y1 y2 y7 fun c i x h a b d e=>
 tQ (o_slc 3 (.c a) .none (.some (.c b)) .none .nil h) fun f=>
 tQ (o_slc 3 (.c a) (.some (.c d)) .none .none .nil h) fun g=>
 tX (RV.toT (appV 167 3 f g h)) fun j h=>
 G j h fun k h=>
 tR (o_slc 3 (.c j) (.some (.c k)) (.some (.c e)) .none .nil h) fun l h=>
 tR (o_clr [i0,i0,.nils] (.c l) .nil h) fun m h=>
 .ret (T11 j) h
def k83_0 : KF := K3 y0 y1 y2 fun c i x h a b d=>
 G a h fun e h=>
 tR (o_slc 3 (.c a) (.some (.c b)) (.some (.c d)) (.some (.c e)) .nil h) fun f h=>
 Q b d h fun g h=>
 I g (.ret (T11 a) h) (G a h fun j h=>
 x (T93 a b d j) h)
def x83 : AC := (.shal k83_0 (.shal k83_1 .skip))
def f83 : AF := .mk x83 [.t .h0 .h6]
def k84_5 : KF := K4 y0 y3 y4 y6 fun c i x h a b d e=>
 A 0 b h fun f h=>
 L f h fun g h=>
 M 2 e h fun j h=>
 C c 127 [a,g,j,d] h fun k h=>
 .nm T36 h
def k84_7 : KF := K4 y0 y3 y4 y6 fun c i x h a b d e=>
 A 0 b h fun f h=>
 L f h fun g h=>
 M 2 e h fun j h=>
 C c 128 [a,g,j,d] h fun k h=>
 .nm T36 h
def k84_9 : KF := K4 y0 y3 y4 y6 fun c i x h a b d e=>
 A 0 b h fun f h=>
 L f h fun g h=>
 M 2 e h fun j h=>
 C c 129 [a,g,j,d] h fun k h=>
 .nm T36 h
def k84_11 : KF := K3 y0 y6 y29 fun c i x h a b d=>
 Q d (pi 5) h fun e h=>
 I e (M 2 b h fun f h=>
 C c 131 [a,f] h fun g h=>
 .nm T36 h) (.nm T36 h)
def k84_10 : KF := K5 y0 y3 y4 y6 y29 fun c i x h a b d e f=>
 Q f (pi 4) h fun g h=>
 x (T99 a b d e f g) h
def k84_8 : KF := K5 y0 y3 y4 y6 y29 fun c i x h a b d e f=>
 Q f (pi 3) h fun g h=>
 x (T98 a b d e f g) h
def k84_6 : KF := K5 y0 y3 y4 y6 y29 fun c i x h a b d e f=>
 Q f (pi 2) h fun g h=>
 x (T97 a b d e f g) h
def k84_4 : KF := K5 y0 y3 y4 y6 y29 fun c i x h a b d e f=>
 Q f i1 h fun g h=>
 x (T96 a b d e f g) h
def k84_3 : KF := K5 y0 y3 y4 y5 y6 fun c i x h a b d e f=>
 x (T95 a b d f e) h
def k84_13 : KF := K4 y0 y69 y70 y71 fun c i x h a b d e=>
 Y e d h fun f h=>
 I f (X 4 b e h fun g h=>
 M 4 g h fun j h=>
 O 231 4 (.k1 (Y4 i0 i0 i0 iS)) h fun k h=>
 S 4 k j h fun l h=>
 A 0 k h fun m h=>
 L m h fun n h=>
 A 3 k h fun o h=>
 L o h fun p h=>
 C c 133 [a,n,p] h fun q h=>
 D e i1 h fun s h=>
 .nm (T100 a b d s) h) (.ex 2 (T100 a b d e) h)
def k84_12 : KF := K2 y0 y4 fun c i x h a b=>
 C c 132 [b] h fun d h=>
 G d h fun e h=>
 x (T100 a d e i0) h
def k84_14 : KF := K2 y0 y4 fun c i x h a b=>
 C c 136 [b] h fun d h=>
 C c 135 [a,d] h fun e h=>
 .nm T36 h
def k84_2 : KF := K5 y0 y3 y4 y5 y6 fun c i x h a b d e f=>
 C c 125 [d] h fun g h=>
 S 2 f g h fun j h=>
 tQ (nC a h) fun k=>
 tQ (fA 8 k h) fun l=>
 tQ (lD l h) fun m=>
 tQ (ldn 2 f h) fun n=>
 tX (c 126 [m,n] h) fun o h=>
 x (T94 a b d e f) h
def k84_1 : KF := K2 y0 y3 fun c i x h a b=>
 A 2 b h fun d h=>
 L d h fun e h=>
 C c 107 [e] h fun f h=>
 C c 124 [f] h fun g h=>
 O 223 2 (.k1 (Y2 i0 i0)) h fun j h=>
 Q g (pi 6) h fun k h=>
 I k (.go 0 (T37 a b f) h) (Q g (pi 7) h fun l h=>
 I l (.go 1 (T37 a b f) h) (Q g (pi 8) h fun m h=>
 I m (.go 2 (T37 a b f) h) (x (T94 a b f g j) h)))
def k84_0 : KF := K2 y0 y1 fun c i x h a b=>
 B 167 b h fun d h=>
 x (T13 a d) h
def x84 : AC := (.shal k84_0 (.scope (.shal k84_1 (.shal k84_2 (.seq (.shal k84_3 (.block 1 (.shal k84_4 (.cond r30 (.shal k84_5 .skip) (.shal k84_6 (.cond r38 (.shal k84_7 .skip) (.shal k84_8 (.cond r46 (.shal k84_9 .skip) (.shal k84_10 (.cond r54 (.drw [q 0 (m d60 r4),
 w (oc d61 116 [r60]),
 q 1 (m d56 r0),
 qf 1 d57 0 r3,
 ql 1 d58 r57,
 q 1 (o d59 (.ldn 2 r6)),
 w (oc d62 130 [r56,r58,r59,r61])]) (.shal k84_11 .skip))))))))))) (.seq .ret (.seq (.label 0) (.seq (.shal k84_12 (.block 2 (.loop (.shal k84_13 .skip)))) (.seq .ret (.seq (.label 1) (.seq (.drw [q 0 (m d85 r4),
 w (oc d86 116 [r85]),
 q 1 (m d82 r0),
 qf 1 d83 0 r3,
 ql 1 d84 r83,
 w (oc d87 134 [r82,r84,r86])]) (.seq .ret (.seq (.label 2) (.shal k84_14 .skip))))))))))))))
def f84 : AF := .mk x84 []
def k85_0 : KF := K4 y0 y1 y2 y3 fun c i x h a b d e=>
 J a h fun f h=>
 A 0 f h fun g h=>
 L g h fun j h=>
 G j h fun k h=>
 Y k (pi 4000) h fun l h=>
 I l (J a h fun m h=>
 A 0 m h fun n h=>
 L n h fun o h=>
 U [i0,i0,.nils] [.mk 0 1 (.c b),.mk 1 1 (.c d),.mk 2 1 (.c e)] h fun p h=>
 tR (bs 167 3 1 [i0,i0,.nils] [.mk 0 3 (.c p)] h) fun q h=>
 tR (appV 167 3 o q h) fun s h=>
 J a h fun t h=>
 A 0 t h fun v h=>
 W v s h fun w h=>
 .nm T36 h) (.nm T36 h)
def x85 : AC := (.shal k85_0 .skip)
def f85 : AF := .mk x85 []
def k86_0 : KF := K2 y0 y1 fun c i x h a b=>
 x (T25 a b) h
def x86 : AC := (.shal k86_0 (.seq (.ops [m d5 r1,
 o d6 (.bin .ge r5 a0),
 m d7 r6,
 .g .h0 .h7 true d8 (.op (.mv r1)),
 .g .h0 .h7 true d9 (.op (.mv r0)),
 .g .h0 .h7 true d10 (.op (.nilc r9)),
 .g .h0 .h7 true d11 (.op (.fad 1 r10)),
 .g .h0 .h7 true d12 (.op (.ld1 r11)),
 .g .h0 .h7 true d13 (.op (.len r12)),
 .g .h0 .h7 true d14 (.op (.bin .lt r8 r13)),
 o d15 (.pick r7 r14 (.c (.bool false))),
 m d4 r15]) .ret))
def f86 : AF := .mk x86 [.t .h0 .h4]
def k87_1 : KF := K3 y0 y4 y59 fun c i x h a b d=>
 I d (.ret T36 h) (.nm (T79 a b) h)
def k87_5 : KF := K2 y0 y94 fun c i x h a b=>
 I b (C c 140 [a] h fun d h=>
 .nm T36 h) (C c 123 [a] h fun d h=>
 .nm T36 h)
def k87_4 : KF := K2 y0 y4 fun c i x h a b=>
 tR (u_not b h) fun d h=>
 x (T101 a d) h
def k87_3 : KF := K2 y0 y4 fun c i x h a b=>
 J a h fun d h=>
 A 24 d h fun e h=>
 L e h fun f h=>
 I f (J a h fun g h=>
 A 24 g h fun j h=>
 W j (.bool false) h fun k h=>
 J a h fun l h=>
 A 9 l h fun m h=>
 L m h fun n h=>
 C c 96 [n] h fun o h=>
 O 3 1 (.k1 (Y1 i0)) h fun p h=>
 W p o h fun q h=>
 C c 138 [a,(pi 7),(.fn 139 [p])] h fun s h=>
 x (T79 a b) h) (x (T79 a b) h)
def k87_2 : KF := K2 y0 y4 fun c i x h a b=>
 J a h fun d h=>
 A 3 d h fun e h=>
 L e h fun f h=>
 J a h fun g h=>
 A 23 g h fun j h=>
 W j f h fun k h=>
 J a h fun l h=>
 A 22 l h fun m h=>
 L m h fun n h=>
 D n i1 h fun o h=>
 J a h fun p h=>
 A 22 p h fun q h=>
 W q o h fun s h=>
 x (T79 a b) h
def k87_0 : KF := K2 y0 y1 fun c i x h a b=>
 J a h fun d h=>
 A 3 d h fun e h=>
 L e h fun f h=>
 D f b h fun g h=>
 J a h fun j h=>
 A 3 j h fun k h=>
 W k g h fun l h=>
 x (T1 a) h
def x87 : AC := (.shal k87_0 (.seq (.ops [m d14 r0,
 oj d15 r14,
 of d16 4 r15,
 ol d17 r16,
 m d18 r17,
 .g .h1 .h2 true d19 (.op (.mv r0)),
 .g .h1 .h2 true d20 (.op (.nilc r19)),
 .g .h1 .h2 true d21 (.op (.fad 17 r20)),
 .g .h1 .h2 true d22 (.op (.ld1 r21)),
 .g .h1 .h2 true d23 (.op (.len r22)),
 .g .h1 .h2 true d24 (.op (.bin .gt r23 a0)),
 .g .h1 .h2 true d25 (.op (.mv r24)),
 .g .h1 .h9 false d26 (.op (.mv r0)),
 .g .h1 .h9 false d27 (.call 97 [r26]),
 .g .h1 .h2 true d28 (.op (.pick r25 (.c (.bool true)) r27)),
 o d29 (.pick r18 r28 (.c (.bool false))),
 m d4 r29]) (.seq (.seq (.drw [q 0 (m d30 r0),
 qj 0 d31 r30,
 qf 0 d32 4 r31,
 ql 0 d33 r32,
 q 0 (o d34 (.un .not r33)),
 q 0 (m d35 r34),
 q 0 (.g .h2 .h3 false d36 (.op (.mv r4))),
 q 0 (.g .h2 .h3 false d37 (.op (.un .not r36))),
 q 0 (.g .h2 .h3 false d38 (.op (.mv r37))),
 q 0 (.g .h2 .h6 true d39 (.op (.mv r0))),
 q 0 (.g .h2 .h6 true d40 (.op (.nilc r39))),
 q 0 (.g .h2 .h6 true d41 (.op (.fad 24 r40))),
 q 0 (.g .h2 .h6 true d42 (.op (.ld1 r41))),
 q 0 (.g .h2 .h6 true d43 (.op (.un .not r42))),
 q 0 (.g .h2 .h3 false d44 (.op (.pick r38 r43 (.c (.bool false))))),
 q 0 (o d45 (.pick r35 (.c (.bool true)) r44)),
 q 0 (m d46 r45),
 q 0 (.g .h2 .he false d56 (.op (.mv r0))),
 w (.g .h2 .he false d57 (.call 137 [r56])),
 q 1 (.g .h2 .he false d47 (.op (.mv r0))),
 q 1 (.g .h2 .he false d48 (.op (.nilc r47))),
 q 1 (.g .h2 .he false d49 (.op (.fad 3 r48))),
 q 1 (.g .h2 .he false d50 (.op (.ld1 r49))),
 q 1 (.g .h2 .he false d51 (.op (.mv r0))),
 q 1 (.g .h2 .he false d52 (.op (.nilc r51))),
 q 1 (.g .h2 .he false d53 (.op (.fad 23 r52))),
 q 1 (.g .h2 .he false d54 (.op (.ld1 r53))),
 q 1 (.g .h2 .he false d55 (.op (.bin .sub r50 r54))),
 q 0 (.g .h2 .he false d58 (.op (.bin .lt r55 r57))),
 q 0 (o d59 (.pick r46 (.c (.bool true)) r58))]) (.shal k87_1 .skip)) (.shal k87_2 (.shal k87_3 (.block 0 (.shal k87_4 (.cond r91 .skip (.seq (.ops [m d95 r0,
 oj d96 r95,
 of d97 19 r96,
 ol d98 r97,
 o d99 (.bin .eq r98 a2),
 m d100 r99,
 .g .h6 .h4 true d101 (.op (.mv r0)),
 .g .h6 .h4 true d102 (.op (.nilc r101)),
 .g .h6 .h4 true d103 (.op (.fad 22 r102)),
 .g .h6 .h4 true d104 (.op (.ld1 r103)),
 .g .h6 .h4 true d105 (.op (.bin .rem r104 (.c (pi 3)))),
 .g .h6 .h4 true d106 (.op (.bin .ne r105 a0)),
 o d107 (.pick r100 r106 (.c (.bool false))),
 m d94 r107]) (.shal k87_5 .skip))))))))))
def f87 : AF := .mk x87 []
def k88_1 : KF := K1 y0 fun c i x h a=>
 J a h fun b h=>
 A 0 b h fun d h=>
 L d h fun e h=>
 G e h fun f h=>
 J a h fun g h=>
 A 1 g h fun j h=>
 W j f h fun k h=>
 .nm T36 h
def k88_0 : KF := K2 y0 y1 fun c i x h a b=>
 tQ (nC a h) fun d=>
 tQ (fA 0 d h) fun e=>
 tQ (lD e h) fun f=>
 tQ (nC a h) fun g=>
 tQ (fA 1 g h) fun j=>
 tQ (lD j h) fun k=>
 tQ (maxV false [b,i0] h) fun l=>
 tQ (nC a h) fun m=>
 tQ (fA 0 m h) fun n=>
 tQ (lD n h) fun o=>
 tQ (len o h) fun p=>
 tQ (nC a h) fun q=>
 tQ (fA 1 q h) fun s=>
 tQ (lD s h) fun t=>
 tQ (b_sub p t h) fun v=>
 tQ (maxV true [l,v] h) fun w=>
 tQ (b_add k w h) fun y=>
 tQ (o_slc 1 (.c f) .none (.some (.c y)) .none .nil h) fun z=>
 tQ (nC a h) fun a0=>
 tQ (fA 0 a0 h) fun a1=>
 tX (RV.toT (sT a1 z h)) fun a2 h=>
 x (T1 a) h
def x88 : AC := (.shal k88_0 (.shal k88_1 .skip))
def f88 : AF := .mk x88 []
def k90_1 : KF := K3 y0 y1 y6 fun c i x h a b d=>
 Q d i0 h fun e h=>
 I e (.ret T36 h) (J a h fun f h=>
 A 0 f h fun g h=>
 L g h fun j h=>
 tR (cK (.toInt .u8) b h) fun k h=>
 tR (bs 5 1 1 [(.int .u8 (.ofNat 0))] [.mk 0 1 (.c k)] h) fun l h=>
 tR (appV 5 1 j l h) fun m h=>
 J a h fun n h=>
 A 0 n h fun o h=>
 W o m h fun p h=>
 tR (bK .shr b (.int .u64 (.ofNat 8)) h) fun q h=>
 Z d i1 h fun s h=>
 .go 0 (T26 a q s) h)
def k90_0 : KF := K3 y0 y1 y2 fun c i x h a b d=>
 x (T26 a b d) h
def x90 : AC := (.scope (.shal k90_0 (.seq (.label 0) (.shal k90_1 .skip))))
def f90 : AF := .mk x90 []
def k91_0 : KF := K1 y0 fun c i x h a=>
 tR (bK (.isnil .s) a .nils h) fun b h=>
 I b (.ret (T24 .nils) h) (tR (bs 5 1 0 [] [] h) fun d h=>
 tR (appV 5 1 d a h) fun e h=>
 .ret (T24 e) h)
def x91 : AC := (.shal k91_0 .skip)
def f91 : AF := .mk x91 [.t .h0 .h2]
def k96_1 : KF := K2 y0 y3 fun c i x h a b=>
 J a h fun d h=>
 A 0 d h fun e h=>
 L e h fun f h=>
 tR (lkp (.one .i) iS true f b h) fun g h=>
 E 0 g h fun j h=>
 E 1 g h fun k h=>
 tR (u_not k h) fun l h=>
 I l (.ret (T24 b) h) (D b i1 h fun m h=>
 .nm (T13 a m) h)
def k96_0 : KF := K1 y0 fun c i x h a=>
 J a h fun b h=>
 A 1 b h fun d h=>
 L d h fun e h=>
 x (T13 a e) h
def x96 : AC := (.shal k96_0 (.block 0 (.loop (.shal k96_1 .skip))))
def f96 : AF := .mk x96 [.t .h0 .h2]
def k97_2 : KF := K4 y0 y16 y17 y18 fun c i x h a b d e=>
 D e i1 h fun f h=>
 .nm (T102 a b d f) h
def k97_1 : KF := K4 y0 y16 y17 y18 fun c i x h a b d e=>
 Y e d h fun f h=>
 I f (X 4 b e h fun g h=>
 M 4 g h fun j h=>
 O 231 4 (.k1 (Y4 i0 i0 i0 iS)) h fun k h=>
 S 4 k j h fun l h=>
 tQ (nC a h) fun m=>
 tQ (fA 9 m h) fun n=>
 tQ (lD n h) fun o=>
 tQ (fA 0 k h) fun p=>
 tQ (lD p h) fun q=>
 tX (c 146 [o,q] h) fun s h=>
 tQ (ext 0 s h) fun t=>
 tQ (ext 1 s h) fun v=>
 tR (u_not v h) fun w h=>
 I w (.ret (T24 (.bool true)) h) (x (T102 a b d e) h)) (.ex 0 (T1 a) h)
def k97_0 : KF := K1 y0 fun c i x h a=>
 x (T1 a) h
def x97 : AC := (.shal k97_0 (.seq (.seq (.drw [q 0 (m d11 r0),
 qj 0 d12 r11,
 qf 0 d13 9 r12,
 ql 0 d14 r13,
 w (oc d15 96 [r14]),
 q 1 (m d7 r0),
 qj 1 d8 r7,
 qf 1 d9 7 r8,
 ql 1 d10 r9,
 w (oc d16 145 [r10,r15]),
 q 0 (o d17 (.len r16)),
 q 2 (m d18 a0)]) (.block 0 (.loop (.shal k97_1 (.shal k97_2 .skip))))) (.seq (.drw [q 0 (m d39 r0),
 qj 0 d40 r39,
 qf 0 d41 9 r40,
 ql 0 d42 r41,
 w (oc d43 96 [r42]),
 q 1 (m d35 r0),
 qj 1 d36 r35,
 qf 1 d37 10 r36,
 ql 1 d38 r37,
 q 0 (o d44 (.bin .gt r38 r43)),
 q 0 (m d2 r44)]) .ret)))
def f97 : AF := .mk x97 [.t .h0 .h2]
def k98_0 : KF := K1 y0 fun c i x h a=>
 J a h fun b h=>
 A 0 b h fun d h=>
 L d h fun e h=>
 J e h fun f h=>
 A 11 f h fun g h=>
 L g h fun j h=>
 C c 68 [j] h fun k h=>
 .ret (T24 k) h
def x98 : AC := (.shal k98_0 .skip)
def f98 : AF := .mk x98 [.t .h0 .h2]
def k99_1 : KF := K2 y0 y1 fun c i x h a b=>
 J a h fun d h=>
 A 0 d h fun e h=>
 tR (ixa 16 4 e b h) fun f h=>
 A 0 f h fun g h=>
 L g h fun j h=>
 .ret (T12 j) h
def k99_0 : KF := K2 y0 y1 fun c i x h a b=>
 Y b i0 h fun d h=>
 gD d false (fun e=>e b h) h fun e h=>
 gD d false (fun f=>tR (b_ge e (pi 16) h) fun g h=>
 f g h) h fun f h=>
 tR (o_pick (.c d) (.c (.bool true)) (.c f) .nil h) fun g h=>
 I g (.ret (T12 i0) h) (x (T25 a b) h)
def x99 : AC := (.shal k99_0 (.shal k99_1 .skip))
def f99 : AF := .mk x99 [.t .h0 .h4]
def k100_0 : KF := fun c i x r h=>
 tR (mkm h) fun a h=>
 U [i0,i0,.nilm,i0] [.mk 2 1 (.c a)] h fun b h=>
 B 268 b h fun d h=>
 .ret (T1 d) h
def x100 : AC := (.shal k100_0 .skip)
def f100 : AF := .mk x100 [.t .h0 .h0]
def k101_0 : KF := fun c i x r h=>
 tR (mkm h) fun a h=>
 U [.nilm,i0] [.mk 0 1 (.c a)] h fun b h=>
 B 252 b h fun d h=>
 .ret (T1 d) h
def x101 : AC := (.shal k101_0 .skip)
def f101 : AF := .mk x101 [.t .h0 .h0]
def k102_0 : KF := K2 y0 y1 fun c i x h a b=>
 U [i0,i0,i0,i0,i0,i0,.nilm,.nilm,.nilm] [.mk 0 1 (.c a),.mk 1 1 (.c b)] h fun d h=>
 B 271 d h fun e h=>
 .ret (T12 e) h
def x102 : AC := (.shal k102_0 .skip)
def f102 : AF := .mk x102 [.t .h0 .h4]
def k103_0 : KF := K1 y0 fun c i x h a=>
 J a h fun b h=>
 A 1 b h fun d h=>
 L d h fun e h=>
 G e h fun f h=>
 .ret (T24 f) h
def x103 : AC := (.shal k103_0 .skip)
def f103 : AF := .mk x103 [.t .h0 .h2]
def k104_3 : KF := K5 y0 y4 y5 y6 y35 fun c i x h a b d e f=>
 I f (.ex 0 (T104 a b d e) h) (.nm (T104 a b d e) h)
def k104_5 : KF := K4 y0 y4 y5 y6 fun c i x h a b d e=>
 D (pi 8) e h fun f h=>
 D d f h fun g h=>
 .nm (T103 a b g) h
def k104_4 : KF := K4 y0 y4 y5 y6 fun c i x h a b d e=>
 D d (pi 8) h fun f h=>
 D d (pi 8) h fun g h=>
 D g e h fun j h=>
 tR (o_slc 1 (.c a) (.some (.c f)) (.some (.c j)) .none .nil h) fun k h=>
 C c 147 [k] h fun l h=>
 E 0 l h fun m h=>
 E 1 l h fun n h=>
 tR (u_not n h) fun o h=>
 I o (.ex 0 (T28 b d) h) (tR (bs 36 1 1 [.nils] [.mk 0 1 (.c m)] h) fun p h=>
 tR (appV 36 1 b p h) fun q h=>
 x (T104 a q d e) h)
def k104_2 : KF := K3 y0 y4 y5 fun c i x h a b d=>
 D d (pi 8) h fun e h=>
 tR (o_slc 1 (.c a) (.some (.c d)) (.some (.c e)) .none .nil h) fun f h=>
 C c 107 [f] h fun g h=>
 C c 116 [g] h fun j h=>
 x (T104 a b d j) h
def k104_1 : KF := K3 y0 y4 y5 fun c i x h a b d=>
 G a h fun e h=>
 Z e d h fun f h=>
 tR (b_ge f (pi 8) h) fun g h=>
 I g (x (T103 a b d) h) (.ex 0 (T28 b d) h)
def k104_6 : KF := K2 y4 y5 fun c i x h a b=>
 .ret (T8 a b) h
def k104_0 : KF := K1 y0 fun c i x h a=>
 x (T103 a .nils i0) h
def x104 : AC := (.shal k104_0 (.seq (.block 0 (.loop (.shal k104_1 (.block 1 (.shal k104_2 (.seq (.seq (.ops [m d21 r6,
 o d22 (.bin .lt r21 a0),
 m d23 r22,
 .g .h1 .h7 false d24 (.op (.mv r6)),
 .g .h1 .h7 false d25 (.op (.bin .gt r24 (.c (pi 1048576)))),
 o d26 (.pick r23 (.c (.bool true)) r25),
 m d27 r26,
 .g .h1 .hb false d28 (.op (.mv r6)),
 .g .h1 .hb false d29 (.op (.mv r0)),
 .g .h1 .hb false d30 (.op (.len r29)),
 .g .h1 .hb false d31 (.op (.mv r5)),
 .g .h1 .hb false d32 (.op (.bin .sub r30 r31)),
 .g .h1 .hb false d33 (.op (.bin .sub r32 (.c (pi 8)))),
 .g .h1 .hb false d34 (.op (.bin .gt r28 r33)),
 o d35 (.pick r27 (.c (.bool true)) r34)]) (.shal k104_3 .skip)) (.shal k104_4 (.shal k104_5 .skip)))))))) (.shal k104_6 .skip)))
def f104 : AF := .mk x104 [.t .h0 .h2,.t .h0 .h3]
def k105_0 : KF := K1 y0 fun c i x h a=>
 J a h fun b h=>
 A 0 b h fun d h=>
 L d h fun e h=>
 C c 91 [e] h fun f h=>
 .ret (T24 f) h
def x105 : AC := (.shal k105_0 .skip)
def f105 : AF := .mk x105 [.t .h0 .h2]
def k106_2 : KF := K2 y0 y1 fun c i x h a b=>
 C c 116 [b] h fun d h=>
 J a h fun e h=>
 A 6 e h fun f h=>
 W f d h fun g h=>
 .nm T36 h
def k106_4 : KF := K1 y12 fun c i x h a=>
 Q a (pi 2) h fun b h=>
 I b (x (T108 b) h) (Q a (pi 3) h fun d h=>
 x (T108 d) h)
def k106_3 : KF := K3 y0 y1 y12 fun c i x h a b d=>
 Q d i1 h fun e h=>
 x (T107 a b d e) h
def k106_1 : KF := K3 y0 y1 y12 fun c i x h a b d=>
 Q d i0 h fun e h=>
 x (T106 a b d e) h
def k106_0 : KF := K2 y0 y1 fun c i x h a b=>
 C c 124 [b] h fun d h=>
 x (T105 a b d) h
def x106 : AC := (.shal k106_0 (.block 0 (.shal k106_1 (.cond r13 (.shal k106_2 .skip) (.shal k106_3 (.cond r20 (.drw [q 0 (m d26 r1),
 w (oc d27 125 [r26]),
 q 1 (m d22 r0),
 qj 1 d23 r22,
 qf 1 d24 7 r23,
 ql 1 d25 r24,
 w (oc d28 148 [r25,r27,(.c (pi 1048576))])]) (.shal k106_4 (.cond r29 (.bad 0) (.bad 0)))))))))
def f106 : AF := .mk x106 []
def k107_0 : KF := K1 y0 fun c i x h a=>
 C c 91 [a] h fun b h=>
 U [.nils,i0,i0,i0] [.mk 0 1 (.c b)] h fun d h=>
 B 281 d h fun e h=>
 .ret (T24 e) h
def x107 : AC := (.shal k107_0 .skip)
def f107 : AF := .mk x107 [.t .h0 .h2]
def k108_1 : KF := K5 y1 y2 y29 y30 y31 fun c i x h a b d e f=>
 Y f e h fun g h=>
 I g (X 4 d f h fun j h=>
 M 4 j h fun k h=>
 O 231 4 (.k1 (Y4 i0 i0 i0 iS)) h fun l h=>
 S 4 l k h fun m h=>
 C c 154 [(pi 2),(.fn 158 [l])] h fun n h=>
 tR (appV 5 1 b n h) fun o h=>
 D f i1 h fun p h=>
 .nm (T109 a o d e p) h) (.ex 0 (T109 a b d e f) h)
def k108_5 : KF := K8 y1 y2 y6 y7 y50 y51 y52 y68 fun c i x h a b d e f g j k=>
 I k (.nm (T111 a b d (pi 5) f g j) h) (.nm (T111 a b d e f g j) h)
def k108_6 : KF := K7 y1 y2 y6 y7 y50 y51 y52 fun c i x h a b d e f g j=>
 L a h fun k h=>
 M 4 d h fun l h=>
 C c 165 [k,e,l] h fun m h=>
 tR (appV 5 1 b m h) fun n h=>
 .nm (T110 a n f g j) h
def k108_4 : KF := K5 y1 y2 y50 y51 y52 fun c i x h a b d e f=>
 X 4 d f h fun g h=>
 M 4 g h fun j h=>
 O 231 4 (.k1 (Y4 i0 i0 i0 iS)) h fun k h=>
 S 4 k j h fun l h=>
 x (T111 a b k (pi 4) d e f) h
def k108_7 : KF := K5 y1 y2 y50 y51 y52 fun c i x h a b d e f=>
 D f i1 h fun g h=>
 .nm (T110 a b d e g) h
def k108_3 : KF := K5 y1 y2 y50 y51 y52 fun c i x h a b d e f=>
 Y f e h fun g h=>
 I g (x (T110 a b d e f) h) (.ex 2 (T33 a b) h)
def k108_8 : KF := K2 y1 y2 fun c i x h a b=>
 L a h fun d h=>
 J d h fun e h=>
 A 2 e h fun f h=>
 L f h fun g h=>
 C c 166 [g,b] h fun j h=>
 Q j i0 h fun k h=>
 I k (L a h fun l h=>
 G b h fun m h=>
 J l h fun n h=>
 A 5 n h fun o h=>
 W o m h fun p h=>
 .nm T36 h) (.nm T36 h)
def k108_2 : KF := K2 y1 y2 fun c i x h a b=>
 C c 154 [i1,(.fn 161 [a])] h fun d h=>
 tR (appV 5 1 b d h) fun e h=>
 x (T33 a e) h
def k108_0 : KF := K1 y0 fun c i x h a=>
 B 121 a h fun b h=>
 C c 154 [i0,(.fn 155 [b])] h fun d h=>
 L b h fun e h=>
 J e h fun f h=>
 A 13 f h fun g h=>
 A 0 g h fun j h=>
 L j h fun k h=>
 tR (b_gt k i0 h) fun l h=>
 I l (C c 154 [(pi 6),(.fn 156 [b])] h fun m h=>
 tR (appV 5 1 d m h) fun n h=>
 x (T33 b n) h) (x (T33 b d) h)
def x108 : AC := (.shal k108_0 (.seq (.seq (.drw [ql 0 d20 r1,
 qj 0 d21 r20,
 qf 0 d22 7 r21,
 ql 0 d23 r22,
 ql 0 d24 r1,
 qj 0 d25 r24,
 qf 0 d26 13 r25,
 qf 0 d27 0 r26,
 ql 0 d28 r27,
 w (oc d29 145 [r23,r28]),
 q 0 (o d30 (.len r29)),
 q 1 (m d31 a0)]) (.block 0 (.loop (.shal k108_1 .skip)))) (.shal k108_2 (.seq (.seq (.drw [ql 0 d44 r1,
 ql 0 d45 r1,
 qj 0 d46 r45,
 qf 0 d47 13 r46,
 qf 0 d48 0 r47,
 ql 0 d49 r48,
 w (oc d50 163 [r44,r49]),
 q 0 (o d51 (.len r50)),
 q 1 (m d52 a0)]) (.block 2 (.loop (.shal k108_3 (.seq (.block 3 (.shal k108_4 (.seq (.seq (.drw [ql 0 d56 r1,
 qf 0 d57 0 r6,
 ql 0 d58 r57,
 w (oc d59 164 [r56,r58]),
 q 0 (m d60 r59),
 q 0 (.g .h3 .hc true d61 (.op (.ld1 r1))),
 q 0 (.g .h3 .hc true d62 (.op (.fad 0 r6))),
 q 0 (.g .h3 .hc true d63 (.op (.ld1 r62))),
 w (.g .h3 .hc true d64 (.call 149 [r61,r63])),
 q 1 (.g .h3 .hc true d65 (.op (.fad 3 r6))),
 q 1 (.g .h3 .hc true d66 (.op (.ld1 r65))),
 q 0 (.g .h3 .hc true d67 (.op (.bin .seq r64 r66))),
 q 0 (o d68 (.pick r60 r67 (.c (.bool false))))]) (.shal k108_5 .skip)) (.shal k108_6 .skip)))) (.shal k108_7 .skip)))))) (.shal k108_8 .skip)))))
def f108 : AF := .mk x108 []
def k109_2 : KF := K5 y0 y2 y14 y15 y16 fun c i x h a b d e f=>
 D f i1 h fun g h=>
 .nm (T112 a b d e g) h
def k109_1 : KF := K5 y0 y2 y14 y15 y16 fun c i x h a b d e f=>
 Y f e h fun g h=>
 I g (X 1 d f h fun j h=>
 L j h fun k h=>
 tR (b_sne k iS h) fun l h=>
 I l (C c 168 [a,b,k] h fun m h=>
 D b i1 h fun n h=>
 x (T112 a n d e f) h) (D b i1 h fun m h=>
 x (T112 a m d e f) h)) (.ex 0 T36 h)
def k109_0 : KF := K1 y0 fun c i x h a=>
 J a h fun b h=>
 A 9 b h fun d h=>
 L d h fun e h=>
 C c 141 [e] h fun f h=>
 J a h fun g h=>
 A 9 g h fun j h=>
 L j h fun k h=>
 C c 167 [k] h fun l h=>
 G l h fun m h=>
 x (T112 a f l m i0) h
def x109 : AC := (.shal k109_0 (.block 0 (.loop (.shal k109_1 (.shal k109_2 .skip)))))
def f109 : AF := .mk x109 []
def k111_3 : KF := K3 y5 y6 y7 fun c i x h a b d=>
 D d i1 h fun e h=>
 .nm (T113 a b e) h
def k111_2 : KF := K3 y5 y6 y7 fun c i x h a b d=>
 Y d b h fun e h=>
 I e (X 1 a d h fun f h=>
 L f h fun g h=>
 Y g (ni 2147483647) h fun j h=>
 gD j false (fun k=>k g h) h fun k h=>
 gD j false (fun l=>tR (b_gt k (pi 2147483647) h) fun m h=>
 l m h) h fun l h=>
 tR (o_pick (.c j) (.c (.bool true)) (.c l) .nil h) fun m h=>
 I m (.ret (T24 (.bool false)) h) (x (T113 a b d) h)) (.ex 0 T36 h)
def k111_1 : KF := K1 y0 fun c i x h a=>
 G a h fun b h=>
 x (T113 a b i0) h
def k111_4 : KF := fun c i x r h=>
 .ret (T24 (.bool true)) h
def k111_0 : KF := K1 y0 fun c i x h a=>
 x (T1 a) h
def x111 : AC := (.shal k111_0 (.seq (.shal k111_1 (.block 0 (.loop (.shal k111_2 (.shal k111_3 .skip))))) (.shal k111_4 .skip)))
def f111 : AF := .mk x111 [.t .h0 .h2]
def k112_2 : KF := K3 y5 y6 y7 fun c i x h a b d=>
 Y d b h fun e h=>
 I e (X 1 a d h fun f h=>
 L f h fun g h=>
 tR (lent g h) fun j h=>
 tR (b_gt j (pi 65535) h) fun k h=>
 I k (.ret (T24 (.bool false)) h) (D d i1 h fun l h=>
 .nm (T113 a b l) h)) (.ex 0 (T113 a b d) h)
def k112_1 : KF := K1 y0 fun c i x h a=>
 G a h fun b h=>
 x (T113 a b i0) h
def k112_3 : KF := fun c i x r h=>
 .ret (T24 (.bool true)) h
def k112_0 : KF := K1 y0 fun c i x h a=>
 x (T1 a) h
def x112 : AC := (.shal k112_0 (.seq (.shal k112_1 (.block 0 (.loop (.shal k112_2 .skip)))) (.shal k112_3 .skip)))
def f112 : AF := .mk x112 [.t .h0 .h2]
def k114_0 : KF := K2 y0 y1 fun c i x h a b=>
 tR (cK (.toInt .u64) b h) fun d h=>
 C c 90 [a,d,(pi 2)] h fun e h=>
 .nm T36 h
def x114 : AC := (.shal k114_0 .skip)
def f114 : AF := .mk x114 []
def k115_4 : KF := K4 y0 y5 y6 y7 fun c i x h a b d e=>
 D i1 e h fun f h=>
 tR (o_slca 24 1 (.c b) (.some (.c i1)) (.some (.c f)) .none .nil h) fun g h=>
 C c 171 [g,d] h fun j h=>
 Y a i0 h fun k h=>
 I k (tR (ixa 24 1 b i0 h) fun l h=>
 W l (.int .u8 (.ofNat 45)) h fun m h=>
 D i1 e h fun n h=>
 tR (o_slca 24 1 (.c b) .none (.some (.c n)) .none .nil h) fun o h=>
 tR (cK .b2s o h) fun p h=>
 .ret (T12 p) h) (D i1 e h fun l h=>
 tR (o_slca 24 1 (.c b) (.some (.c i1)) (.some (.c l)) .none .nil h) fun m h=>
 tR (cK .b2s m h) fun n h=>
 .ret (T12 n) h)
def k115_3 : KF := K1 y0 fun c i x h a=>
 O 289 24 (.k2 (.mk (.mk (.int .u8 (.ofNat 0)) (.int .u8 (.ofNat 0)) (.int .u8 (.ofNat 0)) (.int .u8 (.ofNat 0)) (.int .u8 (.ofNat 0)) (.int .u8 (.ofNat 0)) (.int .u8 (.ofNat 0)) (.int .u8 (.ofNat 0)) (.int .u8 (.ofNat 0)) (.int .u8 (.ofNat 0)) (.int .u8 (.ofNat 0)) (.int .u8 (.ofNat 0)) (.int .u8 (.ofNat 0)) (.int .u8 (.ofNat 0)) (.int .u8 (.ofNat 0)) (.int .u8 (.ofNat 0))) (Y8 (.int .u8 (.ofNat 0)) (.int .u8 (.ofNat 0)) (.int .u8 (.ofNat 0)) (.int .u8 (.ofNat 0)) (.int .u8 (.ofNat 0)) (.int .u8 (.ofNat 0)) (.int .u8 (.ofNat 0)) (.int .u8 (.ofNat 0))) .nil .nil .nil .nil .nil .nil .nil .nil .nil .nil .nil .nil .nil .nil)) h fun b h=>
 tR (cK (.toInt .u64) a h) fun d h=>
 Y a i0 h fun e h=>
 I e (tR (u_neg d h) fun f h=>
 C c 170 [f] h fun g h=>
 x (T115 a b f g) h) (C c 170 [d] h fun f h=>
 x (T115 a b d f) h)
def k115_2 : KF := K1 y0 fun c i x h a=>
 tR (b_le i0 a h) fun b h=>
 gD b true (fun d=>d a h) h fun d h=>
 gD b true (fun e=>Y d (pi 100) h fun f h=>
 e f h) h fun e h=>
 tR (o_pick (.c b) (.c e) (.c (.bool false)) .nil h) fun f h=>
 I f (C c 169 [a] h fun g h=>
 .ret (T12 g) h) (x (T1 a) h)
def k115_1 : KF := K2 y0 y1 fun c i x h a b=>
 Q b (pi 10) h fun d h=>
 x (T114 a b d) h
def k115_5 : KF := K2 y0 y1 fun c i x h a b=>
 tR (cK (.toInt .u64) a h) fun d h=>
 Y a i0 h fun e h=>
 C c 172 [.nils,d,b,e,(.bool false)] h fun f h=>
 E 0 f h fun g h=>
 E 1 f h fun j h=>
 .ret (T12 j) h
def k115_0 : KF := K2 y0 y1 fun c i x h a b=>
 x (T25 a b) h
def x115 : AC := (.shal k115_0 (.seq (.shal k115_1 (.cond r11 (.shal k115_2 (.shal k115_3 (.shal k115_4 .skip))) .skip)) (.shal k115_5 .skip)))
def f115 : AF := .mk x115 [.t .h0 .h4]
def k116_0 : KF := K1 y0 fun c i x h a=>
 C c 173 [a,(pi 8)] h fun b h=>
 tR (cK (.toInt .i64) b h) fun d h=>
 .ret (T24 d) h
def x116 : AC := (.shal k116_0 .skip)
def f116 : AF := .mk x116 [.t .h0 .h2]
def k118_0 : KF := K1 y0 fun c i x h a=>
 tR (bK (.isnil .s) a .nils h) fun b h=>
 I b (.ret (T24 .nils) h) (tR (bs 9 1 0 [] [] h) fun d h=>
 tR (appV 9 1 d a h) fun e h=>
 .ret (T24 e) h)
def x118 : AC := (.shal k118_0 .skip)
def f118 : AF := .mk x118 [.t .h0 .h2]
def k119_3 : KF := K5 y0 y2 y4 y5 y6 fun c i x h a b d e f=>
 Z f i1 h fun g h=>
 .nm (T117 a b d e g) h
def k119_2 : KF := K5 y0 y2 y4 y5 y6 fun c i x h a b d e f=>
 tR (b_gt f i0 h) fun g h=>
 I g (C c 182 [d,(pi 65535)] h fun j h=>
 U [iS,i0] [.mk 0 1 (.c j)] h fun k h=>
 O 69 2 (.k1 (Y2 iS i0)) h fun l h=>
 S 2 l k h fun m h=>
 C c 116 [d] h fun n h=>
 A 1 l h fun o h=>
 W o n h fun p h=>
 A 5 e h fun q h=>
 L q h fun s h=>
 M 2 l h fun t h=>
 tR (bs 69 2 1 [iS,i0] [.mk 0 2 (.c t)] h) fun v h=>
 tR (appV 69 2 s v h) fun w h=>
 A 5 e h fun y h=>
 W y w h fun z h=>
 x (T117 a b d e f) h) (.ex 0 (T116 a b d e) h)
def k119_1 : KF := K4 y0 y2 y4 y5 fun c i x h a b d e=>
 C c 124 [d] h fun f h=>
 x (T117 a b d e f) h
def k119_6 : KF := K5 y0 y2 y4 y5 y8 fun c i x h a b d e f=>
 Z f i1 h fun g h=>
 .nm (T118 a b d e g) h
def k119_5 : KF := K5 y0 y2 y4 y5 y8 fun c i x h a b d e f=>
 tR (b_gt f i0 h) fun g h=>
 I g (x (T118 a b d e f) h) (.ex 2 (T116 a b d e) h)
def k119_4 : KF := K4 y0 y2 y4 y5 fun c i x h a b d e=>
 C c 124 [d] h fun f h=>
 x (T118 a b d e f) h
def k119_8 : KF := K3 y2 y5 y75 fun c i x h a b d=>
 I d (U [i0,i0,i0,iS,iS,.nils,.nils] [] h fun e h=>
 S 7 a e h fun f h=>
 .ret (T8 a (pi 12)) h) (.nm (T120 a b) h)
def k119_7 : KF := K4 y0 y2 y4 y5 fun c i x h a b d e=>
 C c 178 [d] h fun f h=>
 E 0 f h fun g h=>
 E 1 f h fun j h=>
 x (T119 a b e g) h
def k119_9 : KF := K2 y2 y5 fun c i x h a b=>
 M 7 b h fun d h=>
 S 7 a d h fun e h=>
 .ret (T8 a i0) h
def k119_0 : KF := K1 y0 fun c i x h a=>
 O 29 7 (.k1 (Y7 i0 i0 i0 iS iS .nils .nils)) h fun b h=>
 C c 107 [a] h fun d h=>
 C c 116 [d] h fun e h=>
 C c 116 [d] h fun f h=>
 C c 116 [d] h fun g h=>
 U [i0,i0,i0,iS,iS,.nils,.nils] [.mk 0 1 (.c e),.mk 1 1 (.c f),.mk 2 1 (.c g)] h fun j h=>
 O 29 7 (.k1 (Y7 i0 i0 i0 iS iS .nils .nils)) h fun k h=>
 S 7 k j h fun l h=>
 C c 182 [d,(pi 65535)] h fun m h=>
 A 3 k h fun n h=>
 W n m h fun o h=>
 C c 182 [d,(pi 65535)] h fun p h=>
 A 4 k h fun q h=>
 W q p h fun s h=>
 x (T116 a b d k) h
def x119 : AC := (.shal k119_0 (.seq (.shal k119_1 (.block 0 (.loop (.shal k119_2 (.shal k119_3 .skip))))) (.seq (.shal k119_4 (.block 2 (.loop (.shal k119_5 (.seq (.block 3 (.drw [q 0 (m d52 r4),
 w (oc d53 183 [r52]),
 w (o d54 (.bslice 150 3 1 [iS,.nils,(.bool false)] [.mk 0 3 r53])),
 qf 2 d50 6 r5,
 ql 2 d51 r50,
 w (o d55 (.app 150 3 r51 r54)),
 qf 0 d56 6 r5,
 w (os r56 r55)])) (.shal k119_6 .skip)))))) (.seq (.shal k119_7 (.seq (.ops [m d62 r9,
 o d63 (.bin .ne r62 a0),
 m d64 r63,
 .g .h4 .h0 false d65 (.op (.ldn 7 r5)),
 .g .h4 .h0 false d66 (.call 69 [r65]),
 .g .h4 .h0 false d67 (.op (.un .not r66)),
 o d68 (.pick r64 (.c (.bool true)) r67),
 m d69 r68,
 .g .h4 .h5 false d70 (.op (.ldn 7 r5)),
 .g .h4 .h5 false d71 (.call 40 [r70]),
 .g .h4 .h5 false d72 (.op (.mv r0)),
 .g .h4 .h5 false d73 (.call 181 [r71,r72]),
 .g .h4 .h5 false d74 (.op (.un .not r73)),
 o d75 (.pick r69 (.c (.bool true)) r74)]) (.shal k119_8 .skip))) (.shal k119_9 .skip)))))
def f119 : AF := .mk x119 [.agg 7 .h0 .h2,.t .h0 .h3]
def k120_2 : KF := K2 y4 y6 fun c i x h a b=>
 M 3 b h fun d h=>
 S 3 a d h fun e h=>
 .ret (T12 a) h
def k120_1 : KF := K5 y0 y3 y4 y5 y6 fun c i x h a b d e f=>
 Q e i1 h fun g h=>
 I g (M 7 b h fun j h=>
 C c 185 [a,j] h fun k h=>
 S 3 f k h fun l h=>
 tQ (nC a h) fun m=>
 tQ (fA 3 m h) fun n=>
 tQ (lD n h) fun o=>
 tQ (fA 0 b h) fun p=>
 tQ (lD p h) fun q=>
 tQ (fA 1 b h) fun s=>
 tQ (lD s h) fun t=>
 tQ (ldn 3 f h) fun v=>
 tX (c 186 [o,q,t,v] h) fun w h=>
 x (T121 d f) h) (Q e (pi 3) h fun j h=>
 I j (U [i0,i0,iS] [.mk 0 1 (.c (pi 28))] h fun k h=>
 S 3 f k h fun l h=>
 x (T121 d f) h) (Q e i0 h fun k h=>
 I k (U [i0,i0,iS] [.mk 0 1 (.c i1)] h fun l h=>
 S 3 f l h fun m h=>
 x (T121 d f) h) (x (T121 d f) h)))
def k120_0 : KF := K2 y0 y1 fun c i x h a b=>
 B 29 b h fun d h=>
 O 52 3 (.k1 (Y3 i0 i0 iS)) h fun e h=>
 tQ (nC a h) fun f=>
 tQ (fA 3 f h) fun g=>
 tQ (lD g h) fun j=>
 tQ (fA 0 d h) fun k=>
 tQ (lD k h) fun l=>
 tQ (fA 1 d h) fun m=>
 tQ (lD m h) fun n=>
 tX (c 184 [j,l,n] h) fun o h=>
 tQ (ext 0 o h) fun p=>
 tQ (ext 1 o h) fun q=>
 O 52 3 (.k1 (Y3 i0 i0 iS)) h fun s h15=>
 tX (RV.toT (stn 3 s q h15)) fun v h=>
 x (T94 a d e p s) h
def x120 : AC := (.shal k120_0 (.shal k120_1 (.shal k120_2 .skip)))
def f120 : AF := .mk x120 [.agg 3 .h0 .h4]
def k121_0 : KF := K3 y0 y1 y2 fun c i x h a b d=>
 O 52 3 (.k1 (Y3 i0 i0 iS)) h fun e h=>
 J a h fun f h=>
 A 3 f h fun g h=>
 L g h fun j h=>
 C c 184 [j,b,d] h fun k h=>
 E 0 k h fun l h=>
 E 1 k h fun m h=>
 O 52 3 (.k1 (Y3 i0 i0 iS)) h fun n h=>
 S 3 n m h fun o h=>
 M 3 n h fun p h=>
 Q l (pi 2) h fun q h=>
 S 3 e p h fun s h=>
 .ret (T30 e q) h
def x121 : AC := (.shal k121_0 .skip)
def f121 : AF := .mk x121 [.agg 3 .h0 .h6,.t .h0 .h7]
def k122_1 : KF := K3 y0 y2 y17 fun c i x h a b d=>
 I d (.nm (T122 a b) h) (.ex 0 (T122 a b) h)
def k122_3 : KF := K4 y0 y2 y3 y36 fun c i x h a b d e=>
 I e (.ex 1 (T123 a b d) h) (.nm (T123 a b d) h)
def k122_5 : KF := K1 y0 fun c i x h a=>
 .nm (T122 a (ni 0)) h
def k122_4 : KF := K3 y0 y2 y3 fun c i x h a b d=>
 tQ (nC a h) fun e=>
 tQ (fA 17 e h) fun f=>
 tQ (lD f h) fun g=>
 tQ (nC a h) fun j=>
 tQ (fA 21 j h) fun k=>
 tQ (lD k h) fun l=>
 tQ (iX 6 g b h) fun m=>
 tQ (fA 5 m h) fun n=>
 tX (RV.toT (sT n l h)) fun o h=>
 J a h fun p h=>
 A 21 p h fun q h=>
 L q h fun s h=>
 D s i1 h fun t h=>
 J a h fun v h=>
 A 21 v h fun w h=>
 W w t h fun y h=>
 x (T13 a d) h
def k122_2 : KF := K2 y0 y2 fun c i x h a b=>
 J a h fun d h=>
 A 17 d h fun e h=>
 L e h fun f h=>
 X 6 f b h fun g h=>
 M 6 g h fun j h=>
 O 221 6 (.k1 (Y6 i0 i0 i0 (.bool false) iS i0)) h fun k h=>
 S 6 k j h fun l h=>
 x (T123 a b k) h
def k122_6 : KF := K2 y0 y2 fun c i x h a b=>
 D b i1 h fun d h=>
 .nm (T122 a d) h
def k122_0 : KF := K1 y0 fun c i x h a=>
 x (T122 a i0) h
def x122 : AC := (.shal k122_0 (.block 0 (.loop (.seq (.seq (.ops [m d4 r2,
 m d5 r0,
 oj d6 r5,
 of d7 17 r6,
 ol d8 r7,
 o d9 (.len r8),
 o d10 (.bin .lt r4 r9),
 m d11 r10,
 .g .h0 .hb true d12 (.op (.mv r0)),
 .g .h0 .hb true d13 (.op (.nilc r12)),
 .g .h0 .hb true d14 (.op (.fad 19 r13)),
 .g .h0 .hb true d15 (.op (.ld1 r14)),
 .g .h0 .hb true d16 (.op (.bin .eq r15 a2)),
 o d17 (.pick r11 r16 (.c (.bool false)))]) (.shal k122_1 .skip)) (.seq (.block 1 (.shal k122_2 (.seq (.seq (.ops [of d27 5 r3,
 ol d28 r27,
 o d29 (.bin .ge r28 a0),
 m d30 r29,
 .g .h1 .he false d31 (.op (.mv r0)),
 .g .h1 .he false d32 (.op (.nilc r31)),
 .g .h1 .he false d33 (.op (.fad 21 r32)),
 .g .h1 .he false d34 (.op (.ld1 r33)),
 .g .h1 .he false d35 (.op (.bin .ge r34 (.c (pi 1048576)))),
 o d36 (.pick r30 (.c (.bool true)) r35)]) (.shal k122_3 .skip)) (.shal k122_4 (.seq (.drw [q 0 (o d61 (.ldn 6 r3)),
 w (oc d62 188 [r61]),
 q 1 (m d55 r0),
 q 1 (m d56 r0),
 qj 1 d57 r56,
 qf 1 d58 21 r57,
 ql 1 d59 r58,
 q 1 (o d60 (.bin .sub r59 a1)),
 w (oc d63 187 [r55,r60,r62])]) (.shal k122_5 .skip)))))) (.shal k122_6 .skip))))))
def f122 : AF := .mk x122 []
def k123_1 : KF := K3 y1 y2 y3 fun c i x h a b d=>
 L a h fun e h=>
 C c 138 [e,i1,(.fn 190 [b,d,a])] h fun f h=>
 L a h fun g h=>
 C c 191 [g] h fun j h=>
 .nm T36 h
def k123_0 : KF := K1 y0 fun c i x h a=>
 B 121 a h fun b h=>
 x (T34 b) h
def x123 : AC := (.shal k123_0 (.seq (.drw [ql 0 d8 r1,
 qj 0 d9 r8,
 qf 0 d10 7 r9,
 ql 0 d11 r10,
 w (oc d12 162 [r11]),
 ql 1 d4 r1,
 qj 1 d5 r4,
 qf 1 d6 8 r5,
 ql 1 d7 r6,
 w (oc d13 126 [r7,r12])]) (.seq (.drw [ql 0 d14 r1,
 qj 0 d17 r14,
 qf 0 d18 19 r17,
 w (os r18 a1),
 ql 1 d15 r1,
 qj 0 d19 r15,
 qf 0 d20 20 r19,
 n (o d16 (.mkmap)),
 w (os r20 r16)]) (.seq (.drw [ql 0 d25 r1,
 qj 0 d26 r25,
 qf 0 d27 9 r26,
 ql 0 d28 r27,
 w (oc d29 96 [r28]),
 ql 1 d21 r1,
 qj 1 d22 r21,
 qf 1 d23 8 r22,
 ql 1 d24 r23,
 w (oc d30 189 [r24,r29]),
 ql 2 d31 r1,
 qj 2 d32 r31,
 qf 2 d33 9 r32,
 ql 2 d34 r33,
 w (oc d35 96 [r34]),
 n (o d2 (.alloc 223 2 (.k1 (Y2 i0 i0)))),
 n (o d3 (.alloc 3 1 (.k1 (Y1 i0)))),
 w (o .no (.stn 2 r2 r30)),
 w (os r3 r35)]) (.shal k123_1 .skip)))))
def f123 : AF := .mk x123 []
def k124_0 : KF := K1 y0 fun c i x h a=>
 C c 173 [a,i1] h fun b h=>
 tR (cK (.toInt .i64) b h) fun d h=>
 .ret (T24 d) h
def x124 : AC := (.shal k124_0 .skip)
def f124 : AF := .mk x124 [.t .h0 .h2]
def k125_0 : KF := K1 y0 fun c i x h a=>
 O 223 2 (.k1 (Y2 i0 i0)) h fun b h=>
 C c 116 [a] h fun d h=>
 C c 116 [a] h fun e h=>
 U [i0,i0] [.mk 0 1 (.c d),.mk 1 1 (.c e)] h fun f h=>
 S 2 b f h fun g h=>
 .ret (T24 b) h
def x125 : AC := (.shal k125_0 .skip)
def f125 : AF := .mk x125 [.agg 2 .h0 .h2]
def k126_0 : KF := K2 y0 y1 fun c i x h a b=>
 B 223 b h fun d h=>
 tQ (nC a h) fun e=>
 tQ (fA 2 e h) fun f=>
 tQ (lD f h) fun g=>
 tQ (fA 0 d h) fun j=>
 tQ (lD j h) fun k=>
 tQ (maxV false [g,k] h) fun l=>
 tQ (nC a h) fun m=>
 tQ (fA 2 m h) fun n=>
 tX (RV.toT (sT n l h)) fun o h=>
 .nm T36 h
def x126 : AC := (.shal k126_0 .skip)
def f126 : AF := .mk x126 []
def k127_1 : KF := K5 y1 y4 y6 y8 y9 fun c i x h a b d e f=>
 L b h fun g h=>
 M 2 d h fun j h=>
 L e h fun k h=>
 C c 192 [g,j,k] h fun l h=>
 E 0 l h fun m h=>
 E 1 l h fun n h=>
 O 228 1 (.k1 (Y1 .nils)) h fun o h=>
 W o m h fun p h=>
 tR (u_not n h) fun q h=>
 I q (L b h fun s h=>
 C c 193 [s,a] h fun t h=>
 .ret T36 h) (L b h fun s h=>
 M 2 d h fun t h=>
 C c 131 [s,t] h fun v h=>
 L b h fun w h=>
 C c 194 [w,a,(pi 2),(.fn 195 [d,f,o,b,e])] h fun y h=>
 .nm T36 h)
def k127_0 : KF := K4 y0 y1 y2 y3 fun c i x h a b d e=>
 B 121 a h fun f h=>
 B 223 d h fun g h=>
 C c 116 [e] h fun j h=>
 C c 116 [e] h fun k h=>
 O 3 1 (.k1 (Y1 i0)) h fun l h=>
 O 2 1 (.k1 (Y1 i0)) h fun m h=>
 W l j h fun n h=>
 W m k h fun o h=>
 tQ (lD l h) fun p=>
 tQ (lD f h) fun q=>
 tQ (nC q h) fun s=>
 tQ (fA 13 s h) fun t=>
 tQ (fA 0 t h) fun v=>
 tQ (lD v h) fun w=>
 tQ (b_lt p w h) fun y=>
 I y (L f h fun z h=>
 L l h fun a0 h=>
 C c 134 [z,b,a0] h fun a1 h=>
 .ret T36 h) (x (T124 b f g l m) h)
def x127 : AC := (.shal k127_0 (.shal k127_1 .skip))
def f127 : AF := .mk x127 []
def k128_2 : KF := K8 y0 y1 y3 y6 y8 y9 y10 y24 fun c i x h a b d e f g j k=>
 I k (.nm (T126 a b d e f g j) h) (.ex 0 (T126 a b d e f g j) h)
def k128_3 : KF := K7 y0 y1 y3 y6 y8 y9 y10 fun c i x h a b d e f g j=>
 C c 125 [d] h fun k h=>
 U [i0,i0,i0,iS] [.mk 1 2 (.c k)] h fun l h=>
 O 231 4 (.k1 (Y4 i0 i0 i0 iS)) h fun m h=>
 S 4 m l h fun n h=>
 C c 116 [d] h fun o h=>
 A 0 m h fun p h=>
 W p o h fun q h=>
 C c 150 [d] h fun s h=>
 A 3 m h fun t h=>
 W t s h fun v h=>
 M 4 m h fun w h=>
 tR (bs 231 4 1 [i0,i0,i0,iS] [.mk 0 4 (.c w)] h) fun y h=>
 tR (appV 231 4 g y h) fun z h=>
 Z j i1 h fun a0 h=>
 .nm (T126 a b d e f z a0) h
def k128_1 : KF := K6 y0 y1 y3 y6 y8 y9 fun c i x h a b d e f g=>
 C c 116 [d] h fun j h=>
 x (T126 a b d e f g j) h
def k128_5 : KF := K8 y0 y1 y6 y8 y9 y41 y42 y43 fun c i x h a b d e f g j k=>
 Y k j h fun l h=>
 I l (X 4 g k h fun m h=>
 M 4 m h fun n h=>
 O 231 4 (.k1 (Y4 i0 i0 i0 iS)) h fun o h=>
 S 4 o n h fun p h=>
 A 0 o h fun q h=>
 L q h fun s h=>
 A 3 o h fun t h=>
 L t h fun v h=>
 C c 133 [a,s,v] h fun w h=>
 D k i1 h fun y h=>
 .nm (T127 a b d e f g j y) h) (.ex 2 (T127 a b d e f g j k) h)
def k128_4 : KF := K6 y0 y1 y3 y6 y8 y9 fun c i x h a b d e f g=>
 C c 132 [d] h fun j h=>
 G j h fun k h=>
 x (T127 a b e f g j k i0) h
def k128_6 : KF := K5 y0 y1 y6 y9 y75 fun c i x h a b d e f=>
 I f (.ret T36 h) (.nm (T128 a b d e) h)
def k128_7 : KF := K4 y0 y1 y6 y9 fun c i x h a b d e=>
 tQ (nC a h) fun f=>
 tQ (fA 8 f h) fun g=>
 tQ (lD g h) fun j=>
 tQ (ldn 2 d h) fun k=>
 tX (c 199 [j,b,k,e] h) fun l h=>
 J a h fun m h=>
 A 20 m h fun n h=>
 L n h fun o h=>
 tR (mup (.one .i) o b i1 h) fun p h=>
 C c 191 [a] h fun q h=>
 .nm T36 h
def k128_0 : KF := K4 y0 y1 y2 y3 fun c i x h a b d e=>
 B 223 d h fun f h=>
 C c 116 [e] h fun g h=>
 x (T125 a b e f g .nils) h
def x128 : AC := (.shal k128_0 (.seq (.shal k128_1 (.block 0 (.loop (.seq (.seq (.ops [m d18 r10,
 o d19 (.bin .gt r18 a0),
 m d20 r19,
 .g .h1 .h4 true d21 (.op (.mv r3)),
 .g .h1 .h4 true d22 (.call 197 [r21]),
 .g .h1 .h4 true d23 (.op (.un .not r22)),
 o d24 (.pick r20 r23 (.c (.bool false)))]) (.shal k128_2 .skip)) (.shal k128_3 .skip))))) (.seq (.shal k128_4 (.block 2 (.loop (.shal k128_5 .skip)))) (.seq (.seq (.drw [q 0 (m d54 r8),
 q 0 (m d55 r0),
 qj 0 d56 r55,
 qf 0 d57 6 r56,
 ql 0 d58 r57,
 q 0 (o d59 (.bin .ne r54 r58)),
 q 0 (m d60 r59),
 q 0 (.g .h3 .hc false d61 (.op (.mv r0))),
 q 0 (.g .h3 .hc false d62 (.op (.nilc r61))),
 q 0 (.g .h3 .hc false d63 (.op (.fad 19 r62))),
 q 0 (.g .h3 .hc false d64 (.op (.ld1 r63))),
 q 0 (.g .h3 .hc false d65 (.op (.bin .ne r64 a1))),
 q 0 (o d66 (.pick r60 (.c (.bool true)) r65)),
 q 0 (m d67 r66),
 q 0 (.g .h4 .h3 false d69 (.op (.mv r0))),
 q 0 (.g .h4 .h3 false d70 (.op (.nilc r69))),
 q 0 (.g .h4 .h3 false d71 (.op (.fad 8 r70))),
 q 0 (.g .h4 .h3 false d72 (.op (.ld1 r71))),
 w (.g .h4 .h3 false d73 (.call 198 [r72])),
 q 1 (.g .h4 .h3 false d68 (.op (.ldn 2 r6))),
 q 0 (.g .h4 .h3 false d74 (.op (.bin (.ane [.i,.i]) r68 r73))),
 q 0 (o d75 (.pick r67 (.c (.bool true)) r74))]) (.shal k128_6 .skip)) (.shal k128_7 .skip)))))
def f128 : AF := .mk x128 []
def k129_1 : KF := K5 y0 y1 y6 y8 y9 fun c i x h a b d e f=>
 M 2 d h fun g h=>
 L e h fun j h=>
 C c 200 [a,g,j,f] h fun k h=>
 tR (u_not k h) fun l h=>
 I l (C c 193 [a,b] h fun m h=>
 .ret T36 h) (M 2 d h fun m h=>
 C c 131 [a,m] h fun n h=>
 C c 194 [a,b,(pi 4),(.fn 201 [d,e])] h fun o h=>
 .nm T36 h)
def k129_0 : KF := K4 y0 y1 y2 y3 fun c i x h a b d e=>
 B 223 d h fun f h=>
 C c 116 [e] h fun g h=>
 O 3 1 (.k1 (Y1 i0)) h fun j h=>
 W j g h fun k h=>
 C c 150 [e] h fun l h=>
 tQ (lD j h) fun m=>
 tQ (nC a h) fun n=>
 tQ (fA 13 n h) fun o=>
 tQ (fA 0 o h) fun p=>
 tQ (lD p h) fun q=>
 tQ (b_lt m q h) fun s=>
 I s (L j h fun t h=>
 C c 134 [a,b,t] h fun v h=>
 .ret T36 h) (x (T129 a b f j l) h)
def x129 : AC := (.shal k129_0 (.shal k129_1 .skip))
def f129 : AF := .mk x129 []
def k130_1 : KF := K3 y0 y3 y25 fun c i x h a b d=>
 I d (.ret T36 h) (.nm (T13 a b) h)
def k130_2 : KF := K2 y0 y3 fun c i x h a b=>
 J a h fun d h=>
 A 8 d h fun e h=>
 L e h fun f h=>
 C c 203 [f,b,iS] h fun g h=>
 E 0 g h fun j h=>
 E 1 g h fun k h=>
 I k (C c 204 [a,b,j] h fun l h=>
 .nm T36 h) (.nm T36 h)
def k130_0 : KF := K4 y0 y1 y2 y3 fun c i x h a b d e=>
 B 223 d h fun f h=>
 x (T130 a b e f) h
def x130 : AC := (.shal k130_0 (.seq (.seq (.drw [q 0 (m d10 r0),
 qj 0 d11 r10,
 qf 0 d12 19 r11,
 ql 0 d13 r12,
 q 0 (o d14 (.bin .ne r13 a2)),
 q 0 (m d15 r14),
 q 0 (.g .h0 .hf false d16 (.op (.mv r0))),
 q 0 (.g .h0 .hf false d17 (.op (.nilc r16))),
 q 0 (.g .h0 .hf false d18 (.op (.fad 8 r17))),
 q 0 (.g .h0 .hf false d19 (.op (.ld1 r18))),
 q 0 (.g .h0 .hf false d20 (.op (.mv r1))),
 q 0 (.g .h0 .hf false d21 (.op (.ldn 2 r6))),
 q 0 (.g .h0 .hf false d22 (.op (.mv r3))),
 w (.g .h0 .hf false d23 (.call 202 [r19,r20,r21,r22])),
 q 0 (.g .h0 .hf false d24 (.op (.un .not r23))),
 q 0 (o d25 (.pick r15 (.c (.bool true)) r24))]) (.shal k130_1 .skip)) (.shal k130_2 .skip)))
def f130 : AF := .mk x130 []
def k131_1 : KF := K2 y0 y17 fun c i x h a b=>
 I b (J a h fun d h=>
 A 19 d h fun e h=>
 W e i0 h fun f h=>
 .nm T36 h) (.nm T36 h)
def k131_0 : KF := K2 y0 y1 fun c i x h a b=>
 B 223 b h fun d h=>
 x (T13 a d) h
def x131 : AC := (.shal k131_0 (.seq (.drw [q 0 (m d4 r0),
 qj 0 d5 r4,
 qf 0 d6 19 r5,
 ql 0 d7 r6,
 q 0 (o d8 (.bin .ne r7 a0)),
 q 0 (m d9 r8),
 q 0 (.g .h0 .h9 true d10 (.op (.mv r0))),
 q 0 (.g .h0 .h9 true d11 (.op (.nilc r10))),
 q 0 (.g .h0 .h9 true d12 (.op (.fad 8 r11))),
 q 0 (.g .h0 .h9 true d13 (.op (.ld1 r12))),
 w (.g .h0 .h9 true d14 (.call 198 [r13])),
 q 1 (.g .h0 .h9 true d15 (.op (.ldn 2 r3))),
 w (.g .h0 .h9 true d16 (.call 205 [r14,r15])),
 q 0 (o d17 (.pick r9 r16 (.c (.bool false))))]) (.shal k131_1 .skip)))
def f131 : AF := .mk x131 []
def k132_2 : KF := K4 y0 y3 y4 y14 fun c i x h a b d e=>
 I e (.nm (T37 a b d) h) (.ex 0 (T37 a b d) h)
def k132_3 : KF := K3 y0 y3 y4 fun c i x h a b d=>
 C c 116 [a] h fun e h=>
 C c 150 [a] h fun f h=>
 U [i0,i0,i0,iS] [.mk 0 1 (.c e),.mk 3 1 (.c f)] h fun g h=>
 tR (bs 231 4 1 [i0,i0,i0,iS] [.mk 0 4 (.c g)] h) fun j h=>
 tR (appV 231 4 b j h) fun k h=>
 Z d i1 h fun l h=>
 .nm (T37 a k l) h
def k132_1 : KF := K2 y0 y3 fun c i x h a b=>
 C c 116 [a] h fun d h=>
 x (T37 a b d) h
def k132_4 : KF := K1 y3 fun c i x h a=>
 .ret (T24 a) h
def k132_0 : KF := K1 y0 fun c i x h a=>
 x (T13 a .nils) h
def x132 : AC := (.shal k132_0 (.seq (.shal k132_1 (.block 0 (.loop (.seq (.seq (.ops [m d8 r4,
 o d9 (.bin .gt r8 a0),
 m d10 r9,
 .g .h0 .ha true d11 (.op (.mv r0)),
 .g .h0 .ha true d12 (.call 197 [r11]),
 .g .h0 .ha true d13 (.op (.un .not r12)),
 o d14 (.pick r10 r13 (.c (.bool false)))]) (.shal k132_2 .skip)) (.shal k132_3 .skip))))) (.shal k132_4 .skip)))
def f132 : AF := .mk x132 [.t .h0 .h2]
def k133_1 : KF := K5 y0 y4 y5 y6 y21 fun c i x h a b d e f=>
 I f (W e (pi 5) h fun g h=>
 .nm (T104 a b d e) h) (.nm (T104 a b d e) h)
def k133_2 : KF := K4 y0 y4 y5 y6 fun c i x h a b d e=>
 L e h fun f h=>
 C c 206 [a,(.bool false),f,(.fn 207 [b,e,d])] h fun g h=>
 C c 109 [a] h fun j h=>
 x (T1 a) h
def k133_0 : KF := K3 y0 y1 y2 fun c i x h a b d=>
 B 3 b h fun e h=>
 B 9 d h fun f h=>
 L e h fun g h=>
 L f h fun j h=>
 C c 152 [a,g,j] h fun k h=>
 tR (u_not k h) fun l h=>
 I l (.ret T36 h) (O 3 1 (.k1 (Y1 i0)) h fun m h=>
 W m (pi 4) h fun n h=>
 x (T104 a e f m) h)
def x133 : AC := (.shal k133_0 (.seq (.seq (.drw [q 0 (m d12 r0),
 ql 0 d13 r4,
 w (oc d14 164 [r12,r13]),
 q 0 (m d15 r14),
 q 0 (.g .h0 .hf true d16 (.op (.mv r0))),
 q 0 (.g .h0 .hf true d17 (.op (.ld1 r4))),
 w (.g .h0 .hf true d18 (.call 149 [r16,r17])),
 q 1 (.g .h0 .hf true d19 (.op (.ld1 r5))),
 q 0 (.g .h0 .hf true d20 (.op (.bin .seq r18 r19))),
 q 0 (o d21 (.pick r15 r20 (.c (.bool false))))]) (.shal k133_1 .skip)) (.shal k133_2 (.drw [q 0 (m d29 r0),
 qj 0 d30 r29,
 qf 0 d31 24 r30,
 ql 0 d32 r31,
 q 0 (m d33 r32),
 q 0 (.g .h2 .h1 false d38 (.op (.mv r0))),
 q 0 (.g .h2 .h1 false d39 (.op (.nilc r38))),
 q 0 (.g .h2 .h1 false d40 (.op (.fad 9 r39))),
 q 0 (.g .h2 .h1 false d41 (.op (.ld1 r40))),
 w (.g .h2 .h1 false d42 (.call 96 [r41])),
 q 1 (m d28 r0),
 q 1 (.g .h2 .h1 false d34 (.op (.mv r0))),
 q 1 (.g .h2 .h1 false d35 (.op (.nilc r34))),
 q 1 (.g .h2 .h1 false d36 (.op (.fad 10 r35))),
 q 1 (.g .h2 .h1 false d37 (.op (.ld1 r36))),
 q 0 (.g .h2 .h1 false d43 (.op (.bin .gt r37 r42))),
 q 0 (o d44 (.pick r33 (.c (.bool true)) r43)),
 qj 0 d45 r28,
 qf 0 d46 24 r45,
 w (os r46 r44)]))))
def f133 : AF := .mk x133 []
def k134_1 : KF := K3 y1 y3 y6 fun c i x h a b d=>
 L d h fun e h=>
 G e h fun f h=>
 tR (b_gt f i0 h) fun g h=>
 I g (L b h fun j h=>
 C c 194 [j,a,(pi 6),(.fn 209 [d])] h fun k h=>
 .nm T36 h) (.nm T36 h)
def k134_0 : KF := K3 y0 y1 y2 fun c i x h a b d=>
 B 121 a h fun e h=>
 L e h fun f h=>
 J f h fun g h=>
 A 13 g h fun j h=>
 A 0 j h fun k h=>
 L k h fun l h=>
 Y d l h fun m h=>
 I m (L e h fun n h=>
 C c 194 [n,b,(pi 8),(.fn 208 [e])] h fun o h=>
 L e h fun p h=>
 C c 163 [p,d] h fun q h=>
 O 228 1 (.k1 (Y1 .nils)) h fun s h=>
 W s q h fun t h=>
 x (T131 b e s) h) (L e h fun n h=>
 C c 163 [n,d] h fun o h=>
 O 228 1 (.k1 (Y1 .nils)) h fun p h=>
 W p o h fun q h=>
 x (T131 b e p) h)
def x134 : AC := (.shal k134_0 (.shal k134_1 .skip))
def f134 : AF := .mk x134 []
def k137_0 : KF := K1 y0 fun c i x h a=>
 tQ (nC a h) fun b=>
 tQ (fA 1 b h) fun d=>
 tQ (lD d h) fun e=>
 tQ (b_mul (pi 150) e h) fun f=>
 tQ (b_add (pi 300) f h) fun g=>
 tQ (nC a h) fun j=>
 tQ (fA 22 j h) fun k=>
 tQ (lD k h) fun l=>
 tQ (maxV true [l,(pi 7)] h) fun m=>
 tQ (bK .shl g m h) fun n=>
 .ret (T24 n) h
def x137 : AC := (.shal k137_0 .skip)
def f137 : AF := .mk x137 [.t .h0 .h2]
def k138_1 : KF := K5 y0 y1 y2 y11 y12 fun c i x h a b d e f=>
 Y f e h fun g h=>
 I g (J a h fun j h=>
 A 1 j h fun k h=>
 L k h fun l h=>
 tR (b_ne f l h) fun m h=>
 I m (C c 194 [a,f,b,d] h fun n h=>
 D f i1 h fun o h=>
 .nm (T132 a b d e o) h) (D f i1 h fun n h=>
 .nm (T132 a b d e n) h)) (.ex 0 (T132 a b d e f) h)
def k138_0 : KF := K3 y0 y1 y2 fun c i x h a b d=>
 J a h fun e h=>
 A 0 e h fun f h=>
 L f h fun g h=>
 C c 103 [g] h fun j h=>
 x (T132 a b d j i0) h
def x138 : AC := (.shal k138_0 (.block 0 (.loop (.shal k138_1 .skip))))
def f138 : AF := .mk x138 []
def k139_0 : KF := K2 y0 y1 fun c i x h a b=>
 L b h fun d h=>
 C c 57 [a,d] h fun e h=>
 .nm T36 h
def x139 : AC := (.shal k139_0 .skip)
def f139 : AF := .mk x139 []
def k141_0 : KF := K1 y0 fun c i x h a=>
 J a h fun b h=>
 A 1 b h fun d h=>
 L d h fun e h=>
 .ret (T24 e) h
def x141 : AC := (.shal k141_0 .skip)
def f141 : AF := .mk x141 [.t .h0 .h2]
def k145_4 : KF := K3 y0 y5 y6 fun c i x h a b d=>
 D d i1 h fun e h=>
 .nm (T73 a b e) h
def k145_3 : KF := K3 y0 y5 y6 fun c i x h a b d=>
 J a h fun e h=>
 A 2 e h fun f h=>
 L f h fun g h=>
 tR (lkp (.one .i) (.agg [i0,i0,i0,iS]) true g d h) fun j h=>
 E 0 j h fun k h=>
 E 1 j h fun l h=>
 O 231 4 (.k1 (Y4 i0 i0 i0 iS)) h fun m h=>
 S 4 m k h fun n h=>
 I l (M 4 m h fun o h=>
 tR (bs 231 4 1 [i0,i0,i0,iS] [.mk 0 4 (.c o)] h) fun p h=>
 tR (appV 231 4 b p h) fun q h=>
 x (T73 a q d) h) (x (T73 a b d) h)
def k145_2 : KF := K3 y0 y5 y6 fun c i x h a b d=>
 J a h fun e h=>
 A 3 e h fun f h=>
 L f h fun g h=>
 Y d g h fun j h=>
 I j (x (T73 a b d) h) (.ex 0 (T52 b) h)
def k145_1 : KF := K3 y0 y1 y5 fun c i x h a b d=>
 tR (maxV false [b,i0] h) fun e h=>
 x (T73 a d e) h
def k145_5 : KF := K1 y5 fun c i x h a=>
 .ret (T12 a) h
def k145_0 : KF := K2 y0 y1 fun c i x h a b=>
 x (T32 a b .nils) h
def x145 : AC := (.shal k145_0 (.seq (.shal k145_1 (.block 0 (.loop (.shal k145_2 (.shal k145_3 (.shal k145_4 .skip)))))) (.shal k145_5 .skip)))
def f145 : AF := .mk x145 [.t .h0 .h4]
def k146_0 : KF := K2 y0 y1 fun c i x h a b=>
 J a h fun d h=>
 A 0 d h fun e h=>
 L e h fun f h=>
 tR (lkp (.one .i) iS true f b h) fun g h=>
 E 0 g h fun j h=>
 E 1 g h fun k h=>
 .ret (T28 j k) h
def x146 : AC := (.shal k146_0 .skip)
def f146 : AF := .mk x146 [.t .h0 .h4,.t .h0 .h5]
def k147_1 : KF := K2 y0 y16 fun c i x h a b=>
 I b (.ret (T8 .nils (.bool false)) h) (.nm (T1 a) h)
def k147_2 : KF := K1 y0 fun c i x h a=>
 tR (o_slc 1 (.c a) (.some (.c (pi 4))) .none .none .nil h) fun b h=>
 C c 91 [b] h fun d h=>
 .ret (T8 d (.bool true)) h
def k147_0 : KF := K1 y0 fun c i x h a=>
 x (T1 a) h
def x147 : AC := (.shal k147_0 (.seq (.seq (.drw [q 0 (m d4 r0),
 q 0 (o d5 (.len r4)),
 q 0 (o d6 (.bin .lt r5 (.c (pi 4)))),
 q 0 (m d7 r6),
 q 0 (.g .h0 .h7 false d8 (.op (.mv r0))),
 q 0 (.g .h0 .h7 false d9 (.op (.slc 1 r8 (.some (.c (pi 4))) .none .none))),
 w (.g .h0 .h7 false d10 (.call 220 [r9])),
 q 0 (.g .h0 .h7 false d11 (.op (.slc 1 r10 .none (.some (.c (pi 4))) .none))),
 q 1 (.g .h0 .h7 false d12 (.op (.mv r0))),
 q 1 (.g .h0 .h7 false d13 (.op (.slc 1 r12 .none (.some (.c (pi 4))) .none))),
 w (.g .h0 .h7 false d14 (.call 219 [r11,r13])),
 q 0 (.g .h0 .h7 false d15 (.op (.un .not r14))),
 q 0 (o d16 (.pick r7 (.c (.bool true)) r15))]) (.shal k147_1 .skip)) (.shal k147_2 .skip)))
def f147 : AF := .mk x147 [.t .h0 .h2,.t .h0 .h3]
def k148_0 : KF := K3 y0 y1 y2 fun c i x h a b d=>
 B 223 b h fun e h=>
 tQ (nC a h) fun f=>
 tQ (fA 0 f h) fun g=>
 tQ (ldn 2 g h) fun j=>
 tQ (ldn 2 e h) fun k=>
 tX (c 205 [j,k] h) fun l h=>
 tQ (u_not l h) fun m=>
 I m (.ret (T30 (.bool false) .nils) h) (M 2 e h fun n h=>
 J a h fun o h=>
 A 0 o h fun p h=>
 S 2 p n h fun q h=>
 C c 145 [a,d] h fun s h=>
 x (T30 (.bool true) s) h)
def x148 : AC := (.shal k148_0 .ret)
def f148 : AF := .mk x148 [.t .h0 .h6,.t .h0 .h7]
def k149_0 : KF := K2 y0 y1 fun c i x h a b=>
 J a h fun d h=>
 A 7 d h fun e h=>
 L e h fun f h=>
 C c 221 [f,b] h fun g h=>
 E 0 g h fun j h=>
 E 1 g h fun k h=>
 O 231 4 (.k1 (Y4 i0 i0 i0 iS)) h fun l h=>
 S 4 l j h fun m h=>
 A 3 l h fun n h=>
 L n h fun o h=>
 .ret (T12 o) h
def x149 : AC := (.shal k149_0 .skip)
def f149 : AF := .mk x149 [.t .h0 .h4]
def k150_2 : KF := K4 y0 y3 y4 y15 fun c i x h a b d e=>
 I e (.nm (T37 a b d) h) (.ex 0 (T37 a b d) h)
def k150_3 : KF := K3 y0 y3 y4 fun c i x h a b d=>
 C c 182 [a,(pi 65535)] h fun e h=>
 tR (o_apps 5 (.c b) (.c e) .nil h) fun f h=>
 .nm (T37 a f d) h
def k150_1 : KF := K2 y0 y3 fun c i x h a b=>
 C c 116 [a] h fun d h=>
 x (T37 a b d) h
def k150_4 : KF := K1 y3 fun c i x h a=>
 tR (cK .b2s a h) fun b h=>
 .ret (T24 b) h
def k150_0 : KF := K1 y0 fun c i x h a=>
 x (T13 a .nils) h
def x150 : AC := (.shal k150_0 (.seq (.shal k150_1 (.block 0 (.loop (.seq (.seq (.ops [m d7 r3,
 o d8 (.len r7),
 m d9 r4,
 o d10 (.bin .lt r8 r9),
 m d11 r10,
 .g .h0 .hb true d12 (.op (.mv r0)),
 .g .h0 .hb true d13 (.call 197 [r12]),
 .g .h0 .hb true d14 (.op (.un .not r13)),
 o d15 (.pick r11 r14 (.c (.bool false)))]) (.shal k150_2 .skip)) (.shal k150_3 .skip))))) (.shal k150_4 .skip)))
def f150 : AF := .mk x150 [.t .h0 .h2]
def k152_1 : KF := K3 y0 y1 y23 fun c i x h a b d=>
 I d (.ret (T11 (.bool false)) h) (.nm (T25 a b) h)
def k152_2 : KF := K2 y0 y1 fun c i x h a b=>
 J a h fun d h=>
 A 10 d h fun e h=>
 L e h fun f h=>
 D b i1 h fun g h=>
 tR (maxV false [f,g] h) fun j h=>
 J a h fun k h=>
 A 10 k h fun l h=>
 W l j h fun m h=>
 .ret (T11 (.bool true)) h
def k152_0 : KF := K3 y0 y1 y2 fun c i x h a b d=>
 x (T31 a b d) h
def x152 : AC := (.shal k152_0 (.seq (.seq (.ops [m d7 r1,
 m d8 r0,
 oj d9 r8,
 of d10 13 r9,
 of d11 0 r10,
 ol d12 r11,
 o d13 (.bin .lt r7 r12),
 m d14 r13,
 .g .h0 .he false d15 (.op (.mv r0)),
 .g .h0 .he false d16 (.op (.nilc r15)),
 .g .h0 .he false d17 (.op (.fad 9 r16)),
 .g .h0 .he false d18 (.op (.ld1 r17)),
 .g .h0 .he false d19 (.op (.mv r1)),
 .g .h0 .he false d20 (.op (.mv r2)),
 .g .h0 .he false d21 (.call 222 [r18,r19,r20]),
 .g .h0 .he false d22 (.op (.un .not r21)),
 o d23 (.pick r14 (.c (.bool true)) r22)]) (.shal k152_1 .skip)) (.shal k152_2 .skip)))
def f152 : AF := .mk x152 [.t .h0 .h6]
def k154_0 : KF := K2 y0 y1 fun c i x h a b=>
 C c 56 [] h fun d h=>
 C c 71 [d,a] h fun e h=>
 tT (cd c b [d] h) fun f h=>
 C c 58 [d] h fun g h=>
 C c 224 [g] h fun j h=>
 .ret (T12 j) h
def x154 : AC := (.shal k154_0 .skip)
def f154 : AF := .mk x154 [.t .h0 .h4]
def k155_0 : KF := K2 y0 y1 fun c i x h a b=>
 L b h fun d h=>
 J d h fun e h=>
 A 6 e h fun f h=>
 L f h fun g h=>
 C c 57 [a,g] h fun j h=>
 .nm T36 h
def x155 : AC := (.shal k155_0 .skip)
def f155 : AF := .mk x155 []
def k159_0 : KF := K2 y0 y1 fun c i x h a b=>
 B 223 b h fun d h=>
 A 0 d h fun e h=>
 L e h fun f h=>
 C c 57 [a,f] h fun g h=>
 A 1 d h fun j h=>
 L j h fun k h=>
 C c 57 [a,k] h fun l h=>
 .nm T36 h
def x159 : AC := (.shal k159_0 .skip)
def f159 : AF := .mk x159 []
def k160_1 : KF := K2 y0 y1 fun c i x h a b=>
 tR (lent b h) fun d h=>
 tR (b_gt d i0 h) fun e h=>
 I e (tR (lent b h) fun f h=>
 tR (maxV true [f,(pi 65535)] h) fun g h=>
 tR (o_slcs (.c b) .none (.some (.c g)) .nil h) fun j h=>
 C c 70 [a,j] h fun k h=>
 tR (o_slcs (.c b) (.some (.c g)) .none .nil h) fun l h=>
 .nm (T25 a l) h) (.ex 0 (T25 a b) h)
def k160_0 : KF := K2 y0 y1 fun c i x h a b=>
 tR (lent b h) fun d h=>
 C c 57 [a,d] h fun e h=>
 x (T25 a b) h
def x160 : AC := (.shal k160_0 (.block 0 (.loop (.shal k160_1 .skip))))
def f160 : AF := .mk x160 []
def k161_0 : KF := K2 y0 y1 fun c i x h a b=>
 L b h fun d h=>
 J d h fun e h=>
 A 7 e h fun f h=>
 L f h fun g h=>
 C c 162 [g] h fun j h=>
 C c 159 [a,j] h fun k h=>
 .nm T36 h
def x161 : AC := (.shal k161_0 .skip)
def f161 : AF := .mk x161 []
def k162_0 : KF := K1 y0 fun c i x h a=>
 O 223 2 (.k1 (Y2 i0 i0)) h fun b h=>
 J a h fun d h=>
 A 0 d h fun e h=>
 M 2 e h fun f h=>
 S 2 b f h fun g h=>
 .ret (T24 b) h
def x162 : AC := (.shal k162_0 .skip)
def f162 : AF := .mk x162 [.agg 2 .h0 .h2]
def k163_4 : KF := K3 y0 y5 y6 fun c i x h a b d=>
 D d i1 h fun e h=>
 .nm (T73 a b e) h
def k163_3 : KF := K3 y0 y5 y6 fun c i x h a b d=>
 J a h fun e h=>
 A 9 e h fun f h=>
 L f h fun g h=>
 C c 146 [g,d] h fun j h=>
 E 0 j h fun k h=>
 E 1 j h fun l h=>
 I l (U [i0,i0,i0,iS] [.mk 0 1 (.c d),.mk 3 1 (.c k)] h fun m h=>
 tR (bs 231 4 1 [i0,i0,i0,iS] [.mk 0 4 (.c m)] h) fun n h=>
 tR (appV 231 4 b n h) fun o h=>
 x (T73 a o d) h) (x (T73 a b d) h)
def k163_2 : KF := K3 y0 y5 y6 fun c i x h a b d=>
 J a h fun e h=>
 A 10 e h fun f h=>
 L f h fun g h=>
 Y d g h fun j h=>
 I j (x (T73 a b d) h) (.ex 0 (T52 b) h)
def k163_1 : KF := K3 y0 y1 y5 fun c i x h a b d=>
 J a h fun e h=>
 A 13 e h fun f h=>
 A 0 f h fun g h=>
 L g h fun j h=>
 tR (maxV false [b,j] h) fun k h=>
 x (T73 a d k) h
def k163_5 : KF := K1 y5 fun c i x h a=>
 .ret (T12 a) h
def k163_0 : KF := K2 y0 y1 fun c i x h a b=>
 x (T32 a b .nils) h
def x163 : AC := (.shal k163_0 (.seq (.shal k163_1 (.block 0 (.loop (.shal k163_2 (.shal k163_3 (.shal k163_4 .skip)))))) (.shal k163_5 .skip)))
def f163 : AF := .mk x163 [.t .h0 .h4]
def k164_0 : KF := K2 y0 y1 fun c i x h a b=>
 J a h fun d h=>
 A 7 d h fun e h=>
 L e h fun f h=>
 C c 221 [f,b] h fun g h=>
 E 0 g h fun j h=>
 E 1 g h fun k h=>
 O 231 4 (.k1 (Y4 i0 i0 i0 iS)) h fun l h=>
 S 4 l j h fun m h=>
 .ret (T12 k) h
def x164 : AC := (.shal k164_0 .skip)
def f164 : AF := .mk x164 [.t .h0 .h4]
def k166_0 : KF := K2 y0 y1 fun c i x h a b=>
 G b h fun d h=>
 tR (b_gt d (pi 4194304) h) fun e h=>
 I e (.ret (T12 (pi 13)) h) (C c 91 [b] h fun f h=>
 J a h fun g h=>
 A 0 g h fun j h=>
 W j f h fun k h=>
 J a h fun l h=>
 A 0 l h fun m h=>
 L m h fun n h=>
 G n h fun o h=>
 J a h fun p h=>
 A 1 p h fun q h=>
 W q o h fun s h=>
 .ret (T12 i0) h)
def x166 : AC := (.shal k166_0 .skip)
def f166 : AF := .mk x166 [.t .h0 .h4]
def k167_3 : KF := K3 y0 y3 y4 fun c i x h a b d=>
 J a h fun e h=>
 A 1 e h fun f h=>
 L f h fun g h=>
 D g i1 h fun j h=>
 J a h fun k h=>
 A 1 k h fun l h=>
 W l j h fun m h=>
 .nm (T37 a b d) h
def k167_2 : KF := K3 y0 y3 y4 fun c i x h a b d=>
 J a h fun e h=>
 A 1 e h fun f h=>
 L f h fun g h=>
 Y g d h fun j h=>
 I j (x (T37 a b d) h) (.ex 0 (T59 b) h)
def k167_1 : KF := K2 y0 y3 fun c i x h a b=>
 C c 96 [a] h fun d h=>
 x (T37 a b d) h
def k167_4 : KF := K1 y3 fun c i x h a=>
 .ret (T24 a) h
def k167_0 : KF := K1 y0 fun c i x h a=>
 x (T13 a .nils) h
def x167 : AC := (.shal k167_0 (.seq (.shal k167_1 (.block 0 (.loop (.shal k167_2 (.seq (.block 1 (.drw [q 0 (m d21 r0),
 qj 0 d22 r21,
 qf 0 d23 0 r22,
 ql 0 d24 r23,
 q 0 (m d25 r0),
 qj 0 d26 r25,
 qf 0 d27 1 r26,
 ql 0 d28 r27,
 q 0 (o d29 (.lkp (.one .i) iS false r24 r28)),
 w (o d30 (.bslice 9 1 1 [iS] [.mk 0 1 r29])),
 q 1 (m d20 r3),
 w (o d31 (.app 9 1 r20 r30)),
 q 0 (m d3 r31)])) (.shal k167_3 .skip)))))) (.shal k167_4 .skip)))
def f167 : AF := .mk x167 [.t .h0 .h2]
def k168_1 : KF := K6 y0 y1 y6 y7 y8 y10 fun c i x h a b d e f g=>
 I g (.ret T36 h) (.nm (T133 a b d e f) h)
def k168_5 : KF := K3 y0 y8 y12 fun c i x h a b d=>
 tQ (nC a h) fun e=>
 tQ (fA 0 e h) fun f=>
 tQ (lD f h) fun g=>
 tQ (nC g h) fun j=>
 tQ (fA 2 j h) fun k=>
 tQ (lD k h) fun l=>
 tQ (nC a h) fun m=>
 tQ (fA 1 m h) fun n=>
 tQ (lD n h) fun o=>
 tQ (nC a h) fun p=>
 tQ (fA 12 p h) fun q=>
 tQ (lD q h) fun s=>
 tQ (b_sub s i1 h) fun t=>
 tQ (nC l h) fun v=>
 tX (i 4 l [o,t,b,d] h) fun w h=>
 .nm T36 h
def k168_4 : KF := K5 y0 y1 y6 y8 y12 fun c i x h a b d e f=>
 tQ (nC a h) fun g=>
 tQ (fA 11 g h) fun j=>
 tQ (lD j h) fun k=>
 tQ (ldn 3 d h) fun l=>
 tQ (nC a h) fun m=>
 tQ (fA 12 m h) fun n=>
 tQ (lD n h) fun o=>
 tQ (bl [i0,i0] [.mk 0 1 (.c b),.mk 1 1 (.c o)] h) fun p=>
 tX (RV.toT (mup (.agg [.i,.i,.i]) k l p h)) fun q h=>
 J a h fun s h=>
 A 12 s h fun t h=>
 L t h fun v h=>
 D v i1 h fun w h=>
 J a h fun y h=>
 A 12 y h fun z h=>
 W z w h fun a0 h=>
 x (T136 a e f) h
def k168_3 : KF := K7 y0 y1 y6 y7 y8 y11 y12 fun c i x h a b d e f g j=>
 I e (tQ (nC a h) fun k=>
 tQ (fA 11 k h) fun l=>
 tQ (lD l h) fun m=>
 tQ (ldn 3 d h) fun n=>
 tQ (bl [i0,i0] [.mk 0 1 (.c b),.mk 1 1 (.c (ni 0))] h) fun o=>
 tX (RV.toT (mup (.agg [.i,.i,.i]) m n o h)) fun p h=>
 I j (tQ (nC a h) fun q=>
 tQ (fA 0 q h) fun s=>
 tQ (lD s h) fun t=>
 tQ (nC t h) fun v=>
 tQ (fA 2 v h) fun w=>
 tQ (lD w h) fun y=>
 tQ (nC a h) fun z=>
 tQ (fA 1 z h) fun a0=>
 tQ (lD a0 h) fun a1=>
 tQ (nC a h) fun a2=>
 tQ (fA 12 a2 h) fun a3=>
 tQ (lD a3 h) fun a4=>
 tQ (fA 4 g h) fun a5=>
 tQ (lD a5 h) fun a6=>
 tQ (nC y h) fun a7=>
 tX (i 3 y [a1,a4,a6] h) fun a8 h=>
 .ret T36 h) (.ret T36 h)) (x (T135 a b d f j) h)
def k168_2 : KF := K5 y0 y1 y6 y7 y8 fun c i x h a b d e f=>
 M 3 d h fun g h=>
 C c 210 [a,g] h fun j h=>
 E 0 j h fun k h=>
 E 1 j h fun l h=>
 O 221 6 (.k1 (Y6 i0 i0 i0 (.bool false) iS i0)) h fun m h=>
 S 6 m k h fun n h=>
 J a h fun o h=>
 A 22 o h fun p h=>
 W p i0 h fun q h=>
 x (T134 a b d e f m l) h
def k168_0 : KF := K3 y0 y1 y2 fun c i x h a b d=>
 C c 230 [d] h fun e h=>
 E 0 e h fun f h=>
 E 1 e h fun g h=>
 E 2 e h fun j h=>
 O 219 3 (.k1 (Y3 i0 i0 i0)) h fun k h=>
 S 3 k f h fun l h=>
 x (T133 a b k g j) h
def x168 : AC := (.shal k168_0 (.seq (.seq (.drw [w (o d9 (.alloc 237 2 (.k1 (Y2 i0 i0)))),
 q 1 (m d20 r0),
 qj 1 d21 r20,
 qf 1 d22 11 r21,
 ql 1 d23 r22,
 q 1 (o d24 (.ldn 3 r6)),
 q 1 (o d25 (.lkp (.agg [.i,.i,.i]) (.agg [i0,i0]) true r23 r24)),
 q 1 (m d19 r25),
 q 1 (oe d26 0 r19),
 w (o .no (.stn 2 r9 r26)),
 q 2 (oe d27 1 r19),
 q 0 (m d10 r27)]) (.shal k168_1 .skip)) (.shal k168_2 (.shal k168_3 (.shal k168_4 (.shal k168_5 .skip))))))
def f168 : AF := .mk x168 []
def k169_0 : KF := K1 y0 fun c i x h a=>
 Y a (pi 10) h fun b h=>
 I b (D a i1 h fun d h=>
 tR (o_slcs (.c (.str [48,49,50,51,52,53,54,55,56,57,97,98,99,100,101,102,103,104,105,106,107,108,109,110,111,112,113,114,115,116,117,118,119,120,121,122])) (.some (.c a)) (.some (.c d)) .nil h) fun e h=>
 .ret (T24 e) h) (tR (b_mul a (pi 2) h) fun d h=>
 tR (b_mul a (pi 2) h) fun e h=>
 D e (pi 2) h fun f h=>
 tR (o_slcs (.c (.str [48,48,48,49,48,50,48,51,48,52,48,53,48,54,48,55,48,56,48,57,49,48,49,49,49,50,49,51,49,52,49,53,49,54,49,55,49,56,49,57,50,48,50,49,50,50,50,51,50,52,50,53,50,54,50,55,50,56,50,57,51,48,51,49,51,50,51,51,51,52,51,53,51,54,51,55,51,56,51,57,52,48,52,49,52,50,52,51,52,52,52,53,52,54,52,55,52,56,52,57,53,48,53,49,53,50,53,51,53,52,53,53,53,54,53,55,53,56,53,57,54,48,54,49,54,50,54,51,54,52,54,53,54,54,54,55,54,56,54,57,55,48,55,49,55,50,55,51,55,52,55,53,55,54,55,55,55,56,55,57,56,48,56,49,56,50,56,51,56,52,56,53,56,54,56,55,56,56,56,57,57,48,57,49,57,50,57,51,57,52,57,53,57,54,57,55,57,56,57,57])) (.some (.c d)) (.some (.c f)) .nil h) fun g h=>
 .ret (T24 g) h)
def x169 : AC := (.shal k169_0 .skip)
def f169 : AF := .mk x169 [.t .h0 .h2]
def k173_2 : KF := K3 y5 y6 y7 fun c i x h a b d=>
 tR (b_gt d i0 h) fun e h=>
 I e (Z d i1 h fun f h=>
 tR (bK .shl a (.int .u64 (.ofNat 8)) h) fun g h=>
 X 1 b f h fun j h=>
 L j h fun k h=>
 tR (cK (.toInt .u64) k h) fun l h=>
 tR (b_or g l h) fun m h=>
 .go 0 (T137 u m b f) h) (.ret (T12 a) h)
def k173_1 : KF := K2 y0 y1 fun c i x h a b=>
 C c 236 [a,b] h fun d h=>
 G d h fun e h=>
 x (T113 (.int .u64 (.ofNat 0)) d e) h
def k173_0 : KF := K2 y0 y1 fun c i x h a b=>
 x (T25 a b) h
def x173 : AC := (.shal k173_0 (.scope (.shal k173_1 (.seq (.label 0) (.shal k173_2 .skip)))))
def f173 : AF := .mk x173 [.t .h0 .h4]
def k178_2 : KF := fun c i x r h=>
 .ret (T8 i0 i0) h
def k178_1 : KF := K1 y0 fun c i x h a=>
 J a h fun b h=>
 A 2 b h fun d h=>
 L d h fun e h=>
 tR (b_ne e i0 h) fun f h=>
 I f (tQ (nC a h) fun g=>
 tQ (fA 2 g h) fun j=>
 tQ (lD j h) fun k=>
 tQ (nC a h) fun l=>
 tQ (fA 3 l h) fun m=>
 tQ (lD m h) fun n=>
 .ret (T8 k n) h) (tQ (nC a h) fun g=>
 tQ (fA 1 g h) fun j=>
 tQ (lD j h) fun k=>
 tQ (nC a h) fun l=>
 tQ (fA 0 l h) fun m=>
 tQ (lD m h) fun n=>
 tQ (len n h) fun o=>
 tQ (b_lt k o h) fun p=>
 I p (tQ (nC a h) fun q=>
 tQ (fA 1 q h) fun s=>
 tQ (lD s h) fun t=>
 .ret (T8 (pi 11) t) h) (x T36 h))
def k178_0 : KF := K1 y0 fun c i x h a=>
 x (T1 a) h
def x178 : AC := (.shal k178_0 (.shal k178_1 (.shal k178_2 .skip)))
def f178 : AF := .mk x178 [.t .h0 .h2,.t .h0 .h3]
def k180_3 : KF := K5 y9 y10 y38 y39 y40 fun c i x h a b d e f=>
 Y f e h fun g h=>
 I g (X 3 d f h fun j h=>
 M 3 j h fun k h=>
 O 179 3 (.k1 (Y3 iS .nils .nils)) h fun l h=>
 S 3 l k h fun m h=>
 A 0 l h fun n h=>
 L n h fun o h=>
 A 2 l h fun p h=>
 L p h fun q h=>
 U [iS,.nils] [.mk 0 1 (.c o),.mk 1 1 (.c q)] h fun s h=>
 tR (bs 361 2 1 [iS,.nils] [.mk 0 2 (.c s)] h) fun t h=>
 tR (appV 361 2 b t h) fun v h=>
 D f i1 h fun w h=>
 .nm (T139 a v d e w) h) (.ex 0 (T139 a b d e f) h)
def k180_2 : KF := K3 y0 y9 y10 fun c i x h a b d=>
 J a h fun e h=>
 A 1 e h fun f h=>
 L f h fun g h=>
 G g h fun j h=>
 x (T139 b d g j i0) h
def k180_4 : KF := K2 y9 y10 fun c i x h a b=>
 C c 246 [a,b] h fun d h=>
 E 0 d h fun e h=>
 E 1 d h fun f h=>
 .ret (T28 a f) h
def k180_1 : KF := K3 y0 y7 y9 fun c i x h a b d=>
 tR (b_ne b i0 h) fun e h=>
 I e (.ret (T28 .nilp b) h) (x (T138 a d .nils) h)
def k180_0 : KF := K2 y0 y1 fun c i x h a b=>
 C c 244 [b] h fun d h=>
 E 0 d h fun e h=>
 E 1 d h fun f h=>
 E 2 d h fun g h=>
 O 245 8 (.k1 (Y8 i0 iS .nils .nils .nils .nils .nils .nils)) h fun j h=>
 S 8 j e h fun k h=>
 tR (b_ne f i0 h) fun l h=>
 I l (.ret (T28 .nilp f) h) (x (T9 a j) h)
def x180 : AC := (.shal k180_0 (.seq (.drw [q 0 (m d24 r0),
 qj 0 d25 r24,
 qf 0 d26 0 r25,
 ql 0 d27 r26,
 w (oc d28 240 [r27]),
 q 1 (o d23 (.ldn 8 r6)),
 w (oc d29 245 [r23,r28]),
 q 0 (m d22 r29),
 q 0 (oe d30 0 r22),
 q 0 (oe d31 1 r22),
 q 0 (m d9 r30),
 q 0 (m d7 r31)]) (.shal k180_1 (.seq (.shal k180_2 (.block 0 (.loop (.shal k180_3 .skip)))) (.shal k180_4 .skip)))))
def f180 : AF := .mk x180 [.t .h0 .h4,.t .h0 .h5]
def k181_0 : KF := K2 y0 y1 fun c i x h a b=>
 tR (cK .b2s a h) fun d h=>
 tR (cK .b2s b h) fun e h=>
 tR (b_seq d e h) fun f h=>
 .ret (T12 f) h
def x181 : AC := (.shal k181_0 .skip)
def f181 : AF := .mk x181 [.t .h0 .h4]
def k182_1 : KF := K4 y0 y5 y6 y23 fun c i x h a b d e=>
 I e (C c 248 [a,(pi 3),b] h fun f h=>
 .nm (T9 a d) h) (.nm (T9 a d) h)
def k182_2 : KF := K2 y0 y6 fun c i x h a b=>
 C c 236 [a,b] h fun d h=>
 tR (cK .b2s d h) fun e h=>
 .ret (T12 e) h
def k182_0 : KF := K2 y0 y1 fun c i x h a b=>
 J a h fun d h=>
 A 1 d h fun e h=>
 L e h fun f h=>
 C c 247 [a] h fun g h=>
 x (T140 a b f g) h
def x182 : AC := (.shal k182_0 (.seq (.seq (.ops [m d13 r0,
 oj d14 r13,
 of d15 2 r14,
 ol d16 r15,
 o d17 (.bin .eq r16 a0),
 m d18 r17,
 .g .h1 .h2 true d19 (.op (.mv r6)),
 .g .h1 .h2 true d20 (.op (.mv r1)),
 .g .h1 .h2 true d21 (.op (.max false [r20,a0])),
 .g .h1 .h2 true d22 (.op (.bin .gt r19 r21)),
 o d23 (.pick r18 r22 (.c (.bool false)))]) (.shal k182_1 .skip)) (.shal k182_2 .skip)))
def f182 : AF := .mk x182 [.t .h0 .h4]
def k184_1 : KF := K5 y0 y1 y2 y7 y8 fun c i x h a b d e f=>
 I f (U [i0,i0,iS] [] h fun g h=>
 S 3 e g h fun j h=>
 .ret (T30 i0 e) h) (J a h fun g h=>
 A 0 g h fun j h=>
 tR (ixa 16 4 j b h) fun k h=>
 A 0 k h fun l h=>
 L l h fun m h=>
 tR (b_gt d m h) fun n h=>
 I n (U [i0,i0,iS] [] h fun o h=>
 S 3 e o h fun p h=>
 .ret (T30 i1 e) h) (J a h fun o h=>
 A 0 o h fun p h=>
 tR (ixa 16 4 p b h) fun q h=>
 A 0 q h fun s h=>
 L s h fun t h=>
 Q d t h fun v h=>
 I v (tQ (nC a h) fun w=>
 tQ (fA 0 w h) fun y=>
 tQ (ixa 16 4 y b h) fun z=>
 tQ (fA 1 z h) fun a0=>
 tQ (ldn 3 a0 h) fun a1=>
 tX (RV.toT (stn 3 e a1 h)) fun a2 h=>
 .ret (T30 (pi 2) e) h) (.nm (T141 e) h)))
def k184_2 : KF := K1 y7 fun c i x h a=>
 U [i0,i0,iS] [] h fun b h=>
 S 3 a b h fun d h=>
 .ret (T30 (pi 3) a) h
def k184_0 : KF := K3 y0 y1 y2 fun c i x h a b d=>
 O 52 3 (.k1 (Y3 i0 i0 iS)) h fun e h=>
 x (T93 a b d e) h
def x184 : AC := (.shal k184_0 (.seq (.block 0 (.seq (.ops [m d9 r1,
 o d10 (.bin .lt r9 a0),
 m d11 r10,
 .g .h0 .hb false d12 (.op (.mv r1)),
 .g .h0 .hb false d13 (.op (.bin .ge r12 (.c (pi 16)))),
 o d14 (.pick r11 (.c (.bool true)) r13),
 m d15 r14,
 .g .h0 .hf false d16 (.op (.mv r2)),
 .g .h0 .hf false d17 (.op (.bin .lt r16 a1)),
 o d18 (.pick r15 (.c (.bool true)) r17),
 m d19 r18,
 .g .h1 .h3 false d20 (.op (.mv r2)),
 .g .h1 .h3 false d21 (.op (.bin .gt r20 (.c (pi 1073741824)))),
 o d22 (.pick r19 (.c (.bool true)) r21),
 m d8 r22]) (.shal k184_1 .skip))) (.shal k184_2 .skip)))
def f184 : AF := .mk x184 [.t .h0 .h6,.agg 3 .h0 .h7]
def k185_4 : KF := K2 y4 y5 fun c i x h a b=>
 U [i0,i0,iS] [.mk 0 1 (.c b)] h fun d h=>
 S 3 a d h fun e h=>
 .ret (T12 a) h
def k185_3 : KF := K3 y0 y3 y4 fun c i x h a b d=>
 tQ (nC a h) fun e=>
 tQ (fA 0 e h) fun f=>
 tQ (lD f h) fun g=>
 tQ (fA 3 b h) fun j=>
 tQ (lD j h) fun k=>
 tQ (fA 5 b h) fun l=>
 tQ (lD l h) fun m=>
 tX (c 237 [g,k,m] h) fun n h=>
 Q n i0 h fun o h=>
 I o (A 3 b h fun p h=>
 L p h fun q h=>
 A 5 b h fun s h=>
 L s h fun t h=>
 C c 249 [a,q,t] h fun v h=>
 x (T28 d n) h) (x (T28 d n) h)
def k185_7 : KF := K3 y0 y3 y4 fun c i x h a b d=>
 A 3 b h fun e h=>
 L e h fun f h=>
 A 4 b h fun g h=>
 L g h fun j h=>
 C c 253 [a,f,j] h fun k h=>
 S 3 d k h fun l h=>
 .ret (T12 d) h
def k185_6 : KF := K4 y0 y3 y4 y10 fun c i x h a b d e=>
 Q e (pi 3) h fun f h=>
 x (T145 a b d f) h
def k185_5 : KF := K4 y0 y3 y4 y10 fun c i x h a b d e=>
 Q e (pi 2) h fun f h=>
 x (T144 a b d e f) h
def k185_2 : KF := K4 y0 y3 y4 y10 fun c i x h a b d e=>
 Q e i1 h fun f h=>
 x (T143 a b d e f) h
def k185_1 : KF := K3 y0 y3 y4 fun c i x h a b d=>
 A 2 b h fun e h=>
 L e h fun f h=>
 x (T142 a b d f) h
def k185_8 : KF := K1 y4 fun c i x h a=>
 U [i0,i0,iS] [.mk 0 1 (.c (pi 12))] h fun b h=>
 S 3 a b h fun d h=>
 .ret (T12 a) h
def k185_0 : KF := K2 y0 y1 fun c i x h a b=>
 B 29 b h fun d h=>
 O 52 3 (.k1 (Y3 i0 i0 iS)) h fun e h=>
 x (T37 a d e) h
def x185 : AC := (.shal k185_0 (.seq (.shal k185_1 (.block 0 (.shal k185_2 (.cond r11 (.shal k185_3 (.shal k185_4 .skip)) (.shal k185_5 (.cond r32 (.bad 0) (.shal k185_6 (.cond r58 (.shal k185_7 .skip) (.bad 0))))))))) (.shal k185_8 .skip)))
def f185 : AF := .mk x185 [.agg 3 .h0 .h4]
def k186_1 : KF := K4 y0 y1 y2 y7 fun c i x h a b d e=>
 tQ (ldn 3 e h) fun f=>
 tQ (bl [i0,i0,i0,iS] [.mk 0 1 (.c d),.mk 1 3 (.c f)] h) fun g=>
 tQ (nC a h) fun j=>
 tQ (fA 0 j h) fun k=>
 tQ (ixa 16 4 k b h) fun l=>
 tX (RV.toT (stn 4 l g h)) fun m h=>
 .ret (T146 i0) h
def k186_0 : KF := K4 y0 y1 y2 y3 fun c i x h a b d e=>
 B 52 e h fun f h=>
 C c 184 [a,b,d] h fun g h=>
 E 0 g h fun j h=>
 E 1 g h fun k h=>
 O 52 3 (.k1 (Y3 i0 i0 iS)) h fun l h=>
 S 3 l k h fun m h=>
 tR (b_ne j i1 h) fun n h=>
 I n (.ret (T146 i1) h) (x (T93 a b d f) h)
def x186 : AC := (.shal k186_0 (.shal k186_1 .skip))
def f186 : AF := .mk x186 [.t .h0 .h8]
def k187_1 : KF := K5 y0 y1 y2 y6 y31 fun c i x h a b d e f=>
 I f (.ret T36 h) (.nm (T92 a b d e) h)
def k187_4 : KF := K4 y0 y1 y2 y6 fun c i x h a b d e=>
 M 2 e h fun f h=>
 C c 213 [a,f,b,d] h fun g h=>
 .nm T36 h
def k187_3 : KF := K4 y0 y1 y2 y6 fun c i x h a b d e=>
 tQ (nC a h) fun f=>
 tQ (fA 8 f h) fun g=>
 tQ (lD g h) fun j=>
 tQ (nC a h) fun k=>
 tQ (fA 1 k h) fun l=>
 tQ (lD l h) fun m=>
 tQ (ldn 2 e h) fun n=>
 tX (c 202 [j,m,n,b] h) fun o h=>
 I o (C c 204 [a,b,d] h fun p h=>
 x (T92 a b d e) h) (x (T92 a b d e) h)
def k187_2 : KF := K4 y0 y1 y2 y6 fun c i x h a b d e=>
 M 2 e h fun f h=>
 C c 200 [a,f,b,d] h fun g h=>
 tR (u_not g h) fun j h=>
 I j (J a h fun k h=>
 A 19 k h fun l h=>
 W l i0 h fun m h=>
 .ret T36 h) (x (T92 a b d e) h)
def k187_0 : KF := K3 y0 y1 y2 fun c i x h a b d=>
 J a h fun e h=>
 A 8 e h fun f h=>
 L f h fun g h=>
 C c 198 [g] h fun j h=>
 O 223 2 (.k1 (Y2 i0 i0)) h fun k h=>
 S 2 k j h fun l h=>
 J a h fun m h=>
 A 8 m h fun n h=>
 L n h fun o h=>
 C c 203 [o,b,d] h fun p h=>
 E 0 p h fun q h=>
 E 1 p h fun s h=>
 x (T147 a b q k s) h
def x187 : AC := (.shal k187_0 (.seq (.seq (.ops [m d23 r7,
 o d24 (.un .not r23),
 m d25 r24,
 .g .h1 .h9 false d26 (.op (.mv r0)),
 .g .h1 .h9 false d27 (.op (.nilc r26)),
 .g .h1 .h9 false d28 (.op (.fad 19 r27)),
 .g .h1 .h9 false d29 (.op (.ld1 r28)),
 .g .h1 .h9 false d30 (.op (.bin .ne r29 a2)),
 o d31 (.pick r25 (.c (.bool true)) r30)]) (.shal k187_1 .skip)) (.shal k187_2 (.shal k187_3 (.shal k187_4 .skip)))))
def f187 : AF := .mk x187 []
def k188_1 : KF := K2 y1 y3 fun c i x h a b=>
 A 3 a h fun d h=>
 L d h fun e h=>
 I e (C c 58 [b] h fun f h=>
 tR (cK .b2s f h) fun g h=>
 .ret (T24 g) h) (x (T56 a b) h)
def k188_0 : KF := K1 y0 fun c i x h a=>
 B 221 a h fun b h=>
 C c 56 [] h fun d h=>
 A 0 b h fun e h=>
 M 3 e h fun f h=>
 C c 228 [d,f] h fun g h=>
 A 3 b h fun j h=>
 L j h fun k h=>
 I k (C c 71 [d,i1] h fun l h=>
 x (T56 b d) h) (C c 71 [d,i0] h fun l h=>
 x (T56 b d) h)
def x188 : AC := (.shal k188_0 (.shal k188_1 (.seq (.drw [q 0 (m d20 r3),
 w (oc d21 58 [r20]),
 q 0 (o d22 (.conv .b2s r21)),
 qf 1 d23 4 r1,
 ql 1 d24 r23,
 q 0 (o d25 (.bin .cat r22 r24)),
 q 0 (m d2 r25)]) .ret)))
def f188 : AF := .mk x188 [.t .h0 .h2]
def k189_2 : KF := K2 y0 y4 fun c i x h a b=>
 J a h fun d h=>
 A 3 d h fun e h=>
 M 2 e h fun f h=>
 S 2 b f h fun g h=>
 .ret (T12 b) h
def k189_1 : KF := K3 y0 y1 y4 fun c i x h a b d=>
 tR (maxV false [b,i0] h) fun e h=>
 J a h fun f h=>
 A 5 f h fun g h=>
 W g e h fun j h=>
 tR (mkm h) fun k h=>
 J a h fun l h=>
 A 6 l h fun m h=>
 W m k h fun n h=>
 tR (mkm h) fun o h=>
 J a h fun p h=>
 A 7 p h fun q h=>
 W q o h fun s h=>
 tR (mkm h) fun t h=>
 J a h fun v h=>
 A 8 v h fun w h=>
 W w t h fun y h=>
 x (T79 a d) h
def k189_0 : KF := K2 y0 y1 fun c i x h a b=>
 O 223 2 (.k1 (Y2 i0 i0)) h fun d h=>
 J a h fun e h=>
 A 2 e h fun f h=>
 L f h fun g h=>
 tR (maxV true [g,(pi 1073741823)] h) fun j h=>
 D j i1 h fun k h=>
 J a h fun l h=>
 A 2 l h fun m h=>
 W m k h fun n h=>
 tQ (nC a h) fun o=>
 tQ (fA 2 o h) fun p=>
 tQ (lD p h) fun q=>
 tQ (nC a h) fun s=>
 tQ (fA 0 s h) fun t=>
 tQ (lD t h) fun v=>
 tQ (bl [i0,i0] [.mk 0 1 (.c q),.mk 1 1 (.c v)] h) fun w=>
 tQ (nC a h) fun y=>
 tQ (fA 3 y h) fun z=>
 tX (RV.toT (stn 2 z w h)) fun a0 h=>
 x (T64 a b d) h
def x189 : AC := (.shal k189_0 (.shal k189_1 (.shal k189_2 .skip)))
def f189 : AF := .mk x189 [.agg 2 .h0 .h4]
def k190_0 : KF := K4 y0 y1 y2 y3 fun c i x h a b d e=>
 M 2 b h fun f h=>
 C c 159 [a,f] h fun g h=>
 L d h fun j h=>
 C c 57 [a,j] h fun k h=>
 L e h fun l h=>
 J l h fun m h=>
 A 6 m h fun n h=>
 L n h fun o h=>
 C c 57 [a,o] h fun p h=>
 .nm T36 h
def x190 : AC := (.shal k190_0 .skip)
def f190 : AF := .mk x190 []
def k191_0 : KF := K2 y0 y31 fun c i x h a b=>
 I b (.ret T36 h) (.nm (T1 a) h)
def k191_4 : KF := K4 y0 y84 y85 y86 fun c i x h a b d e=>
 Y e d h fun f h=>
 I f (X 1 b e h fun g h=>
 L g h fun j h=>
 J a h fun k h=>
 A 21 k h fun l h=>
 L l h fun m h=>
 D j i1 h fun n h=>
 tR (maxV false [m,n] h) fun o h=>
 J a h fun p h=>
 A 21 p h fun q h=>
 W q o h fun s h=>
 D e i1 h fun t h=>
 .nm (T148 a b d t) h) (.ex 0 (T148 a b d e) h)
def k191_3 : KF := K1 y0 fun c i x h a=>
 J a h fun b h=>
 A 8 b h fun d h=>
 L d h fun e h=>
 C c 212 [e] h fun f h=>
 G f h fun g h=>
 x (T148 a f g i0) h
def k191_6 : KF := K3 y0 y7 y8 fun c i x h a b d=>
 D b i1 h fun e h=>
 .nm (T149 a e d) h
def k191_5 : KF := K3 y0 y7 y8 fun c i x h a b d=>
 Y b d h fun e h=>
 I e (J a h fun f h=>
 A 9 f h fun g h=>
 L g h fun j h=>
 C c 146 [j,b] h fun k h=>
 E 0 k h fun l h=>
 E 1 k h fun m h=>
 tR (u_not m h) fun n h=>
 I n (C c 187 [a,b,iS] h fun o h=>
 x (T149 a b d) h) (x (T149 a b d) h)) (.ex 2 (T1 a) h)
def k191_8 : KF := K3 y0 y133 y134 fun c i x h a b d=>
 Y d b h fun e h=>
 I e (J a h fun f h=>
 A 17 f h fun g h=>
 L g h fun j h=>
 X 6 j d h fun k h=>
 A 5 k h fun l h=>
 W l (ni 0) h fun m h=>
 D d i1 h fun n h=>
 .nm (T150 a b n) h) (.ex 4 (T150 a b d) h)
def k191_7 : KF := K1 y0 fun c i x h a=>
 J a h fun b h=>
 A 17 b h fun d h=>
 L d h fun e h=>
 G e h fun f h=>
 x (T150 a f i0) h
def k191_9 : KF := K1 y0 fun c i x h a=>
 C c 122 [a] h fun b h=>
 .nm T36 h
def k191_2 : KF := K4 y0 y2 y3 y4 fun c i x h a b d e=>
 tR (u_not e h) fun f h=>
 I f (J a h fun g h=>
 A 19 g h fun j h=>
 W j i0 h fun k h=>
 .ret T36 h) (tQ (nC a h) fun g=>
 tQ (fA 8 g h) fun j=>
 tQ (lD j h) fun k=>
 tQ (nC a h) fun l=>
 tQ (fA 1 l h) fun m=>
 tQ (lD m h) fun n=>
 tQ (ldn 2 b h) fun o=>
 tX (c 199 [k,n,o,d] h) fun p h=>
 J a h fun q h=>
 A 19 q h fun s h=>
 W s (pi 2) h fun t h=>
 x (T1 a) h)
def k191_1 : KF := K1 y0 fun c i x h a=>
 J a h fun b h=>
 A 8 b h fun d h=>
 L d h fun e h=>
 C c 198 [e] h fun f h=>
 O 223 2 (.k1 (Y2 i0 i0)) h fun g h=>
 S 2 g f h fun j h=>
 x (T122 a g) h
def x191 : AC := (.seq (.seq (.drw [q 0 (m d12 r0),
 qj 0 d13 r12,
 qf 0 d14 19 r13,
 ql 0 d15 r14,
 q 0 (o d16 (.bin .ne r15 a1)),
 q 0 (m d17 r16),
 q 0 (.g .h1 .h1 false d18 (.op (.mv r0))),
 q 0 (.g .h1 .h1 false d19 (.op (.nilc r18))),
 q 0 (.g .h1 .h1 false d20 (.op (.fad 20 r19))),
 q 0 (.g .h1 .h1 false d21 (.op (.ld1 r20))),
 q 0 (.g .h1 .h1 false d22 (.op (.lenm r21))),
 q 0 (.g .h1 .h1 false d25 (.op (.mv r0))),
 q 0 (.g .h1 .h1 false d26 (.op (.nilc r25))),
 q 0 (.g .h1 .h1 false d27 (.op (.fad 0 r26))),
 q 0 (.g .h1 .h1 false d28 (.op (.ld1 r27))),
 w (.g .h1 .h1 false d29 (.call 103 [r28])),
 q 1 (.g .h1 .h1 false d23 (.op (.bin .add r22 a1))),
 q 1 (.g .h1 .h1 false d24 (.op (.bin .mul a2 r23))),
 q 0 (.g .h1 .h1 false d30 (.op (.bin .le r24 r29))),
 q 0 (o d31 (.pick r17 (.c (.bool true)) r30))]) (.shal k191_0 .skip)) (.shal k191_1 (.seq (.drw [q 0 (m d40 r0),
 qj 0 d41 r40,
 qf 0 d42 9 r41,
 ql 0 d43 r42,
 w (oc d44 96 [r43]),
 q 1 (m d38 r0),
 q 1 (o d39 (.ldn 2 r2)),
 w (oc d45 192 [r38,r39,r44]),
 q 0 (m d37 r45),
 q 0 (oe d46 0 r37),
 q 0 (oe d47 1 r37),
 q 0 (m d3 r46),
 q 0 (m d4 r47)]) (.shal k191_2 (.seq (.drw [q 0 (m d68 r0),
 qj 0 d69 r68,
 qf 0 d70 9 r69,
 ql 0 d71 r70,
 w (oc d72 96 [r71]),
 q 1 (m d67 r0),
 q 1 (m d73 r0),
 qj 1 d74 r73,
 qf 1 d75 10 r74,
 ql 1 d76 r75,
 q 0 (o d77 (.max false [r72,r76])),
 qj 0 d78 r67,
 qf 0 d79 21 r78,
 w (os r79 r77)]) (.seq (.shal k191_3 (.block 0 (.loop (.shal k191_4 .skip)))) (.seq (.seq (.drw [q 0 (m d101 r0),
 qj 0 d102 r101,
 qf 0 d103 9 r102,
 ql 0 d104 r103,
 w (oc d105 96 [r104]),
 q 1 (m d106 r0),
 qj 1 d107 r106,
 qf 1 d108 21 r107,
 ql 1 d109 r108,
 q 0 (m d7 r105),
 q 0 (m d8 r109)]) (.block 2 (.loop (.shal k191_5 (.shal k191_6 .skip))))) (.seq (.shal k191_7 (.block 4 (.loop (.shal k191_8 .skip)))) (.shal k191_9 .skip)))))))))
def f191 : AF := .mk x191 []
def k192_1 : KF := K4 y0 y2 y4 y23 fun c i x h a b d e=>
 I e (.ret (T30 .nils (.bool false)) h) (.nm (T151 a b d) h)
def k192_2 : KF := K3 y0 y2 y4 fun c i x h a b d=>
 tQ (nC a h) fun e=>
 tQ (fA 7 e h) fun f=>
 tQ (lD f h) fun g=>
 tQ (ldn 2 d h) fun j=>
 tX (c 148 [g,j,b] h) fun k h=>
 tQ (ext 0 k h) fun l=>
 tQ (ext 1 k h) fun m=>
 .ret (T30 m l) h
def k192_0 : KF := K3 y0 y1 y2 fun c i x h a b d=>
 B 223 b h fun e h=>
 x (T151 a d e) h
def x192 : AC := (.shal k192_0 (.seq (.seq (.drw [q 0 (m d10 r0),
 qj 0 d11 r10,
 qf 0 d12 7 r11,
 ql 0 d13 r12,
 w (oc d14 162 [r13]),
 q 1 (o d15 (.ldn 2 r4)),
 w (oc d16 205 [r14,r15]),
 q 0 (o d17 (.un .not r16)),
 q 0 (m d18 r17),
 q 0 (.g .h1 .h2 false d19 (.op (.mv r0))),
 q 0 (.g .h1 .h2 false d20 (.op (.mkf 256 [r4]))),
 w (.g .h1 .h2 false d21 (.call 206 [r19,(.c (.bool true)),a1,r20])),
 q 0 (.g .h1 .h2 false d22 (.op (.un .not r21))),
 q 0 (o d23 (.pick r18 (.c (.bool true)) r22))]) (.shal k192_1 .skip)) (.shal k192_2 .skip)))
def f192 : AF := .mk x192 [.t .h0 .h6,.t .h0 .h7]
def k194_0 : KF := K4 y0 y1 y2 y3 fun c i x h a b d e=>
 C c 56 [] h fun f h=>
 C c 71 [f,d] h fun g h=>
 tT (cd c e [f] h) fun j h=>
 x (T152 a b f) h
def x194 : AC := (.shal k194_0 (.drw [q 0 (m d25 r8),
 w (oc d26 58 [r25]),
 q 1 (m d16 r0),
 qj 1 d17 r16,
 qf 1 d18 0 r17,
 ql 1 d19 r18,
 q 1 (m d20 r0),
 qj 1 d21 r20,
 qf 1 d22 1 r21,
 ql 1 d23 r22,
 q 1 (m d24 r1),
 w (oc d27 85 [r19,r23,r24,r26])]))
def f194 : AF := .mk x194 []
def k195_2 : KF := K6 y0 y4 y5 y19 y20 y21 fun c i x h a b d e f g=>
 Y g f h fun j h=>
 I j (X 4 e g h fun k h=>
 M 4 k h fun l h=>
 O 231 4 (.k1 (Y4 i0 i0 i0 iS)) h fun m h=>
 S 4 m l h fun n h=>
 A 1 m h fun o h=>
 M 2 o h fun p h=>
 C c 159 [a,p] h fun q h=>
 A 0 m h fun s h=>
 L s h fun t h=>
 C c 57 [a,t] h fun v h=>
 A 3 m h fun w h=>
 L w h fun y h=>
 C c 160 [a,y] h fun z h=>
 D g i1 h fun a0 h=>
 .nm (T153 a b d e f a0) h) (.ex 0 (T153 a b d e f g) h)
def k195_1 : KF := K4 y0 y3 y4 y5 fun c i x h a b d e=>
 L b h fun f h=>
 G f h fun g h=>
 x (T153 a d e f g i0) h
def k195_3 : KF := K3 y0 y4 y5 fun c i x h a b d=>
 L b h fun e h=>
 L d h fun f h=>
 C c 163 [e,f] h fun g h=>
 C c 196 [a,g] h fun j h=>
 .nm T36 h
def k195_0 : KF := K6 y0 y1 y2 y3 y4 y5 fun c i x h a b d e f g=>
 M 2 b h fun j h=>
 C c 159 [a,j] h fun k h=>
 L d h fun l h=>
 C c 57 [a,l] h fun m h=>
 L e h fun n h=>
 G n h fun o h=>
 C c 57 [a,o] h fun p h=>
 x (T38 a e f g) h
def x195 : AC := (.shal k195_0 (.seq (.shal k195_1 (.block 0 (.loop (.shal k195_2 .skip)))) (.shal k195_3 .skip)))
def f195 : AF := .mk x195 []
def k196_1 : KF := K4 y0 y10 y11 y12 fun c i x h a b d e=>
 Y e d h fun f h=>
 I f (X 4 b e h fun g h=>
 M 4 g h fun j h=>
 O 231 4 (.k1 (Y4 i0 i0 i0 iS)) h fun k h=>
 S 4 k j h fun l h=>
 A 0 k h fun m h=>
 L m h fun n h=>
 C c 57 [a,n] h fun o h=>
 A 3 k h fun p h=>
 L p h fun q h=>
 C c 160 [a,q] h fun s h=>
 D e i1 h fun t h=>
 .nm (T154 a b d t) h) (.ex 0 (T154 a b d e) h)
def k196_0 : KF := K2 y0 y1 fun c i x h a b=>
 G b h fun d h=>
 C c 57 [a,d] h fun e h=>
 G b h fun f h=>
 x (T154 a b f i0) h
def x196 : AC := (.shal k196_0 (.block 0 (.loop (.shal k196_1 .skip))))
def f196 : AF := .mk x196 []
def k197_0 : KF := K1 y0 fun c i x h a=>
 J a h fun b h=>
 A 2 b h fun d h=>
 L d h fun e h=>
 tR (b_ne e i0 h) fun f h=>
 .ret (T24 f) h
def x197 : AC := (.shal k197_0 .skip)
def f197 : AF := .mk x197 [.t .h0 .h2]
def k198_0 : KF := K1 y0 fun c i x h a=>
 O 223 2 (.k1 (Y2 i0 i0)) h fun b h=>
 J a h fun d h=>
 A 3 d h fun e h=>
 M 2 e h fun f h=>
 S 2 b f h fun g h=>
 .ret (T24 b) h
def x198 : AC := (.shal k198_0 .skip)
def f198 : AF := .mk x198 [.agg 2 .h0 .h2]
def k199_2 : KF := K5 y0 y1 y3 y8 y40 fun c i x h a b d e f=>
 I f (.go 0 (T156 a b d e) h) (.nm (T156 a b d e) h)
def k199_4 : KF := K2 y3 y8 fun c i x h a b=>
 G a h fun d h=>
 Y b d h fun e h=>
 x (T158 e) h
def k199_3 : KF := K4 y0 y1 y3 y8 fun c i x h a b d e=>
 J a h fun f h=>
 A 6 f h fun g h=>
 L g h fun j h=>
 tR (mup (.one .i) j b i1 h) fun k h=>
 x (T157 d e) h
def k199_1 : KF := K4 y0 y1 y3 y6 fun c i x h a b d e=>
 M 2 e h fun f h=>
 C c 126 [a,f] h fun g h=>
 x (T155 a b d e i0) h
def k199_0 : KF := K4 y0 y1 y2 y3 fun c i x h a b d e=>
 B 223 d h fun f h=>
 x (T130 a b e f) h
def x199 : AC := (.shal k199_0 (.scope (.shal k199_1 (.seq (.seq (.drw [q 0 (o d15 (.ldn 2 r6)),
 q 0 (m d16 r0),
 qj 0 d17 r16,
 qf 0 d18 3 r17,
 q 0 (o d19 (.ldn 2 r18)),
 q 0 (o d20 (.bin (.ane [.i,.i]) r15 r19)),
 q 0 (m d21 r20),
 q 0 (.g .h1 .h5 false d22 (.op (.ldn 2 r6))),
 q 0 (.g .h1 .h5 false d23 (.op (.build [i0,i0] []))),
 q 0 (.g .h1 .h5 false d24 (.op (.bin (.aeq [.i,.i]) r22 r23))),
 q 0 (o d25 (.pick r21 (.c (.bool true)) r24)),
 q 0 (m d26 r25),
 q 0 (.g .h1 .ha false d27 (.op (.mv r0))),
 q 0 (.g .h1 .ha false d28 (.op (.mv r1))),
 w (.g .h1 .ha false d29 (.call 258 [r27,r28])),
 q 0 (.g .h1 .ha false d30 (.op (.un .not r29))),
 q 0 (o d31 (.pick r26 (.c (.bool true)) r30)),
 q 0 (m d32 r31),
 q 0 (.g .h2 .h0 false d33 (.op (.mv r0))),
 q 0 (.g .h2 .h0 false d34 (.op (.nilc r33))),
 q 0 (.g .h2 .h0 false d35 (.op (.fad 6 r34))),
 q 0 (.g .h2 .h0 false d36 (.op (.ld1 r35))),
 q 0 (.g .h2 .h0 false d37 (.op (.mv r1))),
 q 0 (.g .h2 .h0 false d38 (.op (.lkp (.one .i) i0 false r36 r37))),
 q 0 (.g .h2 .h0 false d39 (.op (.bin .gt r38 a0))),
 q 0 (o d40 (.pick r32 (.c (.bool true)) r39))]) (.shal k199_2 .skip)) (.shal k199_3 (.seq (.label 1) (.seq (.shal k199_4 (.cond r49 (.bad 0) .skip)) (.label 0))))))))
def f199 : AF := .mk x199 []
def k200_1 : KF := K5 y0 y5 y6 y7 y35 fun c i x h a b d e f=>
 I f (.ret (T146 (.bool false)) h) (.nm (T115 a b d e) h)
def k200_3 : KF := K6 y0 y5 y6 y7 y9 y45 fun c i x h a b d e f g=>
 I g (W f (pi 3) h fun j h=>
 .nm (T159 a b d e f) h) (.nm (T159 a b d e f) h)
def k200_4 : KF := K5 y0 y5 y6 y7 y9 fun c i x h a b d e f=>
 L f h fun g h=>
 C c 206 [a,(.bool true),g,(.fn 259 [b,d,f,e])] h fun j h=>
 x (T160 a b d e j) h
def k200_2 : KF := K4 y0 y5 y6 y7 fun c i x h a b d e=>
 O 3 1 (.k1 (Y1 i0)) h fun f h=>
 W f (pi 2) h fun g h=>
 x (T159 a b d e f) h
def k200_0 : KF := K4 y0 y1 y2 y3 fun c i x h a b d e=>
 B 223 b h fun f h=>
 B 3 d h fun g h=>
 B 9 e h fun j h=>
 x (T115 a f g j) h
def x200 : AC := (.shal k200_0 (.seq (.seq (.drw [q 0 (m d12 r0),
 qj 0 d13 r12,
 qf 0 d14 7 r13,
 ql 0 d15 r14,
 w (oc d16 162 [r15]),
 q 1 (o d11 (.ldn 2 r5)),
 w (oc d17 205 [r11,r16]),
 q 0 (m d18 r17),
 q 0 (.g .h1 .h2 false d19 (.op (.ldn 2 r5))),
 q 0 (.g .h1 .h2 false d20 (.op (.build [i0,i0] []))),
 q 0 (.g .h1 .h2 false d21 (.op (.bin (.aeq [.i,.i]) r19 r20))),
 q 0 (o d22 (.pick r18 (.c (.bool true)) r21)),
 q 0 (m d23 r22),
 q 0 (.g .h1 .h7 false d24 (.op (.ld1 r6))),
 q 0 (.g .h1 .h7 false d25 (.op (.mv r0))),
 q 0 (.g .h1 .h7 false d26 (.op (.nilc r25))),
 q 0 (.g .h1 .h7 false d27 (.op (.fad 13 r26))),
 q 0 (.g .h1 .h7 false d28 (.op (.fad 0 r27))),
 q 0 (.g .h1 .h7 false d29 (.op (.ld1 r28))),
 q 0 (.g .h1 .h7 false d30 (.op (.bin .lt r24 r29))),
 q 0 (o d31 (.pick r23 (.c (.bool true)) r30)),
 q 0 (m d32 r31),
 q 0 (.g .h2 .h0 false d33 (.op (.ld1 r6))),
 q 0 (.g .h2 .h0 false d34 (.op (.bin .ge r33 (.c (pi 1048576))))),
 q 0 (o d35 (.pick r32 (.c (.bool true)) r34))]) (.shal k200_1 .skip)) (.shal k200_2 (.seq (.seq (.drw [q 0 (m d36 r0),
 ql 0 d37 r6,
 w (oc d38 164 [r36,r37]),
 q 0 (m d39 r38),
 q 0 (.g .h2 .h7 true d40 (.op (.mv r0))),
 q 0 (.g .h2 .h7 true d41 (.op (.ld1 r6))),
 w (.g .h2 .h7 true d42 (.call 149 [r40,r41])),
 q 1 (.g .h2 .h7 true d43 (.op (.ld1 r7))),
 q 0 (.g .h2 .h7 true d44 (.op (.bin .seq r42 r43))),
 q 0 (o d45 (.pick r39 r44 (.c (.bool false))))]) (.shal k200_3 .skip)) (.shal k200_4 (.seq (.drw [q 0 (m d50 r10),
 q 0 (m d51 r50),
 q 0 (.g .h3 .h3 true d52 (.op (.mv r0))),
 q 0 (.g .h3 .h3 true d53 (.op (.nilc r52))),
 q 0 (.g .h3 .h3 true d54 (.op (.fad 7 r53))),
 q 0 (.g .h3 .h3 true d55 (.op (.ld1 r54))),
 q 0 (.g .h3 .h3 true d56 (.op (.ldn 2 r5))),
 q 0 (.g .h3 .h3 true d57 (.op (.ld1 r6))),
 q 0 (.g .h3 .h3 true d58 (.op (.ld1 r7))),
 w (.g .h3 .h3 true d59 (.call 260 [r55,r56,r57,r58])),
 q 0 (o d60 (.pick r51 r59 (.c (.bool false)))),
 q 0 (m d8 r60)]) .ret))))))
def f200 : AF := .mk x200 [.t .h0 .h8]
def k201_0 : KF := K3 y0 y1 y2 fun c i x h a b d=>
 M 2 b h fun e h=>
 C c 159 [a,e] h fun f h=>
 L d h fun g h=>
 C c 57 [a,g] h fun j h=>
 .nm T36 h
def x201 : AC := (.shal k201_0 .skip)
def f201 : AF := .mk x201 []
def k202_1 : KF := K4 y0 y1 y9 y31 fun c i x h a b d e=>
 I e (.ret (T146 (.bool false)) h) (.nm (T161 a b d) h)
def k202_2 : KF := K3 y0 y1 y9 fun c i x h a b d=>
 J d h fun e h=>
 A 1 e h fun f h=>
 L f h fun g h=>
 tR (mup (.one .i) g b i1 h) fun j h=>
 J d h fun k h=>
 A 1 k h fun l h=>
 L l h fun m h=>
 tR (lnm m h) fun n h=>
 C c 261 [a,n] h fun o h=>
 .ret (T146 o) h
def k202_0 : KF := K4 y0 y1 y2 y3 fun c i x h a b d e=>
 B 223 d h fun f h=>
 J a h fun g h=>
 A 8 g h fun j h=>
 L j h fun k h=>
 tR (lkp (.one .i) .nilp false k e h) fun l h=>
 x (T128 a b f l) h
def x202 : AC := (.shal k202_0 (.seq (.seq (.drw [q 0 (o d16 (.ldn 2 r6)),
 q 0 (m d17 r0),
 qj 0 d18 r17,
 qf 0 d19 3 r18,
 q 0 (o d20 (.ldn 2 r19)),
 q 0 (o d21 (.bin (.ane [.i,.i]) r16 r20)),
 q 0 (m d22 r21),
 q 0 (.g .h1 .h6 false d23 (.op (.mv r0))),
 q 0 (.g .h1 .h6 false d24 (.op (.mv r1))),
 w (.g .h1 .h6 false d25 (.call 258 [r23,r24])),
 q 0 (.g .h1 .h6 false d26 (.op (.un .not r25))),
 q 0 (o d27 (.pick r22 (.c (.bool true)) r26)),
 q 0 (m d28 r27),
 q 0 (.g .h1 .hc false d29 (.op (.mv r9))),
 q 0 (.g .h1 .hc false d30 (.op (.bin .peq r29 (.c .nilp)))),
 q 0 (o d31 (.pick r28 (.c (.bool true)) r30))]) (.shal k202_1 .skip)) (.shal k202_2 .skip)))
def f202 : AF := .mk x202 [.t .h0 .h8]
def k203_1 : KF := K4 y0 y1 y2 y25 fun c i x h a b d e=>
 I e (.ret (T30 iS (.bool false)) h) (.nm (T31 a b d) h)
def k203_4 : KF := K3 y0 y1 y2 fun c i x h a b d=>
 J a h fun e h=>
 A 8 e h fun f h=>
 L f h fun g h=>
 tR (mkm h) fun j h=>
 U [iS,.nilm] [.mk 0 1 (.c d),.mk 1 1 (.c j)] h fun k h=>
 B 375 k h fun l h=>
 tR (mup (.one .i) g b l h) fun m h=>
 .ret (T30 d (.bool true)) h
def k203_3 : KF := K3 y0 y1 y2 fun c i x h a b d=>
 J a h fun e h=>
 A 7 e h fun f h=>
 L f h fun g h=>
 tR (lkp (.one .i) (.agg [i0,i0,i0,iS]) true g b h) fun j h=>
 E 0 j h fun k h=>
 E 1 j h fun l h=>
 O 231 4 (.k1 (Y4 i0 i0 i0 iS)) h fun m h=>
 S 4 m k h fun n h=>
 I l (A 3 m h fun o h=>
 L o h fun p h=>
 x (T31 a b p) h) (x (T31 a b d) h)
def k203_2 : KF := K3 y0 y1 y2 fun c i x h a b d=>
 J a h fun e h=>
 A 8 e h fun f h=>
 L f h fun g h=>
 tR (lkp (.one .i) .nilp false g b h) fun j h=>
 tR (bK .pne j .nilp h) fun k h=>
 I k (J j h fun l h=>
 A 0 l h fun m h=>
 L m h fun n h=>
 .ret (T30 n (.bool true)) h) (x (T31 a b d) h)
def k203_0 : KF := K3 y0 y1 y2 fun c i x h a b d=>
 x (T31 a b d) h
def x203 : AC := (.shal k203_0 (.seq (.seq (.ops [m d11 r0,
 oc d12 262 [r11],
 o d13 (.un .not r12),
 m d14 r13,
 .g .h0 .he false d15 (.op (.mv r1)),
 .g .h0 .he false d16 (.op (.mv r0)),
 .g .h0 .he false d17 (.op (.nilc r16)),
 .g .h0 .he false d18 (.op (.fad 5 r17)),
 .g .h0 .he false d19 (.op (.ld1 r18)),
 .g .h0 .he false d20 (.op (.bin .lt r15 r19)),
 o d21 (.pick r14 (.c (.bool true)) r20),
 m d22 r21,
 .g .h1 .h6 false d23 (.op (.mv r1)),
 .g .h1 .h6 false d24 (.op (.bin .ge r23 (.c (pi 1048576)))),
 o d25 (.pick r22 (.c (.bool true)) r24)]) (.shal k203_1 .skip)) (.shal k203_2 (.shal k203_3 (.shal k203_4 .skip)))))
def f203 : AF := .mk x203 [.t .h0 .h6,.t .h0 .h7]
def k204_2 : KF := K4 y0 y4 y5 y26 fun c i x h a b d e=>
 I e (.ret T36 h) (.nm (T103 a b d) h)
def k204_1 : KF := K3 y0 y4 y5 fun c i x h a b d=>
 tQ (nC a h) fun e=>
 tQ (fA 9 e h) fun f=>
 tQ (lD f h) fun g=>
 tQ (lD b h) fun j=>
 tX (c 146 [g,j] h) fun k h=>
 tQ (ext 0 k h) fun l=>
 tQ (ext 1 k h) fun m=>
 x (T162 a b d m) h
def k204_3 : KF := K3 y0 y4 y5 fun c i x h a b d=>
 L b h fun e h=>
 L d h fun f h=>
 C c 133 [a,e,f] h fun g h=>
 C c 138 [a,(pi 6),(.fn 263 [b,d])] h fun j h=>
 .nm T36 h
def k204_0 : KF := K3 y0 y1 y2 fun c i x h a b d=>
 B 3 b h fun e h=>
 B 9 d h fun f h=>
 x (T103 a e f) h
def x204 : AC := (.shal k204_0 (.seq (.shal k204_1 (.seq (.drw [q 0 (m d17 r7),
 q 0 (m d18 r17),
 q 0 (.g .h1 .h2 false d20 (.op (.mv r0))),
 q 0 (.g .h1 .h2 false d21 (.op (.nilc r20))),
 q 0 (.g .h1 .h2 false d22 (.op (.fad 9 r21))),
 q 0 (.g .h1 .h2 false d23 (.op (.ld1 r22))),
 w (.g .h1 .h2 false d24 (.call 141 [r23])),
 q 1 (.g .h1 .h2 false d19 (.op (.ld1 r4))),
 q 0 (.g .h1 .h2 false d25 (.op (.bin .lt r19 r24))),
 q 0 (o d26 (.pick r18 (.c (.bool true)) r25))]) (.shal k204_2 .skip))) (.shal k204_3 .skip)))
def f204 : AF := .mk x204 []
def k205_0 : KF := K2 y0 y1 fun c i x h a b=>
 B 223 a h fun d h=>
 B 223 b h fun e h=>
 M 2 d h fun f h=>
 M 2 e h fun g h=>
 C c 264 [f,g] h fun j h=>
 Y j i0 h fun k h=>
 .ret (T12 k) h
def x205 : AC := (.shal k205_0 .skip)
def f205 : AF := .mk x205 [.t .h0 .h4]
def k206_2 : KF := K2 y0 y1 fun c i x h a b=>
 I b (J a h fun d h=>
 A 2 d h fun e h=>
 L e h fun f h=>
 C c 266 [f] h fun g h=>
 .ret (T146 (.bool true)) h) (.ret (T146 (.bool true)) h)
def k206_1 : KF := K3 y0 y1 y9 fun c i x h a b d=>
 J a h fun e h=>
 A 2 e h fun f h=>
 L f h fun g h=>
 C c 265 [g,d] h fun j h=>
 tR (b_ne j i0 h) fun k h=>
 I k (.ret (T146 (.bool false)) h) (J a h fun l h=>
 A 5 l h fun m h=>
 L m h fun n h=>
 G d h fun o h=>
 D n o h fun p h=>
 J a h fun q h=>
 A 5 q h fun s h=>
 W s p h fun t h=>
 x (T25 a b) h)
def k206_0 : KF := K4 y0 y1 y2 y3 fun c i x h a b d e=>
 C c 154 [d,e] h fun f h=>
 J a h fun g h=>
 A 5 g h fun j h=>
 L j h fun k h=>
 G f h fun l h=>
 D k l h fun m h=>
 tR (b_gt m (pi 2097152) h) fun n h=>
 I n (C c 108 [a] h fun o h=>
 x (T161 a b f) h) (x (T161 a b f) h)
def x206 : AC := (.shal k206_0 (.shal k206_1 (.shal k206_2 .skip)))
def f206 : AF := .mk x206 [.t .h0 .h8]
def k207_0 : KF := K4 y0 y1 y2 y3 fun c i x h a b d e=>
 L b h fun f h=>
 C c 57 [a,f] h fun g h=>
 L d h fun j h=>
 Q j (pi 4) h fun k h=>
 I k (L e h fun l h=>
 C c 160 [a,l] h fun m h=>
 .nm T36 h) (.nm T36 h)
def x207 : AC := (.shal k207_0 .skip)
def f207 : AF := .mk x207 []
def k210_2 : KF := K2 y4 y7 fun c i x h a b=>
 M 6 b h fun d h=>
 S 6 a d h fun e h=>
 .ret (T28 a (.bool true)) h
def k210_1 : KF := K3 y0 y4 y6 fun c i x h a b d=>
 J a h fun e h=>
 A 17 e h fun f h=>
 L f h fun g h=>
 X 6 g d h fun j h=>
 M 6 j h fun k h=>
 O 221 6 (.k1 (Y6 i0 i0 i0 (.bool false) iS i0)) h fun l h=>
 S 6 l k h fun m h=>
 J a h fun n h=>
 A 17 n h fun o h=>
 L o h fun p h=>
 C c 270 [p] h fun q h=>
 D d i1 h fun s h=>
 C c 269 [q,d,s] h fun t h=>
 J a h fun v h=>
 A 17 v h fun w h=>
 W w t h fun y h=>
 x (T164 b l) h
def k210_0 : KF := K2 y0 y1 fun c i x h a b=>
 B 219 b h fun d h=>
 O 221 6 (.k1 (Y6 i0 i0 i0 (.bool false) iS i0)) h fun e h=>
 J a h fun f h=>
 A 17 f h fun g h=>
 L g h fun j h=>
 C c 267 [j,(.fn 268 [d])] h fun k h=>
 Y k i0 h fun l h=>
 I l (U [i0,i0,i0,(.bool false),iS,i0] [] h fun m h=>
 S 6 e m h fun n h=>
 .ret (T28 e (.bool false)) h) (x (T163 a e k) h)
def x210 : AC := (.shal k210_0 (.shal k210_1 (.shal k210_2 .skip)))
def f210 : AF := .mk x210 [.agg 6 .h0 .h4,.t .h0 .h5]
def k211_0 : KF := K1 y0 fun c i x h a=>
 O 219 3 (.k1 (Y3 i0 i0 i0)) h fun b h=>
 C c 116 [a] h fun d h=>
 U [i0,i0,i0] [.mk 0 1 (.c d)] h fun e h=>
 O 219 3 (.k1 (Y3 i0 i0 i0)) h fun f h=>
 S 3 f e h fun g h=>
 C c 116 [a] h fun j h=>
 A 1 f h fun k h=>
 W k j h fun l h=>
 C c 116 [a] h fun m h=>
 A 2 f h fun n h=>
 W n m h fun o h=>
 M 3 f h fun p h=>
 S 3 b p h fun q h=>
 .ret (T24 b) h
def x211 : AC := (.shal k211_0 .skip)
def f211 : AF := .mk x211 [.agg 3 .h0 .h2]
def k212_2 : KF := K4 y1 y3 y11 y13 fun c i x h a b d e=>
 I e (tR (o_ent (.c d) .nil h) fun f h=>
 E 0 f h fun g h=>
 tR (mup (.one .i) b g i1 h) fun j h=>
 .nm (T165 a b d) h) (.ex 0 (T165 a b d) h)
def k212_1 : KF := K2 y1 y3 fun c i x h a b=>
 L a h fun d h=>
 J d h fun e h=>
 A 7 e h fun f h=>
 L f h fun g h=>
 tR (o_rngm (.c g) .nil h) fun j h=>
 x (T165 a b j) h
def k212_4 : KF := K4 y1 y3 y22 y24 fun c i x h a b d e=>
 I e (tR (o_ent (.c d) .nil h) fun f h=>
 E 0 f h fun g h=>
 tR (mup (.one .i) b g i1 h) fun j h=>
 .nm (T166 a b d) h) (.ex 2 (T166 a b d) h)
def k212_3 : KF := K2 y1 y3 fun c i x h a b=>
 L a h fun d h=>
 J d h fun e h=>
 A 8 e h fun f h=>
 L f h fun g h=>
 tR (o_rngm (.c g) .nil h) fun j h=>
 x (T166 a b j) h
def k212_5 : KF := K2 y1 y3 fun c i x h a b=>
 C c 273 [b] h fun d h=>
 C c 272 [d] h fun e h=>
 C c 271 [e,(.fn 274 [a])] h fun f h=>
 .ret (T24 f) h
def k212_0 : KF := K1 y0 fun c i x h a=>
 B 125 a h fun b h=>
 tR (mkm h) fun d h=>
 x (T56 b d) h
def x212 : AC := (.shal k212_0 (.seq (.shal k212_1 (.block 0 (.loop (.seq (.ops [.o d12 (.nxt false r11),
 oe d13 0 r12]) (.shal k212_2 .skip))))) (.seq (.shal k212_3 (.block 2 (.loop (.seq (.ops [.o d23 (.nxt false r22),
 oe d24 0 r23]) (.shal k212_4 .skip))))) (.shal k212_5 .skip))))
def f212 : AF := .mkj x212 [.t .h0 .h2]
def k213_0 : KF := K4 y0 y1 y2 y3 fun c i x h a b d e=>
 B 223 b h fun f h=>
 B 3 d h fun g h=>
 B 9 e h fun j h=>
 C c 138 [a,(pi 3),(.fn 275 [f,g,j])] h fun k h=>
 .nm T36 h
def x213 : AC := (.shal k213_0 .skip)
def f213 : AF := .mk x213 []
def k216_4 : KF := K5 y0 y5 y6 y7 y50 fun c i x h a b d e f=>
 I f (.ret (T24 (.bool false)) h) (.nm (T115 a b d e) h)
def k216_3 : KF := K4 y0 y5 y6 y7 fun c i x h a b d e=>
 X 2 b e h fun f h=>
 M 2 f h fun g h=>
 O 205 2 (.k1 (Y2 .nils (.cplx .f64 0 0))) h fun j h=>
 S 2 j g h fun k h=>
 x (T167 a e j b d e) h
def k216_5 : KF := K4 y0 y5 y6 y7 fun c i x h a b d e=>
 D e i1 h fun f h=>
 .nm (T115 a b d f) h
def k216_2 : KF := K4 y0 y5 y6 y7 fun c i x h a b d e=>
 Y e d h fun f h=>
 I f (x (T115 a b d e) h) (.ex 0 T36 h)
def k216_1 : KF := K1 y0 fun c i x h a=>
 G a h fun b h=>
 x (T115 a a b i0) h
def k216_6 : KF := fun c i x r h=>
 .ret (T24 (.bool true)) h
def k216_0 : KF := K1 y0 fun c i x h a=>
 x (T1 a) h
def x216 : AC := (.shal k216_0 (.seq (.shal k216_1 (.block 0 (.loop (.shal k216_2 (.seq (.block 1 (.shal k216_3 (.seq (.drw [qf 0 d12 0 r4,
 ql 0 d13 r12,
 w (oc d14 280 [r13]),
 q 0 (o d15 (.un .not r14)),
 q 0 (m d16 r15),
 q 0 (.g .h1 .h0 false d17 (.op (.fad 1 r4))),
 q 0 (.g .h1 .h0 false d18 (.op (.ld1 r17))),
 w (.g .h1 .h0 false d19 (.call 281 [r18])),
 q 0 (.g .h1 .h0 false d20 (.op (.un .not r19))),
 q 0 (o d21 (.pick r16 (.c (.bool true)) r20)),
 q 0 (m d22 r21),
 q 0 (.g .h1 .h6 false d23 (.op (.fad 1 r4))),
 q 0 (.g .h1 .h6 false d24 (.op (.ld1 r23))),
 q 0 (.g .h1 .h6 false d25 (.op (.bin (.cop .eql) r24 (.c (.cplx .f64 0 0))))),
 q 0 (o d26 (.pick r22 (.c (.bool true)) r25)),
 q 0 (m d27 r26),
 q 0 (.g .h1 .hb false d28 (.op (.fad 1 r4))),
 q 0 (.g .h1 .hb false d29 (.op (.ld1 r28))),
 w (.g .h1 .hb false d30 (.call 282 [r29])),
 q 1 (.g .h1 .hb false d31 (.op (.fad 1 r4))),
 q 1 (.g .h1 .hb false d32 (.op (.ld1 r31))),
 q 0 (.g .h1 .hb false d33 (.op (.bin (.cop .neq) r30 r32))),
 q 0 (o d34 (.pick r27 (.c (.bool true)) r33)),
 q 0 (m d35 r34),
 q 0 (.g .h2 .h3 false d36 (.op (.mv r3))),
 q 0 (.g .h2 .h3 false d37 (.op (.bin .gt r36 a0))),
 q 0 (.g .h2 .h3 false d38 (.op (.mv r37))),
 q 0 (.g .h2 .h6 true d39 (.op (.mv r0))),
 q 0 (.g .h2 .h6 true d40 (.op (.mv r3))),
 q 0 (.g .h2 .h6 true d41 (.op (.bin .sub r40 a1))),
 q 0 (.g .h2 .h6 true d42 (.op (.ixs 2 r39 r41))),
 q 0 (.g .h2 .h6 true d43 (.op (.fad 0 r42))),
 q 0 (.g .h2 .h6 true d44 (.op (.ld1 r43))),
 q 0 (.g .h2 .h6 true d45 (.op (.fad 0 r4))),
 q 0 (.g .h2 .h6 true d46 (.op (.ld1 r45))),
 w (.g .h2 .h6 true d47 (.call 283 [r44,r46])),
 q 0 (.g .h2 .h6 true d48 (.op (.un .not r47))),
 q 0 (.g .h2 .h3 false d49 (.op (.pick r38 r48 (.c (.bool false))))),
 q 0 (o d50 (.pick r35 (.c (.bool true)) r49))]) (.shal k216_4 .skip)))) (.shal k216_5 .skip)))))) (.shal k216_6 .skip)))
def f216 : AF := .mk x216 [.t .h0 .h2]
def k219_2 : KF := K4 y0 y1 y12 y13 fun c i x h a b d e=>
 Y e d h fun f h=>
 I f (tQ (iX 1 a e h) fun g=>
 tQ (lD g h) fun j=>
 tQ (iX 1 b e h) fun k=>
 tQ (lD k h) fun l=>
 tQ (b_ne j l h) fun m=>
 I m (.ret (T12 (.bool false)) h) (D e i1 h fun n h=>
 .nm (T106 a b d n) h)) (.ex 0 (T106 a b d e) h)
def k219_1 : KF := K2 y0 y1 fun c i x h a b=>
 G a h fun d h=>
 x (T106 a b d i0) h
def k219_3 : KF := fun c i x r h=>
 .ret (T12 (.bool true)) h
def k219_0 : KF := K2 y0 y1 fun c i x h a b=>
 G a h fun d h=>
 G b h fun e h=>
 tR (b_ne d e h) fun f h=>
 I f (.ret (T12 (.bool false)) h) (x (T25 a b) h)
def x219 : AC := (.shal k219_0 (.seq (.shal k219_1 (.block 0 (.loop (.shal k219_2 .skip)))) (.shal k219_3 .skip)))
def f219 : AF := .mk x219 [.t .h0 .h4]
def k220_0 : KF := K1 y0 fun c i x h a=>
 C c 286 [a] h fun b h=>
 tR (cK (.toInt .u8) b h) fun d h=>
 tR (bK .shr b (.int .u64 (.ofNat 8)) h) fun e h=>
 tR (cK (.toInt .u8) e h) fun f h=>
 tR (bK .shr b (.int .u64 (.ofNat 16)) h) fun g h=>
 tR (cK (.toInt .u8) g h) fun j h=>
 tR (bK .shr b (.int .u64 (.ofNat 24)) h) fun k h=>
 tR (cK (.toInt .u8) k h) fun l h=>
 tR (bs 5 1 4 [(.int .u8 (.ofNat 0)),(.int .u8 (.ofNat 0)),(.int .u8 (.ofNat 0)),(.int .u8 (.ofNat 0))] [.mk 0 1 (.c d),.mk 1 1 (.c f),.mk 2 1 (.c j),.mk 3 1 (.c l)] h) fun m h=>
 tR (appV 5 1 m a h) fun n h=>
 .ret (T24 n) h
def x220 : AC := (.shal k220_0 .skip)
def f220 : AF := .mk x220 [.t .h0 .h2]
def k221_0 : KF := K2 y0 y1 fun c i x h a b=>
 O 231 4 (.k1 (Y4 i0 i0 i0 iS)) h fun d h=>
 J a h fun e h=>
 A 2 e h fun f h=>
 L f h fun g h=>
 tR (lkp (.one .i) (.agg [i0,i0,i0,iS]) true g b h) fun j h=>
 E 0 j h fun k h=>
 E 1 j h fun l h=>
 O 231 4 (.k1 (Y4 i0 i0 i0 iS)) h fun m h=>
 S 4 m k h fun n h=>
 M 4 m h fun o h=>
 S 4 d o h fun p h=>
 .ret (T28 d l) h
def x221 : AC := (.shal k221_0 .skip)
def f221 : AF := .mk x221 [.agg 4 .h0 .h4,.t .h0 .h5]
def k222_2 : KF := K4 y0 y1 y2 y30 fun c i x h a b d e=>
 I e (.ret (T11 (.bool false)) h) (.nm (T31 a b d) h)
def k222_1 : KF := K3 y0 y1 y2 fun c i x h a b d=>
 J a h fun e h=>
 A 0 e h fun f h=>
 L f h fun g h=>
 tR (lkp (.one .i) iS true g b h) fun j h=>
 E 0 j h fun k h=>
 E 1 j h fun l h=>
 x (T168 a b d l) h
def k222_3 : KF := K3 y0 y1 y2 fun c i x h a b d=>
 J a h fun e h=>
 A 0 e h fun f h=>
 L f h fun g h=>
 tR (mup (.one .i) g b d h) fun j h=>
 .ret (T11 (.bool true)) h
def k222_0 : KF := K3 y0 y1 y2 fun c i x h a b d=>
 x (T31 a b d) h
def x222 : AC := (.shal k222_0 (.seq (.shal k222_1 (.seq (.ops [m d18 r8,
 m d19 r18,
 .g .h1 .h3 false d20 (.op (.mv r1)),
 .g .h1 .h3 false d21 (.op (.mv r0)),
 .g .h1 .h3 false d22 (.op (.nilc r21)),
 .g .h1 .h3 false d23 (.op (.fad 1 r22)),
 .g .h1 .h3 false d24 (.op (.ld1 r23)),
 .g .h1 .h3 false d25 (.op (.bin .lt r20 r24)),
 o d26 (.pick r19 (.c (.bool true)) r25),
 m d27 r26,
 .g .h1 .hb false d28 (.op (.mv r1)),
 .g .h1 .hb false d29 (.op (.bin .ge r28 (.c (pi 1048576)))),
 o d30 (.pick r27 (.c (.bool true)) r29)]) (.shal k222_2 .skip))) (.shal k222_3 .skip)))
def f222 : AF := .mk x222 [.t .h0 .h6]
def k224_0 : KF := K1 y0 fun c i x h a=>
 C c 56 [] h fun b h=>
 C c 220 [a] h fun d h=>
 G d h fun e h=>
 C c 57 [b,e] h fun f h=>
 C c 58 [b] h fun g h=>
 tR (appV 5 1 g d h) fun j h=>
 .ret (T24 j) h
def x224 : AC := (.shal k224_0 .skip)
def f224 : AF := .mk x224 [.t .h0 .h2]
def k228_0 : KF := K2 y0 y1 fun c i x h a b=>
 B 219 b h fun d h=>
 A 0 d h fun e h=>
 L e h fun f h=>
 C c 57 [a,f] h fun g h=>
 A 1 d h fun j h=>
 L j h fun k h=>
 C c 57 [a,k] h fun l h=>
 A 2 d h fun m h=>
 L m h fun n h=>
 C c 57 [a,n] h fun o h=>
 .nm T36 h
def x228 : AC := (.shal k228_0 .skip)
def f228 : AF := .mk x228 []
def k230_0 : KF := K1 y0 fun c i x h a=>
 O 219 3 (.k1 (Y3 i0 i0 i0)) h fun b h=>
 tR (cK (.s2b 5) a h) fun d h=>
 C c 107 [d] h fun e h=>
 C c 211 [e] h fun f h=>
 O 219 3 (.k1 (Y3 i0 i0 i0)) h fun g h=>
 S 3 g f h fun j h=>
 C c 124 [e] h fun k h=>
 Q k i1 h fun l h=>
 x (T169 a b e g l) h
def x230 : AC := (.shal k230_0 (.seq (.drw [q 0 (m d21 r5),
 w (oc d22 290 [r21]),
 q 1 (o d16 (.ldn 3 r6)),
 w (o .no (.stn 3 r2 r16)),
 q 2 (m d17 r7),
 q 2 (m d18 r0),
 q 2 (m d19 r0),
 q 2 (o d20 (.lent r19)),
 q 1 (o d23 (.bin .sub r20 r22)),
 q 1 (o d24 (.slcs r18 (.some r23) .none)),
 q 0 (m d3 r17),
 q 0 (m d4 r24)]) .ret))
def f230 : AF := .mk x230 [.agg 3 .h0 .h2,.t .h0 .h3,.t .h0 .h4]
def k232_2 : KF := K2 y0 y2 fun c i x h a b=>
 tR (b_ge a (.int .u64 (.ofNat 256)) h) fun d h=>
 I d (tR (bK .shr a (.int .u64 (.ofNat 8)) h) fun e h=>
 D b (pi 8) h fun f h=>
 tR (cK (.toInt .u8) e h) fun g h=>
 tR (o_idxs (.c (.str [0,1,2,2,3,3,3,3,4,4,4,4,4,4,4,4,5,5,5,5,5,5,5,5,5,5,5,5,5,5,5,5,6,6,6,6,6,6,6,6,6,6,6,6,6,6,6,6,6,6,6,6,6,6,6,6,6,6,6,6,6,6,6,6,7,7,7,7,7,7,7,7,7,7,7,7,7,7,7,7,7,7,7,7,7,7,7,7,7,7,7,7,7,7,7,7,7,7,7,7,7,7,7,7,7,7,7,7,7,7,7,7,7,7,7,7,7,7,7,7,7,7,7,7,7,7,7,7,8,8,8,8,8,8,8,8,8,8,8,8,8,8,8,8,8,8,8,8,8,8,8,8,8,8,8,8,8,8,8,8,8,8,8,8,8,8,8,8,8,8,8,8,8,8,8,8,8,8,8,8,8,8,8,8,8,8,8,8,8,8,8,8,8,8,8,8,8,8,8,8,8,8,8,8,8,8,8,8,8,8,8,8,8,8,8,8,8,8,8,8,8,8,8,8,8,8,8,8,8,8,8,8,8,8,8,8,8,8,8,8,8,8,8,8,8,8,8,8,8,8,8,8,8,8,8,8])) (.c g) .nil h) fun j h=>
 tR (cK (.toInt .i64) j h) fun k h=>
 D f k h fun l h=>
 x (T24 l) h) (tR (cK (.toInt .u8) a h) fun e h=>
 tR (o_idxs (.c (.str [0,1,2,2,3,3,3,3,4,4,4,4,4,4,4,4,5,5,5,5,5,5,5,5,5,5,5,5,5,5,5,5,6,6,6,6,6,6,6,6,6,6,6,6,6,6,6,6,6,6,6,6,6,6,6,6,6,6,6,6,6,6,6,6,7,7,7,7,7,7,7,7,7,7,7,7,7,7,7,7,7,7,7,7,7,7,7,7,7,7,7,7,7,7,7,7,7,7,7,7,7,7,7,7,7,7,7,7,7,7,7,7,7,7,7,7,7,7,7,7,7,7,7,7,7,7,7,7,8,8,8,8,8,8,8,8,8,8,8,8,8,8,8,8,8,8,8,8,8,8,8,8,8,8,8,8,8,8,8,8,8,8,8,8,8,8,8,8,8,8,8,8,8,8,8,8,8,8,8,8,8,8,8,8,8,8,8,8,8,8,8,8,8,8,8,8,8,8,8,8,8,8,8,8,8,8,8,8,8,8,8,8,8,8,8,8,8,8,8,8,8,8,8,8,8,8,8,8,8,8,8,8,8,8,8,8,8,8,8,8,8,8,8,8,8,8,8,8,8,8,8,8,8,8,8,8])) (.c e) .nil h) fun f h=>
 tR (cK (.toInt .i64) f h) fun g h=>
 D b g h fun j h=>
 x (T24 j) h)
def k232_1 : KF := K2 y0 y2 fun c i x h a b=>
 tR (b_ge a (.int .u64 (.ofNat 65536)) h) fun d h=>
 I d (tR (bK .shr a (.int .u64 (.ofNat 16)) h) fun e h=>
 D b (pi 16) h fun f h=>
 x (T122 e f) h) (x (T122 a b) h)
def k232_0 : KF := K1 y0 fun c i x h a=>
 tR (b_ge a (.int .u64 (.ofNat 4294967296)) h) fun b h=>
 I b (tR (bK .shr a (.int .u64 (.ofNat 32)) h) fun d h=>
 x (T122 d (pi 32)) h) (x (T122 a i0) h)
def x232 : AC := (.shal k232_0 (.shal k232_1 (.shal k232_2 .ret)))
def f232 : AF := .mk x232 [.t .h0 .h2]
def k236_3 : KF := K2 y0 y1 fun c i x h a b=>
 tQ (nC a h) fun d=>
 tQ (fA 0 d h) fun e=>
 tQ (lD e h) fun f=>
 tQ (nC a h) fun g=>
 tQ (fA 1 g h) fun j=>
 tQ (lD j h) fun k=>
 tQ (b_sub k b h) fun l=>
 tQ (nC a h) fun m=>
 tQ (fA 1 m h) fun n=>
 tQ (lD n h) fun o=>
 tQ (o_slc 1 (.c f) (.some (.c l)) (.some (.c o)) .none .nil h) fun p=>
 .ret (T12 p) h
def k236_2 : KF := K2 y0 y1 fun c i x h a b=>
 J a h fun d h=>
 A 1 d h fun e h=>
 L e h fun f h=>
 D f b h fun g h=>
 J a h fun j h=>
 A 1 j h fun k h=>
 W k g h fun l h=>
 x (T25 a b) h
def k236_1 : KF := K2 y0 y1 fun c i x h a b=>
 tQ (nC a h) fun d=>
 tQ (fA 0 d h) fun e=>
 tQ (lD e h) fun f=>
 tQ (len f h) fun g=>
 tQ (nC a h) fun j=>
 tQ (fA 1 j h) fun k=>
 tQ (lD k h) fun l=>
 tQ (b_sub g l h) fun m=>
 tQ (b_gt b m h) fun n=>
 I n (J a h fun o h=>
 A 0 o h fun p h=>
 L p h fun q h=>
 G q h fun s h=>
 C c 248 [a,(pi 10),s] h fun t h=>
 .ret (T12 .nils) h) (x (T25 a b) h)
def k236_0 : KF := K2 y0 y1 fun c i x h a b=>
 J a h fun d h=>
 A 2 d h fun e h=>
 L e h fun f h=>
 tR (b_ne f i0 h) fun g h=>
 I g (.ret (T12 .nils) h) (x (T25 a b) h)
def x236 : AC := (.shal k236_0 (.shal k236_1 (.shal k236_2 (.shal k236_3 .skip))))
def f236 : AF := .mk x236 [.t .h0 .h4]
def k237_1 : KF := K5 y0 y1 y2 y7 y24 fun c i x h a b d e f=>
 I f (.nm (T93 a b d (pi 13)) h) (.nm (T93 a b d e) h)
def k237_3 : KF := K1 y0 fun c i x h a=>
 J a h fun b h=>
 A 0 b h fun d h=>
 L d h fun e h=>
 C c 295 [e,(.fn 296 [])] h fun f h=>
 .ret (T11 i0) h
def k237_2 : KF := K4 y0 y1 y2 y7 fun c i x h a b d e=>
 tR (b_ne e i0 h) fun f h=>
 I f (.ret (T11 e) h) (x (T31 a b d) h)
def k237_0 : KF := K3 y0 y1 y2 fun c i x h a b d=>
 C c 293 [a,b] h fun e h=>
 Q e i0 h fun f h=>
 I f (C c 294 [d] h fun g h=>
 x (T93 a b d g) h) (x (T93 a b d e) h)
def x237 : AC := (.shal k237_0 (.seq (.seq (.ops [m d15 r7,
 o d16 (.bin .eq r15 a0),
 m d17 r16,
 .g .h1 .h1 true d18 (.op (.mv r0)),
 .g .h1 .h1 true d19 (.op (.nilc r18)),
 .g .h1 .h1 true d20 (.op (.fad 0 r19)),
 .g .h1 .h1 true d21 (.op (.ld1 r20)),
 .g .h1 .h1 true d22 (.op (.len r21)),
 .g .h1 .h1 true d23 (.op (.bin .ge r22 (.c (pi 6)))),
 o d24 (.pick r17 r23 (.c (.bool false)))]) (.shal k237_1 .skip)) (.shal k237_2 (.seq (.drw [q 0 (m d34 r2),
 w (oc d35 72 [r34]),
 q 1 (m d33 r1),
 q 0 (o d36 (.build [iS,.nils] [.mk 0 1 r33,.mk 1 1 r35])),
 w (o d37 (.bslice 240 2 1 [iS,.nils] [.mk 0 2 r36])),
 q 2 (m d29 r0),
 qj 2 d30 r29,
 qf 2 d31 0 r30,
 ql 2 d32 r31,
 w (o d38 (.app 240 2 r32 r37)),
 q 3 (m d28 r0),
 qj 0 d39 r28,
 qf 0 d40 0 r39,
 w (os r40 r38)]) (.shal k237_3 .skip)))))
def f237 : AF := .mk x237 [.t .h0 .h6]
def k238_4 : KF := K1 y0 fun c i x h a=>
 J a h fun b h=>
 A 1 b h fun d h=>
 L d h fun e h=>
 C c 300 [e,(.fn 301 [])] h fun f h=>
 .ret (T170 i0 i0 iS) h
def k238_3 : KF := K6 y0 y1 y10 y11 y13 y14 fun c i x h a b d e f g=>
 tR (b_ne e i0 h) fun j h=>
 I j (.ret (T170 e i0 g) h) (J a h fun k h=>
 A 1 k h fun l h=>
 L l h fun m h=>
 G m h fun n h=>
 tR (b_ge n (pi 6) h) fun o h=>
 I o (.ret (T170 (pi 13) i0 iS) h) (x (T173 a b d f) h))
def k238_2 : KF := K3 y0 y1 y10 fun c i x h a b d=>
 tQ (ldn 8 d h) fun e=>
 tQ (nC a h) fun f=>
 tQ (fA 0 f h) fun g=>
 tQ (lD g h) fun j=>
 tX (c 298 [e,j] h) fun k h=>
 tQ (ext 0 k h) fun l=>
 tQ (ext 1 k h) fun m=>
 tQ (ext 2 k h) fun n=>
 x (T172 a b d m l n) h
def k238_1 : KF := K3 y0 y1 y2 fun c i x h a b d=>
 C c 244 [d] h fun e h=>
 E 0 e h fun f h=>
 E 1 e h fun g h=>
 E 2 e h fun j h=>
 O 245 8 (.k1 (Y8 i0 iS .nils .nils .nils .nils .nils .nils)) h fun k h=>
 S 8 k f h fun l h=>
 tR (b_ne g i0 h) fun m h=>
 I m (.ret (T170 g j iS) h) (x (T171 a b k) h)
def k238_0 : KF := K3 y0 y1 y2 fun c i x h a b d=>
 C c 293 [a,b] h fun e h=>
 tR (b_ne e i0 h) fun f h=>
 I f (.ret (T170 e i0 iS) h) (x (T31 a b d) h)
def x238 : AC := (.shal k238_0 (.shal k238_1 (.shal k238_2 (.shal k238_3 (.seq (.drw [q 0 (o d59 (.ldn 8 r10)),
 w (oc d60 299 [r59]),
 q 1 (m d58 r1),
 q 1 (o d61 (.ldn 8 r10)),
 q 1 (m d62 r13),
 q 0 (o d63 (.build [iS,iS,i0,iS,.nils,.nils,.nils,.nils,.nils,.nils,.nils] [.mk 0 1 r58,.mk 1 1 r60,.mk 2 8 r61,.mk 10 1 r62])),
 w (o d64 (.bslice 247 11 1 [iS,iS,i0,iS,.nils,.nils,.nils,.nils,.nils,.nils,.nils] [.mk 0 11 r63])),
 q 2 (m d54 r0),
 qj 2 d55 r54,
 qf 2 d56 1 r55,
 ql 2 d57 r56,
 w (o d65 (.app 247 11 r57 r64)),
 q 3 (m d53 r0),
 qj 0 d66 r53,
 qf 0 d67 1 r66,
 w (os r67 r65)]) (.shal k238_4 .skip))))))
def f238 : AF := .mk x238 [.t .h0 .h6,.t .h0 .h7,.t .h0 .h8]
def k240_3 : KF := K4 y3 y9 y10 y11 fun c i x h a b d e=>
 X 2 b e h fun f h=>
 M 2 f h fun g h=>
 O 240 2 (.k1 (Y2 iS .nils)) h fun j h=>
 S 2 j g h fun k h=>
 x (T175 a j b d e) h
def k240_4 : KF := K4 y3 y9 y10 y11 fun c i x h a b d e=>
 D e i1 h fun f h=>
 .nm (T174 a b d f) h
def k240_2 : KF := K4 y3 y9 y10 y11 fun c i x h a b d e=>
 Y e d h fun f h=>
 I f (x (T174 a b d e) h) (.ex 0 (T59 a) h)
def k240_1 : KF := K2 y0 y3 fun c i x h a b=>
 J a h fun d h=>
 A 0 d h fun e h=>
 L e h fun f h=>
 G f h fun g h=>
 x (T174 b f g i0) h
def k240_5 : KF := K1 y3 fun c i x h a=>
 .ret (T24 a) h
def k240_0 : KF := K1 y0 fun c i x h a=>
 x (T13 a .nils) h
def x240 : AC := (.shal k240_0 (.seq (.shal k240_1 (.block 0 (.loop (.shal k240_2 (.seq (.block 1 (.shal k240_3 (.drw [qf 0 d18 1 r5,
 ql 0 d19 r18,
 w (oc d20 72 [r19]),
 qf 1 d16 0 r5,
 ql 1 d17 r16,
 q 0 (o d21 (.build [iS,.nils] [.mk 0 1 r17,.mk 1 1 r20])),
 w (o d22 (.bslice 240 2 1 [iS,.nils] [.mk 0 2 r21])),
 q 2 (m d15 r3),
 w (o d23 (.app 240 2 r15 r22)),
 q 0 (m d3 r23)]))) (.shal k240_4 .skip)))))) (.shal k240_5 .skip)))
def f240 : AF := .mk x240 [.t .h0 .h2]
def k244_2 : KF := K4 y2 y8 y9 y37 fun c i x h a b d e=>
 I e (C c 314 [b,(pi 3),i0] h fun f h=>
 .nm (T87 a b d) h) (.nm (T87 a b d) h)
def k244_3 : KF := K3 y2 y8 y9 fun c i x h a b d=>
 J b h fun e h=>
 A 0 e h fun f h=>
 L f h fun g h=>
 tR (b_ne g i0 h) fun j h=>
 x (T177 a b d j) h
def k244_4 : KF := K2 y2 y9 fun c i x h a b=>
 M 8 b h fun d h=>
 S 8 a d h fun e h=>
 .ret (T176 a i0 i0) h
def k244_1 : KF := K2 y2 y5 fun c i x h a b=>
 U [i0,i0] [] h fun d h=>
 B 423 d h fun e h=>
 M 5 b h fun f h=>
 C c 311 [e,f] h fun g h=>
 O 245 8 (.k1 (Y8 i0 iS .nils .nils .nils .nils .nils .nils)) h fun j h=>
 S 8 j g h fun k h=>
 x (T87 a e j) h
def k244_0 : KF := K1 y0 fun c i x h a=>
 O 245 8 (.k1 (Y8 i0 iS .nils .nils .nils .nils .nils .nils)) h fun b h=>
 C c 310 [a] h fun d h=>
 E 0 d h fun e h=>
 E 1 d h fun f h=>
 E 2 d h fun g h=>
 O 418 5 (.k1 (Y5 i0 iS i0 .nils i0)) h fun j h=>
 S 5 j e h fun k h=>
 tR (b_ne f i0 h) fun l h=>
 I l (U [i0,iS,.nils,.nils,.nils,.nils,.nils,.nils] [] h fun m h=>
 S 8 b m h fun n h=>
 .ret (T176 b f g) h) (x (T120 b j) h)
def x244 : AC := (.shal k244_0 (.shal k244_1 (.seq (.seq (.ops [m d26 r8,
 oj d27 r26,
 of d28 0 r27,
 ol d29 r28,
 o d30 (.bin .eq r29 a0),
 m d31 r30,
 .g .h1 .hf true d32 (.op (.ldn 8 r9)),
 .g .h1 .hf true d33 (.call 313 [r32]),
 .g .h1 .hf true d34 (.call 312 [r33]),
 .g .h1 .hf true d35 (.op (.lent r34)),
 .g .h1 .hf true d36 (.op (.bin .gt r35 (.c (pi 600)))),
 o d37 (.pick r31 r36 (.c (.bool false)))]) (.shal k244_2 .skip)) (.seq (.shal k244_3 (.cond r44 (.seq (.drw [q 0 (o d45 (.build [i0,iS,.nils,.nils,.nils,.nils,.nils,.nils] [])),
 w (o .no (.stn 8 r2 r45)),
 q 1 (m d46 r8),
 qj 1 d47 r46,
 qf 1 d48 0 r47,
 ql 1 d49 r48,
 q 1 (m d50 r8),
 qj 1 d51 r50,
 qf 1 d52 1 r51,
 ql 1 d53 r52,
 q 0 (m d3 r49),
 q 0 (m d4 r53)]) .ret) .skip)) (.shal k244_4 .skip)))))
def f244 : AF := .mk x244 [.agg 8 .h0 .h2,.t .h0 .h3,.t .h0 .h4]
def k245_4 : KF := K5 y2 y9 y28 y29 y30 fun c i x h a b d e f=>
 X 2 d f h fun g h=>
 M 2 g h fun j h=>
 O 240 2 (.k1 (Y2 iS .nils)) h fun k h=>
 S 2 k j h fun l h=>
 x (T181 a b k d e f) h
def k245_5 : KF := K5 y2 y9 y28 y29 y30 fun c i x h a b d e f=>
 D f i1 h fun g h=>
 .nm (T179 a b d e g) h
def k245_3 : KF := K5 y2 y9 y28 y29 y30 fun c i x h a b d e f=>
 Y f e h fun g h=>
 I g (x (T179 a b d e f) h) (.ex 0 (T180 b) h)
def k245_2 : KF := K3 y1 y2 y9 fun c i x h a b d=>
 G a h fun e h=>
 x (T179 b d a e i0) h
def k245_6 : KF := K1 y9 fun c i x h a=>
 .ret (T28 a i0) h
def k245_1 : KF := K2 y1 y2 fun c i x h a b=>
 M 8 b h fun d h=>
 C c 315 [d,a] h fun e h=>
 tR (mkm h) fun f h=>
 U [.nilp,.nils,.nilm] [.mk 0 1 (.c e),.mk 2 1 (.c f)] h fun g h=>
 B 265 g h fun j h=>
 x (T178 a b j) h
def k245_0 : KF := K2 y0 y1 fun c i x h a b=>
 B 245 a h fun d h=>
 M 8 d h fun e h=>
 C c 298 [e,b] h fun f h=>
 E 0 f h fun g h=>
 E 1 f h fun j h=>
 E 2 f h fun k h=>
 tR (b_ne j i0 h) fun l h=>
 I l (.ret (T28 .nilp j) h) (x (T33 b d) h)
def x245 : AC := (.shal k245_0 (.shal k245_1 (.seq (.shal k245_2 (.block 0 (.loop (.shal k245_3 (.seq (.block 1 (.shal k245_4 (.seq (.drw [q 0 (o d34 (.ldn 8 r2)),
 w (oc d35 317 [r34]),
 qf 1 d36 0 r11,
 ql 1 d37 r36,
 w (oc d38 316 [r35,r37])]) (.cond r38 (.drw [qf 0 d46 1 r11,
 ql 0 d47 r46,
 w (oc d48 72 [r47]),
 qf 1 d44 0 r11,
 ql 1 d45 r44,
 q 0 (o d49 (.build [iS,.nils] [.mk 0 1 r45,.mk 1 1 r48])),
 w (o d50 (.bslice 240 2 1 [iS,.nils] [.mk 0 2 r49])),
 q 2 (m d40 r9),
 qj 2 d41 r40,
 qf 2 d42 1 r41,
 ql 2 d43 r42,
 w (o d51 (.app 240 2 r43 r50)),
 q 3 (m d39 r9),
 qj 0 d52 r39,
 qf 0 d53 1 r52,
 w (os r53 r51)]) .skip)))) (.shal k245_5 .skip)))))) (.shal k245_6 .skip))))
def f245 : AF := .mk x245 [.t .h0 .h4,.t .h0 .h5]
def k246_2 : KF := K4 y0 y6 y9 y10 fun c i x h a b d e=>
 J a h fun f h=>
 A 0 f h fun g h=>
 W g d h fun j h=>
 J a h fun k h=>
 A 2 k h fun l h=>
 W l b h fun m h=>
 C c 68 [e] h fun n h=>
 .ret (T28 n i0) h
def k246_1 : KF := K3 y0 y6 y7 fun c i x h a b d=>
 J a h fun e h=>
 A 0 e h fun f h=>
 L f h fun g h=>
 C c 319 [g] h fun j h=>
 C c 320 [j,d] h fun k h=>
 E 0 k h fun l h=>
 E 1 k h fun m h=>
 tR (b_ne m i0 h) fun n h=>
 I n (.ret (T28 .nils m) h) (x (T183 a b j l) h)
def k246_0 : KF := K2 y0 y1 fun c i x h a b=>
 C c 318 [a,b] h fun d h=>
 E 0 d h fun e h=>
 E 1 d h fun f h=>
 E 2 d h fun g h=>
 tR (b_ne g i0 h) fun j h=>
 I j (.ret (T28 .nils g) h) (x (T182 a e f) h)
def x246 : AC := (.shal k246_0 (.shal k246_1 (.shal k246_2 .skip)))
def f246 : AF := .mk x246 [.t .h0 .h4,.t .h0 .h5]
def k247_0 : KF := K1 y0 fun c i x h a=>
 C c 173 [a,(pi 2)] h fun b h=>
 tR (cK (.toInt .i64) b h) fun d h=>
 .ret (T24 d) h
def x247 : AC := (.shal k247_0 .skip)
def f247 : AF := .mk x247 [.t .h0 .h2]
def k249_0 : KF := K3 y0 y1 y2 fun c i x h a b d=>
 B 9 b h fun e h=>
 J a h fun f h=>
 A 1 f h fun g h=>
 L g h fun j h=>
 C c 321 [j,(.fn 322 [e])] h fun k h=>
 Y k i0 h fun l h=>
 I l (J a h fun m h=>
 A 1 m h fun n h=>
 L n h fun o h=>
 G o h fun p h=>
 x (T184 a d e p) h) (x (T184 a d e k) h)
def x249 : AC := (.shal k249_0 (.drw [q 0 (m d27 r2),
 w (oc d28 72 [r27]),
 ql 1 d26 r4,
 q 0 (o d29 (.build [iS,.nils,.nils] [.mk 0 1 r26,.mk 1 1 r28])),
 w (o d30 (.bslice 179 3 1 [iS,.nils,.nils] [.mk 0 3 r29])),
 q 2 (m d21 r0),
 qj 2 d22 r21,
 qf 2 d23 1 r22,
 ql 2 d24 r23,
 q 2 (m d25 r6),
 w (oc d31 323 [r24,r25,r30]),
 q 3 (m d20 r0),
 qj 0 d32 r20,
 qf 0 d33 1 r32,
 w (os r33 r31)]))
def f249 : AF := .mk x249 []
def k253_2 : KF := K6 y0 y1 y6 y7 y8 y11 fun c i x h a b d e f g=>
 tR (b_ne f i0 h) fun j h=>
 I j (U [i0,i0,iS] [.mk 0 1 (.c f),.mk 2 1 (.c b)] h fun k h=>
 S 3 d k h fun l h=>
 .ret (T11 d) h) (J a h fun k h=>
 A 2 k h fun l h=>
 L l h fun m h=>
 J a h fun n h=>
 A 0 n h fun o h=>
 W o e h fun p h=>
 tR (o_ment (.one .s) .nilp (.c m) (.c b) .nil h) fun q h=>
 E 1 q h fun s h=>
 tR (o_esto (.c m) (.c s) (.c g) .nil h) fun t h=>
 U [i0,i0,iS] [] h fun v h=>
 S 3 d v h fun w h=>
 x (T11 d) h)
def k253_1 : KF := K8 y0 y1 y2 y6 y7 y8 y9 y10 fun c i x h a b d e f g j k=>
 tR (b_ne g i0 h) fun l h=>
 I l (U [i0,i0,iS] [.mk 0 1 (.c g),.mk 1 1 (.c j),.mk 2 1 (.c k)] h fun m h=>
 S 3 e m h fun n h=>
 .ret (T11 e) h) (C c 180 [a,d] h fun m h=>
 E 0 m h fun n h=>
 E 1 m h fun o h=>
 x (T186 a b e f o n) h)
def k253_0 : KF := K3 y0 y1 y2 fun c i x h a b d=>
 O 52 3 (.k1 (Y3 i0 i0 iS)) h fun e h=>
 J a h fun f h=>
 A 0 f h fun g h=>
 L g h fun j h=>
 C c 327 [j] h fun k h=>
 C c 238 [k,b,d] h fun l h=>
 E 0 l h fun m h=>
 E 1 l h fun n h=>
 E 2 l h fun o h=>
 x (T185 a b d e k m n o) h
def x253 : AC := (.shal k253_0 (.shal k253_1 (.shal k253_2 .ret)))
def f253 : AF := .mk x253 [.agg 3 .h0 .h6]
def k256_0 : KF := K2 y0 y1 fun c i x h a b=>
 M 2 b h fun d h=>
 C c 159 [a,d] h fun e h=>
 .nm T36 h
def x256 : AC := (.shal k256_0 .skip)
def f256 : AF := .mk x256 []
def k258_0 : KF := K2 y0 y1 fun c i x h a b=>
 x (T25 a b) h
def x258 : AC := (.shal k258_0 (.seq (.ops [m d5 r1,
 o d6 (.bin .ge r5 a0),
 m d7 r6,
 .g .h0 .h7 true d8 (.op (.mv r1)),
 .g .h0 .h7 true d9 (.op (.mv r0)),
 .g .h0 .h7 true d10 (.op (.nilc r9)),
 .g .h0 .h7 true d11 (.op (.fad 1 r10)),
 .g .h0 .h7 true d12 (.op (.ld1 r11)),
 .g .h0 .h7 true d13 (.op (.bin .lt r8 r12)),
 o d14 (.pick r7 r13 (.c (.bool false))),
 m d4 r14]) .ret))
def f258 : AF := .mk x258 [.t .h0 .h4]
def k259_0 : KF := K5 y0 y1 y2 y3 y4 fun c i x h a b d e f=>
 M 2 b h fun g h=>
 C c 159 [a,g] h fun j h=>
 L d h fun k h=>
 C c 57 [a,k] h fun l h=>
 L e h fun m h=>
 Q m (pi 2) h fun n h=>
 I n (L f h fun o h=>
 C c 160 [a,o] h fun p h=>
 .nm T36 h) (.nm T36 h)
def x259 : AC := (.shal k259_0 .skip)
def f259 : AF := .mk x259 []
def k260_1 : KF := K5 y0 y2 y3 y5 y27 fun c i x h a b d e f=>
 I f (.ret (T146 (.bool false)) h) (.nm (T187 a b d e) h)
def k260_3 : KF := K2 y0 y2 fun c i x h a b=>
 J a h fun d h=>
 A 3 d h fun e h=>
 L e h fun f h=>
 D b i1 h fun g h=>
 tR (maxV false [f,g] h) fun j h=>
 J a h fun k h=>
 A 3 k h fun l h=>
 W l j h fun m h=>
 .ret (T146 (.bool true)) h
def k260_2 : KF := K4 y0 y2 y3 y5 fun c i x h a b d e=>
 M 2 e h fun f h=>
 J a h fun g h=>
 A 0 g h fun j h=>
 S 2 j f h fun k h=>
 tQ (nC a h) fun l=>
 tQ (fA 2 l h) fun m=>
 tQ (lD m h) fun n=>
 tQ (ldn 2 e h) fun o=>
 tQ (bl [i0,i0,i0,iS] [.mk 0 1 (.c b),.mk 1 2 (.c o),.mk 3 1 (.c d)] h) fun p=>
 tX (RV.toT (mup (.one .i) n b p h)) fun q h=>
 x (T122 a b) h
def k260_0 : KF := K4 y0 y1 y2 y3 fun c i x h a b d e=>
 B 223 b h fun f h=>
 x (T187 a d e f) h
def x260 : AC := (.shal k260_0 (.seq (.seq (.drw [q 0 (o d9 (.ldn 2 r5)),
 q 0 (m d10 r0),
 qj 0 d11 r10,
 qf 0 d12 0 r11,
 q 0 (o d13 (.ldn 2 r12)),
 w (oc d14 205 [r9,r13]),
 q 0 (m d15 r14),
 q 0 (.g .h0 .hf false d16 (.op (.ldn 2 r5))),
 q 0 (.g .h0 .hf false d17 (.op (.build [i0,i0] []))),
 q 0 (.g .h0 .hf false d18 (.op (.bin (.aeq [.i,.i]) r16 r17))),
 q 0 (o d19 (.pick r15 (.c (.bool true)) r18)),
 q 0 (m d20 r19),
 q 0 (.g .h1 .h4 false d21 (.op (.mv r2))),
 q 0 (.g .h1 .h4 false d22 (.op (.bin .lt r21 a0))),
 q 0 (o d23 (.pick r20 (.c (.bool true)) r22)),
 q 0 (m d24 r23),
 q 0 (.g .h1 .h8 false d25 (.op (.mv r2))),
 q 0 (.g .h1 .h8 false d26 (.op (.bin .ge r25 (.c (pi 1048576))))),
 q 0 (o d27 (.pick r24 (.c (.bool true)) r26))]) (.shal k260_1 .skip)) (.shal k260_2 (.shal k260_3 .skip))))
def f260 : AF := .mk x260 [.t .h0 .h8]
def k261_0 : KF := K2 y0 y1 fun c i x h a b=>
 tR (b_mul (pi 2) b h) fun d h=>
 J a h fun e h=>
 A 1 e h fun f h=>
 L f h fun g h=>
 tR (b_gt d g h) fun j h=>
 .ret (T12 j) h
def x261 : AC := (.shal k261_0 .skip)
def f261 : AF := .mk x261 [.t .h0 .h4]
def k262_0 : KF := K1 y0 fun c i x h a=>
 J a h fun b h=>
 A 6 b h fun d h=>
 L d h fun e h=>
 tR (lnm e h) fun f h=>
 C c 261 [a,f] h fun g h=>
 .ret (T24 g) h
def x262 : AC := (.shal k262_0 .skip)
def f262 : AF := .mk x262 [.t .h0 .h2]
def k263_0 : KF := K3 y0 y1 y2 fun c i x h a b d=>
 L b h fun e h=>
 L d h fun f h=>
 U [i0,i0,i0,iS] [.mk 0 1 (.c e),.mk 3 1 (.c f)] h fun g h=>
 tR (bs 231 4 1 [i0,i0,i0,iS] [.mk 0 4 (.c g)] h) fun j h=>
 C c 196 [a,j] h fun k h=>
 .nm T36 h
def x263 : AC := (.shal k263_0 .skip)
def f263 : AF := .mk x263 []
end
end Go.Am.Seat
