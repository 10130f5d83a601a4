/- The program's code in a form that runs fast, written by program. Nothing is asked. -/
import Derived.Test.YtfikinbodiohiaaGreatDoorCode0
set_option linter.all false
namespace Go.Am.Seat
set_option maxRecDepth 20000
noncomputable section
def T0 (a b:AV):A2:=N0 (Y4 a u u b)
def T1 (a b d:AV):A2:=N0 (Y5 a u u b d)
def T2 (a:AV):A2:=N0 (Y3 u u a)
def T3 (a:AV):A2:=N0 (Y5 u u u u a)
def T4 (a:AV):A2:=N0 (Y1 a)
def T5 (a b:AV):A2:=N0 (Y6 u u u u a b)
def T6 (a b:AV):A2:=N0 (Y3 u a b)
def T9 (a:AV):A2:=N0 (Y10 u u u u u u u u u a)
def T11 (a b:AV):A2:=N0 (Y10 u a u u u u u u u b)
def T12 (a b d:AV):A2:=N0 (Y11 u a u u u u u u u b d)
def T13 (a:AV):A2:=N0 (Y4 u u u a)
def T14 (a b d:AV):A2:=N0 (Y8 a u u u u u b d)
def T15 (a b d e:AV):A2:=N0 (Y11 a u u u u u b u u d e)
def T16 (a b:AV):A2:=N0 (Y2 a b)
def T17 (a b d:AV):A2:=N0 (Y7 a b u u u u d)
def T18 (a b d e:AV):A2:=N0 (Y8 a b u u u u d e)
def T19 (a b d e f:AV):A2:=N0 (Y9 a b u u u u d e f)
def T20 (a b d:AV):A2:=N0 (Y10 a b u u u u u u u d)
def T21 (a b d e:AV):A2:=N0 (Y11 a b u u u u u u u d e)
def T22 (a b:AV):A2:=N0 (Y10 a u u u u u u u u b)
def T23 (a b d e f:AV):A2:=N0 (Y12 a b u u u u u u u d e f)
def T24 (a b d e f g:AV):A2:=N0 (Y13 a b u u u u u u u d e f g)
def T25 (a b d:AV):A2:=N0 (Y15 a u u u u u u u u b u u u u d)
def T26 (a b d:AV):A2:=N0 (.mk a u u u u u u u u b u u u u u d)
def T27 (a b d:AV):A2:=N0 (Y6 a b u u u d)
def T28:A2:=.nil
def T29 (a b:AV):A2:=N0 (Y8 u u u u u u a b)
def T34 (a:AV):A2:=N0 (Y9 u u u u u u u u a)
def T35 (a:AV):A2:=N0 (Y2 u a)
def T37 (a b d:AV):A2:=N0 (Y7 u u u u a b d)
def T38 (a:AV):A2:=N0 (Y8 u u u u u u u a)
def T39 (a b d:AV):A2:=N0 (Y6 u a b u u d)
def T48 (a b d:AV):A2:=N0 (Y5 u u a b d)
def T49 (a b:AV):A2:=N0 (Y6 u u a u u b)
def T50 (a b d e:AV):A2:=N0 (Y9 u u a u u u b d e)
def T51 (a b d e:AV):A2:=N0 (Y6 u a b u d e)
def T52 (a b d e f g j:AV):A2:=N1 (Y6 u a b u d e) (Y5 u u f g j)
def T53 (a b d e f g j k l:AV):A2:=N1 (Y10 u a b u d e u u f g) (Y5 u u j k l)
def T54 (a b d e f g j:AV):A2:=N3 (Y6 u a b u d e) .nil (.mk u u u u u u u u u u u u u u f g) (Y1 j)
def T55 (a b d e f g j k l m:AV):A2:=N3 (Y14 u a b u d e u u u u u f g j) .nil (.mk u u u u u u u u u u u u u u k l) (Y1 m)
def T56 (a b d e f g j k l m n o p:AV):A2:=N3 (Y14 u a b u d e u u u u u f g j) .nil (.mk u u u u u u u u u u u u u u k l) (Y14 m u u u u u u u u u u n o p)
def T57 (a b d e f g j k l:AV):A2:=N3 (Y13 u a b u d e u u u u u f g) .nil (.mk u u u u u u u u u u u u u u j k) (Y1 l)
def T58 (a b d e f:AV):A2:=N0 (.mk a u u b u u u u u u u u u d e f)
def T59 (a b d e f g:AV):A2:=N0 (.mk a u u b u d u u u u u u u e f g)
def T60 (a b d:AV):A2:=N2 (Y4 a u u b) .nil (Y11 u u u u u u u u u u d)
def T61 (a b d e f g:AV):A2:=N1 (Y7 a b u u u u d) (Y3 e f g)
def T62 (a b d e:AV):A2:=N0 (Y13 a b u u u u d u u u u u e)
def T63 (a b d e f:AV):A2:=N2 (Y13 a b u u u u d u u u u u e) .nil (Y9 u u u u u u u u f)
def T64 (a b d e f g:AV):A2:=N2 (Y13 a b u u u u d u u u u u e) .nil (Y15 u u u u u u u u f u u u u u g)
def T65 (a b d:AV):A2:=N0 (Y13 a u u u u u u u u u u b d)
def T66 (a b d e f:AV):A2:=N3 (Y13 a u u u u u b u u u u u d) .nil (Y9 u u u u u u u u e) (Y8 u u u u u u u f)
def T67 (a b:AV):A2:=N0 (Y13 u u u u u u u u u u u a b)
def T68 (a b d e:AV):A2:=N0 (Y9 u u u a u u b d e)
def T69 (a b d e f:AV):A2:=N0 (Y7 a u u b d e f)
def T70 (a b d e:AV):A2:=N0 (Y7 a b u u u d e)
def T71 (a b:AV):A2:=N0 (Y7 a u u u u u b)
def T73 (a b:AV):A2:=N0 (Y4 u u a b)
def T75 (a b d e:AV):A2:=N0 (Y6 u a u b d e)
def T76 (a b d e:AV):A2:=N0 (Y7 u a b u u d e)
def T84 (a b:AV):A2:=N0 (Y7 u u u u u a b)
def T85 (a b d e:AV):A2:=N0 (Y9 a b u u u u u d e)
def T88 (a:AV):A2:=N0 (Y6 u u u u u a)
def T89 (a b:AV):A2:=N0 (Y7 u a u u u u b)
def T91 (a:AV):A2:=N0 (Y7 u u u u u u a)
def T103 (a b d e:AV):A2:=N0 (Y7 a u b u u d e)
def T104 (a b d:AV):A2:=N0 (Y6 a u b u u d)
def T105 (a b d e f:AV):A2:=N0 (Y8 a u b u u d e f)
def T106 (a b d e f g:AV):A2:=N0 (Y9 a u b u u d e f g)
def T107 (a b d e f g j:AV):A2:=N2 (Y9 a u b u u d e f g) .nil (Y7 u u u u u u j)
def T108 (a b d e f:AV):A2:=N0 (Y9 a u b u u d e u f)
def T109 (a b d e f g:AV):A2:=N0 (Y11 a u b u u d u u e f g)
def T110 (a b d:AV):A2:=N1 (Y3 u a b) (Y5 u u u u d)
def T111 (a b d e f g j:AV):A2:=N0 (Y10 u a b u u d e f g j)
def T112 (a b d e f g j:AV):A2:=N1 (Y10 u u a u u b d e f g) (Y13 u u u u u u u u u u u u j)
def T113 (a b d e f g j k:AV):A2:=N1 (Y10 u u a u u b d e f g) (Y14 u u u u u u u u u u u u j k)
def T114 (a b d e f:AV):A2:=N0 (Y10 u u a u u b u d e f)
def T115 (a b d e f g j k:AV):A2:=N2 (Y10 u u a u u b d e f g) (Y13 u u u u u u u u u u u u j) (Y10 u u u u u u u u u k)
def T116 (a b d e f g j k:AV):A2:=N3 (Y10 u u a u u b d e f g) (Y13 u u u u u u u u u u u u j) .nil (Y10 u u u u u u u u u k)
def T117 (a b d e f:AV):A2:=N0 (Y9 u u a u u b d e f)
def T118 (a b d e f g:AV):A2:=N0 (Y12 u u a u u b d e f u u g)
def T119 (a b d e:AV):A2:=N0 (Y12 u u a u u b d u u u u e)
def T120 (a b d e f g j k:AV):A2:=N7 (Y10 u u a u u b d e f g) (Y13 u u u u u u u u u u u u j) .nil .nil .nil .nil .nil (Y3 u u k)
def T121 (a b d e f g j k:AV):A2:=N8 (Y10 u u a u u b d e f g) (Y13 u u u u u u u u u u u u j) .nil .nil .nil .nil .nil .nil (Y14 u u u u u u u u u u u u u k)
def T122 (a b d e f g j k:AV):A2:=N9 (Y10 u u a u u b d e f g) (Y13 u u u u u u u u u u u u j) .nil .nil .nil .nil .nil .nil .nil (Y3 u u k)
def T123 (a b d e f g j:AV):A2:=N9 (Y10 u u a u u b d e f g) .nil .nil .nil .nil .nil .nil .nil .nil (Y8 u u u u u u u j)
def T124 (a b d e f g:AV):A2:=N0 (Y15 u u a u u b d e f u u u u u g)
def T125 (a b d e:AV):A2:=N0 (Y15 u u a u u b d u u u u u u u e)
def T126 (a b d e f g:AV):A2:=N1 (Y10 u u a u u b u d e f) (Y1 g)
def T127 (a b d e:AV):A2:=N1 (Y10 u u a u u b u u u d) (Y1 e)
def T128 (a b d e:AV):A2:=N0 (Y9 u u a u u b u d e)
def T129 (a b d:AV):A2:=N1 (Y10 u a u u u u u u u b) (Y1 d)
def T130 (a b:AV):A2:=N0 (Y4 u a u b)
def T131 (a b d:AV):A2:=N1 (Y10 u a u u u u u u u b) (.mk u u u u u u u u u u u u u u u d)
def T132 (a b d:AV):A2:=N0 (Y5 u a u b d)
def T133 (a b d:AV):A2:=N4 (Y10 u a u u u u u u u b) .nil .nil .nil (Y2 u d)
def T134 (a b d:AV):A2:=N4 (Y10 u a u u u u u u u b) .nil .nil .nil (Y13 u u u u u u u u u u u u d)
def T135 (a b d:AV):A2:=N4 (Y10 u a u u u u u u u b) .nil .nil .nil (Y15 u u u u u u u u u u u u u u d)
def T136 (a b:AV):A2:=N5 (Y2 u a) .nil .nil .nil .nil (Y1 b)
def T137 (a b d:AV):A2:=N0 (Y6 u a u b u d)
def T138 (a b d:AV):A2:=N0 (Y8 u a u b u u u d)
def T139 (a b d:AV):A2:=N0 (Y8 u a b u u u u d)
def T140 (a b d e:AV):A2:=N0 (Y9 u a b u u u u d e)
def T141 (a b d e:AV):A2:=N2 (Y8 u a b u u u u d) .nil (Y12 u u u u u u u u u u u e)
def T142 (a b d e f:AV):A2:=N2 (Y8 u a b u u u u d) .nil (Y13 u u u u u u u u u u u e f)
def T143 (a b d:AV):A2:=N0 (Y13 u a b u u u u u u u u u d)
def T144 (a b d e:AV):A2:=N4 (Y8 u u a u u u u b) .nil (Y12 u u u u u u u u u u u d) .nil (Y6 u u u u u e)
def T145 (a b:AV):A2:=N0 (Y14 u u u u u u u a u u u u u b)
def T146 (a b d e:AV):A2:=N5 (Y8 u u a u u u u b) .nil (Y12 u u u u u u u u u u u d) .nil .nil (Y11 u u u u u u u u u u e)
def T147 (a b d e:AV):A2:=N6 (Y8 u u a u u u u b) .nil (Y12 u u u u u u u u u u u d) .nil .nil .nil (Y5 u u u u e)
def T148 (a b d e:AV):A2:=N7 (Y8 u u a u u u u b) .nil (Y12 u u u u u u u u u u u d) .nil .nil .nil .nil (Y2 u e)
def T149 (a b:AV):A2:=N0 (.mk u u u u u u u a u u u u u u u b)
def T150 (a b d e:AV):A2:=N0 (Y8 a u u u u b d e)
def T151 (a b d e f g:AV):A2:=N0 (Y8 a u u b d e f g)
def T152 (a b d e:AV):A2:=N0 (Y15 a u u u u u u u u u u u b d e)
def T153 (a b d e f g:AV):A2:=N0 (Y15 a u u u u b d u u u u u e f g)
def T154 (a b d e:AV):A2:=N0 (Y12 u u u a u u u u u b d e)
def T155 (a b d e f:AV):A2:=N0 (Y12 u u u a u b u u u d e f)
def T156 (a b d e:AV):A2:=N0 (Y9 u a b d u u u u e)
def T159 (a b d e f g:AV):A2:=N1 (Y9 u a u b u u u u d) (Y3 e f g)
def T160 (a b d e f g j k:AV):A2:=N1 (Y12 u a u b u u u u d u e f) (Y3 g j k)
def T161 (a b d e f g j k l m n:AV):A2:=N1 (Y12 u a u b u u u u d u e f) (Y10 g j k u u u u l m n)
def T162 (a b d e:AV):A2:=N0 (Y9 a b d u u u u u e)
def T163 (a b d e f g j:AV):A2:=N0 (Y12 a b d u u u u u e f g j)
def T173 (a b d:AV):A2:=N0 (Y10 a u u u u u b u u d)
def T174 (a b d:AV):A2:=N1 (Y10 a u u u u u u u u b) (.mk u u u u u u u u u u u u u u u d)
def T175 (a b d e f:AV):A2:=N1 (Y12 a u u u u u u u u b d e) (.mk u u u u u u u u u u u u u u u f)
def T176 (a b d e f g j:AV):A2:=N2 (Y13 a u u u u u u u u b d e f) (.mk u u u u u u u u u u u u u u u g) (Y15 u u u u u u u u u u u u u u j)
def T177 (a b d e:AV):A2:=N1 (Y12 a u u u u u u u u b u d) (.mk u u u u u u u u u u u u u u u e)
def T182 (a b d e:AV):A2:=N0 (Y9 u u u u u a b d e)
def T183 (a b:AV):A2:=N0 (Y9 u u u u u u u a b)
def T184 (a b:AV):A2:=N0 (Y5 a u u u b)
def T185 (a b d:AV):A2:=N0 (Y8 a u u u b u u d)
def T186 (a b:AV):A2:=N0 (Y9 a u u u u u u u b)
def T187 (a b d:AV):A2:=N0 (Y10 a u u u u u u u b d)
def T188 (a b d e:AV):A2:=N0 (Y11 a u u u u u u u b d e)
def T189 (a b:AV):A2:=N0 (Y15 u u u u u u u u a u u u u u b)
def T190 (a b d:AV):A2:=N0 (.mk u u u u u u u u a u u u u u b d)
def T191 (a:AV):A2:=N0 (Y15 u u u u u u u u u u u u u u a)
def T192 (a b d e f:AV):A2:=N0 (Y12 u a b u u u u d u u e f)
def T193 (a b d e f g:AV):A2:=N0 (Y13 u a b u u u u d u u e f g)
def T194 (a b d e f g j:AV):A2:=N1 (Y12 u a b u u u u d u u e f) (Y2 g j)
def T195 (a b d e f g j k:AV):A2:=N4 (Y12 u a b u u u u d u u e f) (Y2 g j) .nil .nil (Y2 u k)
def T196 (a b d e f g j k l:AV):A2:=N4 (Y12 u a b u u u u d u u e f) (Y2 g j) .nil .nil (Y3 u k l)
def T197 (a b d e f g:AV):A2:=N1 (Y8 u a b u u u u d) (Y3 e f g)
def T198 (a b d:AV):A2:=N1 (Y8 u u u u u u u a) (Y2 b d)
def T199 (a b d e f g j k:AV):A2:=N5 (Y12 u u a u u u u b u u d e) (Y2 f g) .nil .nil (Y2 u j) (Y8 u u u u u u u k)
def T200 (a b d e f g j:AV):A2:=N1 (Y12 u u a u u u u b u u d e) (Y4 f g u j)
def T201 (a b d e f g:AV):A2:=N1 (Y12 u u a u u u u b u u d e) (Y4 f u u g)
def T202 (a b d e f g j k:AV):A2:=N8 (Y12 u u a u u u u b u u d e) (Y2 f g) .nil .nil (Y2 u j) .nil .nil .nil (Y8 u u u u u u u k)
def T203 (a b d e f g j k:AV):A2:=N9 (Y12 u u a u u u u b u u d e) (Y2 f g) .nil .nil (Y2 u j) .nil .nil .nil .nil (Y3 u u k)
def T204 (a b d e f:AV):A2:=N1 (Y11 u u u u u u u a u u b) (Y7 d e u u u u f)
def T205 (a b d e f g j k:AV):A2:=N10 (Y12 u u a u u u u b u u d e) (Y2 f g) .nil .nil (Y2 u j) .nil .nil .nil .nil .nil (Y8 u u u u u u u k)
def T206 (a b d e f g j:AV):A2:=N11 (Y12 u u a u u u u b u u d e) (Y2 f g) .nil .nil .nil .nil .nil .nil .nil .nil .nil (Y11 u u u u u u u u u u j)
def T207 (a b d e f:AV):A2:=N1 (Y8 u u u u u u u a) (Y11 u u u u u u u b d e f)
def T208 (a b:AV):A2:=N1 (Y8 u u u u u u u a) (Y8 u u u u u u u b)
def T216 (a b d:AV):A2:=N0 (Y4 u a b d)
def T242 (a b:AV):A2:=N0 (Y6 a u u u u b)
def T250 (a b d e f g:AV):A2:=N0 (Y10 a b d e u u u u f g)
def T251 (a b d e f g j:AV):A2:=N0 (Y11 a b d e u u u u f g j)
def T252 (a b d e f g j k l:AV):A2:=N0 (Y13 a b d e u u u u f g j k l)
def T253 (a b d e f g j k:AV):A2:=N0 (Y12 a b d e u u u u f g j k)
def T254 (a b d e f g j k l:AV):A2:=N1 (Y15 a b d e u u u u u f u u u u g) (Y3 j k l)
def T255 (a b d e f g j k l m:AV):A2:=N7 (Y15 a b d e u u u u u f u u u u g) (Y3 j k l) .nil .nil .nil .nil .nil (Y2 u m)
def T256 (a b d:AV):A2:=N0 (Y5 a b u u d)
def T257 (a b d e:AV):A2:=N0 (Y8 u u u u a b d e)
def T258 (a b d e:AV):A2:=N2 (Y5 a b u u d) .nil (Y6 u u u u u e)
def T259 (a b d e:AV):A2:=N0 (Y13 a b u u d u u u u u u u e)
def T260 (a b d e:AV):A2:=N0 (Y15 u a u u b u u u u u u u u d e)
def T261 (a b d:AV):A2:=N0 (Y14 u u u a b u u u u u u u u d)
def T262 (a b d e:AV):A2:=N0 (Y15 u u u a b u u u u u u u u d e)
def T263 (a b d e:AV):A2:=N1 (Y14 u u u a b u u u u u u u u d) (Y10 u u u u u u u u u e)
def T264 (a b d e:AV):A2:=N1 (Y14 u u u a b u u u u u u u u d) (Y15 u u u u u u u u u u u u u u e)
def T265 (a b d e:AV):A2:=N2 (Y14 u u u a b u u u u u u u u d) .nil (Y3 u u e)
def T266 (a b:AV):A2:=N0 (Y5 u u u a b)
def T267 (a b d:AV):A2:=N0 (Y6 u u u a b d)
def T268 (a b d e:AV):A2:=N4 (Y14 u u u a b u u u u u u u u d) .nil .nil .nil (Y7 u u u u u u e)
def T269 (a b d:AV):A2:=N6 (Y5 u u u a b) .nil .nil .nil .nil .nil (Y7 u u u u u u d)
def T270 (a b d:AV):A2:=N0 (Y7 u u u a b u d)
def T271 (a b d e:AV):A2:=N0 (Y8 u u u a b u d e)
def T272 (a b d:AV):A2:=N0 (Y12 u a b u u u u u u u u d)
def T273 (a b d e:AV):A2:=N0 (Y13 u a b u u u u u u u u d e)
def T274 (a b d:AV):A2:=N1 (Y3 u a b) (Y2 u d)
def T275 (a b d:AV):A2:=N0 (Y7 a u u u u b d)
def T276 (a b d e:AV):A2:=N0 (Y9 a u b u u d u u e)
def T277 (a b d:AV):A2:=N0 (Y8 u a u u u u b d)
def T278 (a b d e:AV):A2:=N0 (Y5 u a b d e)
def T279 (a b d:AV):A2:=N0 (Y6 u u a b u d)
def T280 (a b d:AV):A2:=N0 (Y7 u u a b u u d)
def T281 (a b d:AV):A2:=N0 (Y9 u u u u u u a b d)
def T282 (a b d e:AV):A2:=N0 (Y10 u a b d u u u u u e)
def T283 (a b d e f:AV):A2:=N0 (Y11 u a b d u u u u u e f)
def T287 (a:AV):A2:=N0 (Y14 u u u u u u u u u u u u u a)
def T288 (a b d e:AV):A2:=N0 (Y12 u a b u u u u d u u u e)
def T289 (a b d e f:AV):A2:=N0 (Y13 u a b u u u u d u u u e f)
def T290 (a b d e f g:AV):A2:=N0 (.mk u a b u u u u d u u u e f u u g)
def T291 (a b d e f g j:AV):A2:=N5 (.mk u a b u u u u d u u u e f u u g) .nil .nil .nil .nil (Y9 u u u u u u u u j)
def T292 (a b d e f g:AV):A2:=N1 (Y13 u a b u u u u d u u u e f) (Y1 g)
def T293 (a b:AV):A2:=N0 (Y5 u a u u b)
def T294 (a b d:AV):A2:=N0 (Y6 u a u u b d)
def T295 (a b:AV):A2:=N0 (Y11 u a u u u u u u u u b)
def T296 (a b d e:AV):A2:=N0 (Y14 a u u u u u u u u u u b d e)
def T297 (a b d e f:AV):A2:=N0 (Y14 a u u u u b u u u u u d e f)
def T298 (a b d e f:AV):A2:=N0 (Y10 a u u u u u b d e f)
def T299 (a b d e f:AV):A2:=N0 (Y12 a u u b u u u u u d e f)
def T300 (a b d e f g:AV):A2:=N1 (Y12 a u u b u u u u u d e f) (Y5 u u u u g)
def T301 (a b d e:AV):A2:=N1 (Y7 u u u u u u a) (Y12 u u u u u u u u u b d e)
def T302 (a b d e:AV):A2:=N0 (Y7 u a b d u u e)
def T308 (a b d e f:AV):A2:=N1 (Y6 a u u u u b) (Y8 u u u u u d e f)
def T309 (a b d e f g j k:AV):A2:=N1 (Y11 a u u u u b u d e u f) (Y8 u u u u u g j k)
def T310 (a b d:AV):A2:=N3 (Y6 a u u u u b) .nil .nil (Y5 u u u u d)
def T311 (a b:AV):A2:=N5 (Y1 a) .nil .nil .nil .nil (Y2 u b)
def T312 (a b d e f:AV):A2:=N0 (.mk a u u u u u b u u u u u u d e f)
def T313 (a b d:AV):A2:=N0 (.mk a b u u u u u u u u u u u u u d)
def T314 (a b d e f g j:AV):A2:=N0 (.mk a b u u u d e f g u u u u u u j)
def T315 (a b d e f g:AV):A2:=N0 (.mk a b u u u d e f u u u u u u u g)
def T316 (a b d e f:AV):A2:=N3 (Y2 a b) .nil .nil (Y7 u u u u d e f)
def T318 (a b d e:AV):A2:=N0 (Y12 a b u u u u u u d u u e)
def T331 (a b d e f:AV):A2:=N0 (Y10 a b d u u u u u e f)
def T332 (a b d e f:AV):A2:=N0 (Y14 a b d u u u u u e u u u u f)
def T333 (a b d e f g:AV):A2:=N0 (Y15 a b d u u u u u e u u u u f g)
def T334 (a b d e f g j:AV):A2:=N0 (.mk a b d u u u u u e u u u u f g j)
def T335 (a b d e f g j k:AV):A2:=N1 (.mk a b d u u u u u e u u u u f g j) (Y1 k)
def T336 (a b d:AV):A2:=N0 (Y6 a u u u b d)
def T350 (a b:AV):A2:=N0 (Y3 a u b)
def T366 (a b d:AV):A2:=N0 (Y3 a b d)
def T369 (a b:AV):A2:=N0 (Y6 u a u u u b)
def T370 (a b d:AV):A2:=N0 (Y7 u a u u u b d)
def T371 (a b d:AV):A2:=N1 (Y6 u a u u u b) (Y7 u u u u u u d)
def T372 (a b d:AV):A2:=N2 (Y6 u a u u u b) .nil (Y2 u d)
def T373 (a b:AV):A2:=N2 (Y2 u a) .nil (Y13 u u u u u u u u u u u u b)
def T374 (a b d:AV):A2:=N0 (Y9 u a b u u u u u d)
def T376 (a b:AV):A2:=N0 (Y9 u u a u u u u u b)
def T379 (a b d e:AV):A2:=N0 (Y7 a b d u u u e)
def T380 (a b d e f:AV):A2:=N0 (Y8 a b d u u u e f)
def T383 (a b d e:AV):A2:=N0 (Y10 u a b u u u u u d e)
def T384 (a b d e:AV):A2:=N0 (Y14 u u a u u u u u b u u u d e)
def T385 (a b d e:AV):A2:=N3 (Y14 u u u u u u u u a u u u b d) .nil .nil (Y15 u u u u u u u u u u u u u u e)
def T386 (a b d e f:AV):A2:=N4 (Y14 u u u u u u u u a u u u b d) .nil .nil (Y15 u u u u u u u u u u u u u u e) (Y14 u u u u u u u u u u u u u f)
def T387 (a b:AV):A2:=N0 (Y14 u u u u u u u u u u u u a b)
def T388 (a b d e f:AV):A2:=N5 (Y14 u u u u u u u u a u u u b d) .nil .nil (Y15 u u u u u u u u u u u u u u e) .nil (Y8 u u u u u u u f)
def T389 (a b d e f:AV):A2:=N6 (Y14 u u u u u u u u a u u u b d) .nil .nil (Y15 u u u u u u u u u u u u u u e) .nil .nil (Y4 u u u f)
def T390 (a b d e:AV):A2:=N6 (Y14 u u u u u u u u a u u u b d) .nil .nil .nil .nil .nil (Y10 u u u u u u u u u e)
def T391 (a b d e:AV):A2:=N0 (Y15 u u u u u u u u a u u u b d e)
def T392 (a b d e f:AV):A2:=N0 (Y11 u a b d u u e u u u f)
def T403 (a b d e:AV):A2:=N1 (Y7 u a u u u b d) (Y3 u u e)
def T404 (a b d:AV):A2:=N2 (Y7 u u u u u a b) .nil (Y6 u u u u u d)
def T406 (a b d e f:AV):A2:=N0 (Y10 u a b d u u e u u f)
def T407 (a b d e f g j k l m:AV):A2:=N0 (Y15 a b u d u u e u f u g j k l m)
def T408 (a b d e f g j k l m n:AV):A2:=N0 (.mk a b u d u u e u f u g j k l m n)
def T409 (a b d e f g j:AV):A2:=N0 (Y15 u u u u u u a u b u d e f g j)
def T410 (a b d e f g j k l m n o:AV):A2:=N1 (.mk a b u d u u e u f u g j k l m n) (Y1 o)
def T411 (a b d e f g j k l m n o p:AV):A2:=N1 (.mk a b u d u u e u f u g j k l m n) (Y3 u o p)
def T412 (a b d e f g j k l m n o p q:AV):A2:=N1 (.mk a b u d u u e u f u g j k l m n) (Y4 u o p q)
def T413 (a b d e f g j k l m n o p:AV):A2:=N1 (.mk a b u d u u e u f u g j k l m n) (Y4 u o u p)
def T414 (a b d e f g j k l m n o p q:AV):A2:=N1 (.mk a b u d u u e u f u g j k l m n) (Y5 u o u p q)
def T415 (a b:AV):A2:=N0 (Y10 u u u u u u u u a b)
def T416 (a b d:AV):A2:=N0 (Y13 u u u u u u u u a u u b d)
def T439 (a b d e f g:AV):A2:=N0 (Y14 a b d u u u u u u u u e f g)
def T440 (a b d e f g:AV):A2:=N0 (Y9 a b d u u u e f g)
def T448 (a b d e:AV):A2:=N0 (Y8 u a u u u b d e)
def T449 (a b d e f:AV):A2:=N0 (Y8 u a u u b d e f)
def T458 (a b d e f g:AV):A2:=N3 (Y11 u a b d u u e u u u f) .nil .nil (Y9 u u u u u u u u g)
def T459 (a b d e f g:AV):A2:=N0 (Y13 u a b d u u e u u u f u g)
def T460 (a b d e:AV):A2:=N0 (Y13 u u u a u u b u u u d u e)
def T461 (a b d e f:AV):A2:=N6 (Y13 u u u a u u b u u u d u e) .nil .nil .nil .nil .nil (Y2 u f)
def T462 (a b d e f g:AV):A2:=N6 (Y13 u u u a u u b u u u d u e) .nil .nil .nil .nil .nil (Y3 u f g)
def T463 (a b d e f g:AV):A2:=N6 (Y13 u u u a u u b u u u d u e) .nil .nil .nil .nil .nil (.mk u f u u u u u u u u u u u u u g)
def T464 (a b d e f g:AV):A2:=N7 (Y13 u u u a u u b u u u d u e) .nil .nil .nil .nil .nil (Y2 u f) (Y6 u u u u u g)
def T465 (a b d e f g:AV):A2:=N8 (Y13 u u u a u u b u u u d u e) .nil .nil .nil .nil .nil (Y2 u f) .nil (Y1 g)
def T466 (a b d e f g:AV):A2:=N8 (Y13 u u u a u u b u u u d u e) .nil .nil .nil .nil .nil (Y2 u f) .nil (Y12 u u u u u u u u u u u g)
def T478 (a b d e f:AV):A2:=N0 (Y9 a b d e u u u u f)
def T496 (a b d e f:AV):A2:=N0 (Y6 u a b d e f)
def T497 (a b d e f g j:AV):A2:=N0 (Y8 u a b d e f g j)
def T498 (a b d e f:AV):A2:=N0 (Y7 u a b d e u f)
def T499 (a b d e f g:AV):A2:=N0 (Y9 u a b d e u f u g)
def T500 (a b d e f g j k l m:AV):A2:=N0 (Y13 u a b d e u f u g j k l m)
def T501 (a b:AV):A2:=N1 (Y15 u u u u u u u u u u u u u u a) (Y1 b)
def T502 (a b d e:AV):A2:=N1 (Y15 u u u u u u u u u u u u u u a) (Y5 b u d u e)
def f252:AF:=.ext (.fn oW)
def f340:AF:=.ext .BH
def f352:AF:=.ext .Gt
def f353:AF:=.ext (.Lk 5)
def f373:AF:=.ext (.fn we)
def x4:AC:=b4
def f4:AF:=.mk x4 [.t .h0 .h2]
def x5:AC:=b5
def f5:AF:=.mk x5 [.agg 3 .h0 .h2]
def x6:AC:=b6
def f6:AF:=.mk x6 [.agg 3 .h0 .h2]
def x7:AC:=b7
def f7:AF:=.mk x7 [.t .h0 .h4]
def x8:AC:=b8
def f8:AF:=.mk x8 [.t .h0 .h0]
def x9:AC:=b9
def f9:AF:=.mk x9 [.t .h0 .h4,.t .h0 .h5]
def x10:AC:=b10
def f10:AF:=.mk x10 [.agg 8 .h0 .h2]
def x11:AC:=b11
def f11:AF:=.mk x11 [.t .h0 .h0]
def x12:AC:=b12
def f12:AF:=.mk x12 [.t .h0 .h4,.t .h0 .h5]
def x13:AC:=b13
def f13:AF:=.mk x13 [.t .h0 .h2]
def k14_2:KF:=K4 y0 y6 y9 y10 fun c i x h a b d e=>
 J a h fun f h=>
 A 0 f h fun g h=>
 W g d h fun j h=>
 J a h fun k h=>
 A 2 k h fun l h=>
 W l b h fun m h=>
 C c 34 [e] h fun n h=>
 .ret (T5 n i0) h
def k14_1:KF:=K3 y0 y6 y7 fun c i x h a b d=>
 J a h fun e h=>
 A 0 e h fun f h=>
 L f h fun g h=>
 C c 32 [g] h fun j h=>
 C c 33 [j,d] h fun k h=>
 E 0 k h fun l h=>
 E 1 k h fun m h=>
 tR (cP m i0 h) fun n h=>
 I n (.ret (T5 .ai m) h) (x (T15 a b j l) h)
def k14_0:KF:=K2 y0 y1 fun c i x h a b=>
 C c 31 [a,b] h fun d h=>
 E 0 d h fun e h=>
 E 1 d h fun f h=>
 E 2 d h fun g h=>
 tR (cP g i0 h) fun j h=>
 I j (.ret (T5 .ai g) h) (x (T14 a e f) h)
def x14:AC:=(.ah k14_0 (.ah k14_1 (.ah k14_2 .skip)))
def f14:AF:=.mk x14 [.t .h0 .h4,.t .h0 .h5]
def k15_6:KF:=K6 y0 y1 y6 y7 y8 y72 fun c i x h a b d e f g=>
 I g (.nm (T19 a b d e f) h) (.ex 4 (T19 a b d e f) h)
def k15_8:KF:=K5 y0 y1 y6 y7 y8 fun c i x h a b d e f=>
 D f i1 h fun g h=>
 .nm (T19 a b d e g) h
def k15_7:KF:=K5 y0 y1 y6 y7 y8 fun c i x h a b d e f=>
 J a h fun g h=>
 A 8 g h fun j h=>
 L j h fun k h=>
 X 3 k e h fun l h=>
 A 1 l h fun m h=>
 L m h fun n h=>
 X 2 b d h fun o h=>
 A 1 o h fun p h=>
 L p h fun q h=>
 X 2 q f h fun s h=>
 A 0 s h fun t h=>
 L t h fun v h=>
 C c 37 [n,v] h fun w h=>
 tR (bG w h) fun y h=>
 I y (.ret (T5 .ai i1) h) (x (T19 a b d e f) h)
def k15_5:KF:=K4 y0 y1 y6 y7 fun c i x h a b d e=>
 x (T19 a b d e i0) h
def k15_9:KF:=K4 y0 y1 y6 y7 fun c i x h a b d e=>
 D e i1 h fun f h=>
 .nm (T18 a b d f) h
def k15_4:KF:=K4 y0 y1 y6 y7 fun c i x h a b d e=>
 J a h fun f h=>
 A 8 f h fun g h=>
 L g h fun j h=>
 G j h fun k h=>
 Y e k h fun l h=>
 I l (x (T18 a b d e) h) (.ex 2 (T17 a b d) h)
def k15_3:KF:=K3 y0 y1 y6 fun c i x h a b d=>
 X 2 b d h fun e h=>
 A 0 e h fun f h=>
 L f h fun g h=>
 C c 35 [a,g] h fun j h=>
 tR (bG j h) fun k h=>
 I k (.ex 1 (T17 a b d) h) (X 2 b d h fun l h=>
 A 1 l h fun m h=>
 L m h fun n h=>
 C c 36 [n] h fun o h=>
 tR (bG o h) fun p h=>
 I p (.ret (T5 .ai i1) h) (x (T18 a b d i0) h))
def k15_10:KF:=K3 y0 y1 y6 fun c i x h a b d=>
 D d i1 h fun e h=>
 .nm (T17 a b e) h
def k15_2:KF:=K3 y0 y1 y6 fun c i x h a b d=>
 G b h fun e h=>
 Y d e h fun f h=>
 I f (x (T17 a b d) h) (.ex 0 (T16 a b) h)
def k15_1:KF:=K2 y0 y1 fun c i x h a b=>
 x (T17 a b i0) h
def k15_16:KF:=K6 y0 y1 y9 y10 y11 y132 fun c i x h a b d e f g=>
 I g (.ex 9 (T23 a b d e f) h) (.nm (T23 a b d e f) h)
def k15_18:KF:=K6 y0 y1 y9 y10 y11 y12 fun c i x h a b d e f g=>
 X 3 d f h fun j h=>
 A 2 j h fun k h=>
 W k g h fun l h=>
 .nm (T23 a b d e f) h
def k15_17:KF:=K5 y0 y1 y9 y10 y11 fun c i x h a b d e f=>
 X 3 d f h fun g h=>
 A 2 g h fun j h=>
 L j h fun k h=>
 X 2 b e h fun l h=>
 A 1 l h fun m h=>
 L m h fun n h=>
 C c 38 [k,n] h fun o h=>
 E 0 o h fun p h=>
 E 1 o h fun q h=>
 tR (cP q i0 h) fun s h=>
 I s (.ret (T5 .ai (pi 27)) h) (x (T24 a b d e f p) h)
def k15_19:KF:=K5 y0 y1 y9 y10 y11 fun c i x h a b d e f=>
 D f i1 h fun g h=>
 .nm (T23 a b d e g) h
def k15_15:KF:=K5 y0 y1 y9 y10 y11 fun c i x h a b d e f=>
 G d h fun g h=>
 Y f g h fun j h=>
 I j (x (T23 a b d e f) h) (.ex 8 (T21 a b d e) h)
def k15_14:KF:=K4 y0 y1 y9 y10 fun c i x h a b d e=>
 x (T23 a b d e i0) h
def k15_20:KF:=K4 y0 y1 y9 y10 fun c i x h a b d e=>
 D e i1 h fun f h=>
 .nm (T21 a b d f) h
def k15_13:KF:=K4 y0 y1 y9 y10 fun c i x h a b d e=>
 G b h fun f h=>
 Y e f h fun g h=>
 I g (x (T21 a b d e) h) (.ex 6 (T22 a d) h)
def k15_12:KF:=K3 y0 y1 y9 fun c i x h a b d=>
 x (T21 a b d i0) h
def k15_22:KF:=K3 y0 y9 y14 fun c i x h a b d=>
 G b h fun e h=>
 Y d e h fun f h=>
 I f (X 3 b d h fun g h=>
 A 2 g h fun j h=>
 L j h fun k h=>
 C c 39 [k] h fun l h=>
 tR (bG l h) fun m h=>
 I m (.ret (T5 .ai (pi 27)) h) (D d i1 h fun n h=>
 .nm (T25 a b n) h)) (.ex 10 (T25 a b d) h)
def k15_21:KF:=K2 y0 y9 fun c i x h a b=>
 x (T25 a b i0) h
def k15_24:KF:=K3 y0 y9 y15 fun c i x h a b d=>
 C c 19 [a] h fun e h=>
 C c 41 [e] h fun f h=>
 C c 38 [d,f] h fun g h=>
 E 0 g h fun j h=>
 E 1 g h fun k h=>
 J a h fun l h=>
 A 8 l h fun m h=>
 W m b h fun n h=>
 .ret (T5 j i0) h
def k15_23:KF:=K2 y0 y9 fun c i x h a b=>
 J a h fun d h=>
 A 0 d h fun e h=>
 M 8 e h fun f h=>
 C c 40 [f,b] h fun g h=>
 E 0 g h fun j h=>
 E 1 g h fun k h=>
 tR (cP k i0 h) fun l h=>
 I l (.ret (T5 .ai k) h) (x (T26 a b j) h)
def k15_11:KF:=K2 y0 y1 fun c i x h a b=>
 tR (bs 96 3 0 [] [] h) fun d h=>
 J a h fun e h=>
 A 8 e h fun f h=>
 L f h fun g h=>
 tR (cX 96 3 d g h) fun j h=>
 x (T20 a b j) h
def k15_0:KF:=K2 y0 y1 fun c i x h a b=>
 x (T16 a b) h
def x15:AC:=(.ah k15_0 (.seq (.ah k15_1 (.block 0 (.loop (.ah k15_2 (.seq (.block 1 (.ah k15_3 (.block 2 (.loop (.ah k15_4 (.seq (.block 3 (.ah k15_5 (.block 4 (.loop (.seq (.seq (.ops [m d49 r8,
 m d50 r1,
 m d51 r6,
 o d52 (.cn 2 r50 r51),
 of d53 1 r52,
 ol d54 r53,
 o d55 (.len r54),
 o d56 (.bin .lt r49 r55),
 m d57 r56,
 .g .h3 .h9 true d58 (.op (.mv r0)),
 .g .h3 .h9 true d59 (.op (.nq r58)),
 .g .h3 .h9 true d60 (.op (.cG 8 r59)),
 .g .h3 .h9 true d61 (.op (.bZ r60)),
 .g .h3 .h9 true d62 (.op (.mv r7)),
 .g .h3 .h9 true d63 (.op (.cn 3 r61 r62)),
 .g .h3 .h9 true d64 (.op (.cG 0 r63)),
 .g .h3 .h9 true d65 (.op (.bZ r64)),
 .g .h3 .h9 true d66 (.op (.mv r1)),
 .g .h3 .h9 true d67 (.op (.mv r6)),
 .g .h3 .h9 true d68 (.op (.cn 2 r66 r67)),
 .g .h3 .h9 true d69 (.op (.cG 0 r68)),
 .g .h3 .h9 true d70 (.op (.bZ r69)),
 .g .h3 .h9 true d71 (.op (.bin .seq r65 r70)),
 o d72 (.pick r57 r71 (.c (.bool false)))]) (.ah k15_6 .skip)) (.ah k15_7 (.ah k15_8 .skip))))))) (.ah k15_9 .skip))))))) (.ah k15_10 .skip)))))) (.ah k15_11 (.seq (.ah k15_12 (.block 6 (.loop (.ah k15_13 (.seq (.block 7 (.ah k15_14 (.block 8 (.loop (.ah k15_15 (.seq (.block 9 (.seq (.seq (.ops [m d112 r9,
 m d113 r11,
 o d114 (.cn 3 r112 r113),
 of d115 0 r114,
 ol d116 r115,
 m d117 r1,
 m d118 r10,
 o d119 (.cn 2 r117 r118),
 of d120 0 r119,
 ol d121 r120,
 o d122 (.bin .KX r116 r121),
 m d123 r122,
 .g .h7 .hb false d124 (.op (.mv r0)),
 .g .h7 .hb false d125 (.op (.mv r1)),
 .g .h7 .hb false d126 (.op (.mv r10)),
 .g .h7 .hb false d127 (.op (.cn 2 r125 r126)),
 .g .h7 .hb false d128 (.op (.cG 0 r127)),
 .g .h7 .hb false d129 (.op (.bZ r128)),
 .g .h7 .hb false d130 (.call 35 [r124,r129]),
 .g .h7 .hb false d131 (.op (.un .not r130)),
 o d132 (.pick r123 (.c (.bool true)) r131)]) (.ah k15_16 .skip)) (.ah k15_17 (.ah k15_18 .skip)))) (.ah k15_19 .skip))))))) (.ah k15_20 .skip)))))) (.seq (.ah k15_21 (.block 10 (.loop (.ah k15_22 .skip)))) (.ah k15_23 (.ah k15_24 .skip)))))))
def f15:AF:=.mk x15 [.t .h0 .h4,.t .h0 .h5]
def k16_3:KF:=K3 y0 y3 y4 fun c i x h a b d=>
 D d i1 h fun e h=>
 .nm (T1 a b e) h
def k16_2:KF:=K3 y0 y3 y4 fun c i x h a b d=>
 G a h fun e h=>
 Y d e h fun f h=>
 I f (x (T1 a b d) h) (.ex 0 (T13 b) h)
def k16_1:KF:=K2 y0 y3 fun c i x h a b=>
 x (T1 a b i0) h
def k16_4:KF:=K1 y3 fun c i x h a=>
 .ret (T2 a) h
def k16_0:KF:=K1 y0 fun c i x h a=>
 x (T0 a .ai) h
def x16:AC:=(.ah k16_0 (.seq (.ah k16_1 (.block 0 (.loop (.ah k16_2 (.seq (.block 1 (.iB [q 0 (m d12 r0),
 q 0 (m d13 r4),
 q 0 (o d14 (.cn 2 r12 r13)),
 qf 0 d15 0 r14,
 ql 0 d16 r15,
 q 0 (m d17 r0),
 q 0 (m d18 r4),
 q 0 (o d19 (.cn 2 r17 r18)),
 qf 0 d20 1 r19,
 ql 0 d21 r20,
 q 0 (o d22 (.build [iS,.ai] [.mk 0 1 r16,.mk 1 1 r21])),
 w (o d23 (.bN 103 2 1 [iS,.ai] [.mk 0 2 r22])),
 q 1 (m d11 r3),
 w (o d24 (.app 103 2 r11 r23)),
 q 0 (m d3 r24)])) (.ah k16_3 .skip)))))) (.ah k16_4 .skip)))
def f16:AF:=.mk x16 [.t .h0 .h2]
def k17_3:KF:=K4 y0 y1 y5 y41 fun c i x h a b d e=>
 I e (.ret (T3 (.bool false)) h) (.nm (T27 a b d) h)
def k17_4:KF:=K3 y0 y1 y5 fun c i x h a b d=>
 D d i1 h fun e h=>
 .nm (T27 a b e) h
def k17_2:KF:=K3 y0 y1 y5 fun c i x h a b d=>
 G a h fun e h=>
 Y d e h fun f h=>
 I f (x (T27 a b d) h) (.ex 0 T28 h)
def k17_1:KF:=K2 y0 y1 fun c i x h a b=>
 x (T27 a b i0) h
def k17_5:KF:=fun c i x r h=>
 .ret (T3 (.bool true)) h
def k17_0:KF:=K2 y0 y1 fun c i x h a b=>
 G a h fun d h=>
 G b h fun e h=>
 tR (cP d e h) fun f h=>
 I f (.ret (T3 (.bool false)) h) (x (T16 a b) h)
def x17:AC:=(.ah k17_0 (.seq (.ah k17_1 (.block 0 (.loop (.ah k17_2 (.seq (.block 1 (.seq (.ops [m d17 r0,
 m d18 r5,
 o d19 (.cn 2 r17 r18),
 of d20 0 r19,
 ol d21 r20,
 m d22 r1,
 m d23 r5,
 o d24 (.cn 2 r22 r23),
 of d25 0 r24,
 ol d26 r25,
 oc d27 42 [r21,r26],
 o d28 (.un .not r27),
 m d29 r28,
 .g .h1 .hd false d30 (.op (.mv r0)),
 .g .h1 .hd false d31 (.op (.mv r5)),
 .g .h1 .hd false d32 (.op (.cn 2 r30 r31)),
 .g .h1 .hd false d33 (.op (.cG 1 r32)),
 .g .h1 .hd false d34 (.op (.bZ r33)),
 .g .h1 .hd false d35 (.op (.mv r1)),
 .g .h1 .hd false d36 (.op (.mv r5)),
 .g .h1 .hd false d37 (.op (.cn 2 r35 r36)),
 .g .h1 .hd false d38 (.op (.cG 1 r37)),
 .g .h1 .hd false d39 (.op (.bZ r38)),
 .g .h1 .hd false d40 (.op (.bin (.QX .neq) r34 r39)),
 o d41 (.pick r29 (.c (.bool true)) r40)]) (.ah k17_3 .skip))) (.ah k17_4 .skip)))))) (.ah k17_5 .skip)))
def f17:AF:=.mk x17 [.t .h0 .h4]
def k18_0:KF:=K1 y0 fun c i x h a=>
 J a h fun b h=>
 A 0 b h fun d h=>
 L d h fun e h=>
 J e h fun f h=>
 A 11 f h fun g h=>
 L g h fun j h=>
 C c 34 [j] h fun k h=>
 .ret (T2 k) h
def x18:AC:=(.ah k18_0 .skip)
def f18:AF:=.mk x18 [.t .h0 .h2]
def k19_0:KF:=K1 y0 fun c i x h a=>
 J a h fun b h=>
 A 0 b h fun d h=>
 M 8 d h fun e h=>
 J a h fun f h=>
 A 8 f h fun g h=>
 L g h fun j h=>
 C c 40 [e,j] h fun k h=>
 E 0 k h fun l h=>
 E 1 k h fun m h=>
 .ret (T2 l) h
def x19:AC:=(.ah k19_0 .skip)
def f19:AF:=.mk x19 [.t .h0 .h2]
def x20:AC:=b20
def f20:AF:=.mk x20 [.t .h0 .h6,.t .h0 .h7]
def x21:AC:=b21
def f21:AF:=.mk x21 [.t .h0 .h0]
def x22:AC:=b22
def f22:AF:=.mk x22 [.t .h0 .h4,.t .h0 .h5,.t .h0 .h6]
def x23:AC:=b23
def f23:AF:=.mk x23 [.t .h0 .h4]
def x24:AC:=b24
def f24:AF:=.mk x24 [.t .h0 .h4]
def x25:AC:=b25
def f25:AF:=.mk x25 [.t .h0 .h2]
def x26:AC:=b26
def f26:AF:=.mk x26 [.t .h0 .h2]
def k27_2:KF:=K5 y2 y6 y7 y8 y33 fun c i x h a b d e f=>
 I f (U [i0,iS,.ai,.ai,.ai,.ai,.ai,.ai] [] h fun g h=>
 S 8 a g h fun j h=>
 .ret (T48 a (pi 3) i0) h) (.nm (T50 a b d e) h)
def k27_3:KF:=K4 y2 y6 y7 y8 fun c i x h a b d e=>
 M 8 e h fun f h=>
 S 8 a f h fun g h=>
 .ret (T48 a b d) h
def k27_1:KF:=K2 y2 y5 fun c i x h a b=>
 M 5 b h fun d h=>
 C c 64 [d] h fun e h=>
 E 0 e h fun f h=>
 E 1 e h fun g h=>
 E 2 e h fun j h=>
 O 49 8 (.k1 (Y8 i0 iS .ai .ai .ai .ai .ai .ai)) h fun k h=>
 S 8 k f h fun l h=>
 x (T50 a g j k) h
def k27_0:KF:=K1 y0 fun c i x h a=>
 O 49 8 (.k1 (Y8 i0 iS .ai .ai .ai .ai .ai .ai)) h fun b h=>
 C c 63 [a] h fun d h=>
 E 0 d h fun e h=>
 E 1 d h fun f h=>
 E 2 d h fun g h=>
 O 150 5 (.k1 (Y5 i0 iS i0 .ai i0)) h fun j h=>
 S 5 j e h fun k h=>
 tR (cP f i0 h) fun l h=>
 I l (U [i0,iS,.ai,.ai,.ai,.ai,.ai,.ai] [] h fun m h=>
 S 8 b m h fun n h=>
 .ret (T48 b f g) h) (x (T49 b j) h)
def x27:AC:=(.ah k27_0 (.ah k27_1 (.seq (.seq (.ops [m d26 r6,
 o d27 (.bin .eq r26 a0),
 m d28 r27,
 .g .h1 .hc true d29 (.op (.jO 8 r8)),
 .g .h1 .hc true d30 (.call 65 [r29]),
 .g .h1 .hc true d31 (.op (.iw r30)),
 .g .h1 .hc true d32 (.op (.bin .gt r31 (.c (pi 600)))),
 o d33 (.pick r28 r32 (.c (.bool false)))]) (.ah k27_2 .skip)) (.ah k27_3 .skip))))
def f27:AF:=.mk x27 [.agg 8 .h0 .h2,.t .h0 .h3,.t .h0 .h4]
def x28:AC:=b28
def f28:AF:=.mk x28 [.t .h0 .h0]
def x29:AC:=b29
def f29:AF:=.mk x29 [.t .h0 .h0]
def k30_1:KF:=K2 y1 y2 fun c i x h a b=>
 M 8 b h fun d h=>
 C c 68 [d,a] h fun e h=>
 E 0 e h fun f h=>
 E 1 e h fun g h=>
 E 2 e h fun j h=>
 .ret (T37 f g j) h
def k30_0:KF:=K2 y0 y1 fun c i x h a b=>
 B 49 a h fun d h=>
 C c 66 [b] h fun e h=>
 tR (cP e i0 h) fun f h=>
 I f (.ret (T37 .ai i1 iS) h) (M 8 d h fun g h=>
 C c 67 [g] h fun j h=>
 tR (aW j iS h) fun k h=>
 I k (.ret (T37 .ai (pi 12) iS) h) (x (T6 b d) h))
def x30:AC:=(.ah k30_0 (.ah k30_1 .skip))
def f30:AF:=.mk x30 [.t .h0 .h4,.t .h0 .h5,.t .h0 .h6]
def k31_4:KF:=K8 y1 y2 y4 y5 y18 y19 y20 y41 fun c i x h a b d e f g j k=>
 I k (.ret (T37 .gg .gg i1) h) (.nm (T52 a b d e f g j) h)
def k31_3:KF:=K7 y1 y2 y4 y5 y18 y19 y20 fun c i x h a b d e f g j=>
 X 2 f j h fun k h=>
 M 2 k h fun l h=>
 O 31 2 (.k1 (Y2 iS .ai)) h fun m h=>
 S 2 m l h fun n h=>
 L b h fun o h=>
 J o h fun p h=>
 A 1 p h fun q h=>
 L q h fun s h=>
 C c 52 [s,(.fn 69 [m])] h fun t h=>
 O 3 1 (.k1 (Y1 i0)) h fun v h=>
 W v t h fun w h=>
 L v h fun y h=>
 Y y i0 h fun z h=>
 I z (.ex 1 (T52 a b d e f g j) h) (x (T53 a b d e m v f g j) h)
def k31_5:KF:=K7 y1 y2 y4 y5 y18 y19 y20 fun c i x h a b d e f g j=>
 D j i1 h fun k h=>
 .nm (T52 a b d e f g k) h
def k31_2:KF:=K7 y1 y2 y4 y5 y18 y19 y20 fun c i x h a b d e f g j=>
 Y j g h fun k h=>
 I k (x (T52 a b d e f g j) h) (.ex 0 (T51 a b d e) h)
def k31_1:KF:=K4 y1 y2 y4 y5 fun c i x h a b d e=>
 G a h fun f h=>
 x (T52 a b d e a f i0) h
def k31_12:KF:=K13 y1 y2 y4 y5 y11 y12 y13 y46 y47 y48 y59 y60 y61 fun c i x h a b d e f g j k l m n o p=>
 D p i1 h fun q h=>
 .nm (T56 a b d e f g j k l m n o q) h
def k31_11:KF:=K13 y1 y2 y4 y5 y11 y12 y13 y46 y47 y48 y59 y60 y61 fun c i x h a b d e f g j k l m n o p=>
 X 2 n p h fun q h=>
 M 2 q h fun s h=>
 O 31 2 (.k1 (Y2 iS .ai)) h fun t h=>
 S 2 t s h fun v h=>
 A 0 t h fun w h=>
 L w h fun y h=>
 A 0 f h fun z h=>
 L z h fun a0 h=>
 tR (aW y a0 h) fun a1 h=>
 gD a1 true (fun a2=>a2 j h) h fun a2 h=>
 gD a1 true (fun a3=>Q a2 i0 h fun a4 h=>
 a3 a4 h) h fun a3 h=>
 tR (dm (.c a1) (.c a3) (.c (.bool false)) .nil h) fun a4 h=>
 I a4 (A 1 t h fun a5 h=>
 L a5 h fun a6 h=>
 C c 74 [g,a6] h fun a7 h=>
 E 0 a7 h fun a8 h=>
 E 1 a7 h fun a9 h=>
 x (T56 a b d e f a8 a9 k l m n o p) h) (x (T56 a b d e f g j k l m n o p) h)
def k31_10:KF:=K13 y1 y2 y4 y5 y11 y12 y13 y46 y47 y48 y59 y60 y61 fun c i x h a b d e f g j k l m n o p=>
 Y p o h fun q h=>
 I q (x (T56 a b d e f g j k l m n o p) h) (.ex 4 (T55 a b d e f g j k l m) h)
def k31_9:KF:=K10 y1 y2 y4 y5 y11 y12 y13 y46 y47 y48 fun c i x h a b d e f g j k l m=>
 G a h fun n h=>
 x (T56 a b d e f g j k l m a n i0) h
def k31_13:KF:=K10 y1 y2 y4 y5 y11 y12 y46 y47 y48 y88 fun c i x h a b d e f g j k l m=>
 I m (.ret (T37 .gg .gg (pi 27)) h) (.nm (T57 a b d e f g j k l) h)
def k31_15:KF:=K8 y1 y2 y4 y5 y13 y46 y47 y48 fun c i x h a b d e f g j k=>
 tR (cP f i0 h) fun l h=>
 I l (.ret (T37 .gg .gg f) h) (.nm (T54 a b d e g j k) h)
def k31_14:KF:=K9 y1 y2 y4 y5 y11 y12 y46 y47 y48 fun c i x h a b d e f g j k l=>
 A 0 f h fun m h=>
 L m h fun n h=>
 tR (yn (.one .s) d n g h) fun o h=>
 x (T57 a b d e f g j k l) h
def k31_8:KF:=K7 y1 y2 y4 y5 y46 y47 y48 fun c i x h a b d e f g j=>
 X 2 f j h fun k h=>
 M 2 k h fun l h=>
 O 68 2 (.k1 (Y2 iS .ai)) h fun m h=>
 S 2 m l h fun n h=>
 L b h fun o h=>
 J o h fun p h=>
 A 2 p h fun q h=>
 L q h fun s h=>
 A 0 m h fun t h=>
 L t h fun v h=>
 tR (wg (.one .s) .ai false s v h) fun w h=>
 x (T55 a b d e m w i0 f g j) h
def k31_16:KF:=K7 y1 y2 y4 y5 y46 y47 y48 fun c i x h a b d e f g j=>
 D j i1 h fun k h=>
 .nm (T54 a b d e f g k) h
def k31_7:KF:=K7 y1 y2 y4 y5 y46 y47 y48 fun c i x h a b d e f g j=>
 Y j g h fun k h=>
 I k (x (T54 a b d e f g j) h) (.ex 2 (T5 d e) h)
def k31_6:KF:=K4 y1 y2 y4 y5 fun c i x h a b d e=>
 L b h fun f h=>
 J f h fun g h=>
 A 1 g h fun j h=>
 L j h fun k h=>
 G k h fun l h=>
 x (T54 a b d e k l i0) h
def k31_17:KF:=K2 y4 y5 fun c i x h a b=>
 .ret (T37 a b i0) h
def k31_0:KF:=K2 y0 y1 fun c i x h a b=>
 B 41 a h fun d h=>
 tR (XR h) fun e h=>
 tR (XR h) fun f h=>
 x (T51 b d e f) h
def x31:AC:=(.ah k31_0 (.seq (.ah k31_1 (.block 0 (.loop (.ah k31_2 (.seq (.block 1 (.ah k31_3 (.seq (.ops [of d32 1 r8,
 ol d33 r32,
 oc d34 70 [r33],
 o d35 (.un .not r34),
 m d36 r35,
 .g .h2 .h4 false d37 (.op (.cG 1 r8)),
 .g .h2 .h4 false d38 (.op (.bZ r37)),
 .g .h2 .h4 false d39 (.op (.Vh 72 [r2,r9])),
 .g .h2 .h4 false d40 (.call 71 [r38,r39]),
 o d41 (.pick r36 (.c (.bool true)) r40)]) (.ah k31_4 .skip)))) (.ah k31_5 .skip)))))) (.seq (.ah k31_6 (.block 2 (.loop (.ah k31_7 (.seq (.block 3 (.ah k31_8 (.seq (.ah k31_9 (.block 4 (.loop (.ah k31_10 (.ah k31_11 (.ah k31_12 .skip)))))) (.seq (.seq (.ops [m d82 r13,
 o d83 (.bin .ne r82 a0),
 m d84 r83,
 .g .h5 .h4 false d85 (.op (.mv r12)),
 .g .h5 .h4 false d86 (.call 75 [r85]),
 .g .h5 .h4 false d87 (.op (.un .not r86)),
 o d88 (.pick r84 (.c (.bool true)) r87)]) (.ah k31_13 .skip)) (.ah k31_14 (.seq (.iB [ql 0 d98 r2,
 qj 0 d99 r98,
 qf 0 d100 2 r99,
 ql 0 d101 r100,
 qf 0 d102 0 r11,
 ql 0 d103 r102,
 q 0 (o d104 (.wg (.one .s) .ai false r101 r103)),
 w (oc d105 76 [r104]),
 q 1 (m d97 r12),
 w (oc d106 74 [r97,r105]),
 q 2 (m d94 r5),
 qf 2 d95 0 r11,
 ql 2 d96 r95,
 q 0 (m d93 r106),
 q 0 (oe d107 0 r93),
 w (o .no (.yn (.one .s) r94 r96 r107)),
 q 1 (oe d108 1 r93),
 q 0 (m d13 r108)]) (.ah k31_15 .skip))))))) (.ah k31_16 .skip)))))) (.ah k31_17 .skip))))
def f31:AF:=.mk x31 [.t .h0 .h4,.t .h0 .h5,.t .h0 .h6]
def k32_3:KF:=K5 y0 y3 y13 y14 y15 fun c i x h a b d e f=>
 X 1 d f h fun g h=>
 L g h fun j h=>
 x (T59 a b j d e f) h
def k32_4:KF:=K5 y0 y3 y13 y14 y15 fun c i x h a b d e f=>
 D f i1 h fun g h=>
 .nm (T58 a b d e g) h
def k32_2:KF:=K5 y0 y3 y13 y14 y15 fun c i x h a b d e f=>
 Y f e h fun g h=>
 I g (x (T58 a b d e f) h) (.ex 0 (T0 a b) h)
def k32_1:KF:=K2 y0 y3 fun c i x h a b=>
 J a h fun d h=>
 A 9 d h fun e h=>
 L e h fun f h=>
 G f h fun g h=>
 x (T58 a b f g i0) h
def k32_6:KF:=K2 y0 y3 fun c i x h a b=>
 J a h fun d h=>
 A 13 d h fun e h=>
 L e h fun f h=>
 tR (bK .XS f .di h) fun g h=>
 x (T60 a b g) h
def k32_7:KF:=K1 y3 fun c i x h a=>
 .ret (T2 a) h
def k32_5:KF:=K2 y0 y3 fun c i x h a b=>
 J a h fun d h=>
 A 12 d h fun e h=>
 L e h fun f h=>
 tR (bK .XS f .di h) fun g h=>
 I g (J a h fun j h=>
 A 12 j h fun k h=>
 L k h fun l h=>
 C c 77 [l] h fun m h=>
 A 12 b h fun n h=>
 W n m h fun o h=>
 x (T0 a b) h) (x (T0 a b) h)
def k32_0:KF:=K1 y0 fun c i x h a=>
 J a h fun b h=>
 M 15 b h fun d h=>
 O 114 15 (.k1 (Y15 i0 iS .ai .ai .ai .ai .ai .ai .ai .ai .ai .ai .di .di .di)) h fun e h=>
 S 15 e d h fun f h=>
 A 9 e h fun g h=>
 W g .ai h fun j h=>
 x (T0 a e) h
def x32:AC:=(.ah k32_0 (.seq (.ah k32_1 (.block 0 (.loop (.ah k32_2 (.seq (.block 1 (.ah k32_3 (.iB [q 0 (m d21 r5),
 w (oc d22 32 [r21]),
 w (o d23 (.bN 76 1 1 [.di] [.mk 0 1 r22])),
 qf 2 d19 9 r3,
 ql 2 d20 r19,
 w (o d24 (.app 76 1 r20 r23)),
 qf 0 d25 9 r3,
 w (os r25 r24)]))) (.ah k32_4 .skip)))))) (.ah k32_5 (.seq (.ah k32_6 (.cond r42 (.iB [q 0 (m d43 r0),
 qj 0 d44 r43,
 qf 0 d45 13 r44,
 ql 0 d46 r45,
 w (oc d47 78 [r46]),
 q 1 (m d48 r0),
 qj 1 d49 r48,
 qf 1 d50 14 r49,
 ql 1 d51 r50,
 w (oc d52 78 [r51]),
 qf 0 d53 13 r3,
 w (os r53 r47),
 qf 0 d54 14 r3,
 w (os r54 r52)]) .skip)) (.ah k32_7 .skip)))))
def f32:AF:=.mk x32 [.t .h0 .h2]
def k33_4:KF:=K6 y0 y1 y6 y16 y17 y18 fun c i x h a b d e f g=>
 D g i1 h fun j h=>
 .nm (T61 a b d e f j) h
def k33_3:KF:=K6 y0 y1 y6 y16 y17 y18 fun c i x h a b d e f g=>
 X 1 e g h fun j h=>
 L j h fun k h=>
 C c 33 [k,b] h fun l h=>
 E 0 l h fun m h=>
 E 1 l h fun n h=>
 tR (cP n i0 h) fun o h=>
 I o (.ret (T5 .ai n) h) (tR (bs 29 1 1 [.ai] [.mk 0 1 (.c m)] h) fun p h=>
 tR (cX 29 1 d p h) fun q h=>
 x (T61 a b q e f g) h)
def k33_2:KF:=K6 y0 y1 y6 y16 y17 y18 fun c i x h a b d e f g=>
 Y g f h fun j h=>
 I j (x (T61 a b d e f g) h) (.ex 0 (T17 a b d) h)
def k33_1:KF:=K3 y0 y1 y6 fun c i x h a b d=>
 J a h fun e h=>
 A 9 e h fun f h=>
 L f h fun g h=>
 G g h fun j h=>
 x (T61 a b d g j i0) h
def k33_8:KF:=K3 y0 y1 y12 fun c i x h a b d=>
 J a h fun e h=>
 A 0 e h fun f h=>
 A 1 f h fun g h=>
 L g h fun j h=>
 tR (wg (.one .s) .ai false b j h) fun k h=>
 .nm (T65 a k d) h
def k33_10:KF:=K5 y0 y6 y12 y40 y55 fun c i x h a b d e f=>
 I f (J a h fun g h=>
 A 0 g h fun j h=>
 M 8 j h fun k h=>
 J a h fun l h=>
 A 10 l h fun m h=>
 L m h fun n h=>
 X 1 n i0 h fun o h=>
 L o h fun p h=>
 X 1 b i0 h fun q h=>
 L q h fun s h=>
 C c 79 [k,p,s] h fun t h=>
 E 0 t h fun v h=>
 E 1 t h fun w h=>
 .nm (T65 a v w) h) (Q e (pi 3) h fun g h=>
 I g (J a h fun j h=>
 A 0 j h fun k h=>
 M 8 k h fun l h=>
 J a h fun m h=>
 A 10 m h fun n h=>
 L n h fun o h=>
 X 1 o i0 h fun p h=>
 L p h fun q h=>
 X 1 b i0 h fun s h=>
 L s h fun t h=>
 C c 80 [l,q,t] h fun v h=>
 E 0 v h fun w h=>
 E 1 v h fun y h=>
 .nm (T65 a w y) h) (Q e (pi 5) h fun j h=>
 I j (X 1 b i0 h fun k h=>
 L k h fun l h=>
 X 1 b i1 h fun m h=>
 L m h fun n h=>
 C c 74 [l,n] h fun o h=>
 E 0 o h fun p h=>
 E 1 o h fun q h=>
 .nm (T65 a p q) h) (Q e (pi 4) h fun k h=>
 I k (X 1 b i0 h fun l h=>
 L l h fun m h=>
 X 1 b i1 h fun n h=>
 L n h fun o h=>
 C c 81 [a,m,o] h fun p h=>
 E 0 p h fun q h=>
 E 1 p h fun s h=>
 .nm (T65 a q s) h) (Q e (pi 7) h fun l h=>
 I l (J a h fun m h=>
 A 12 m h fun n h=>
 L n h fun o h=>
 X 1 b i0 h fun p h=>
 L p h fun q h=>
 C c 82 [o,q] h fun s h=>
 E 0 s h fun t h=>
 E 1 s h fun v h=>
 .nm (T65 a t v) h) (X 1 b i0 h fun m h=>
 L m h fun n h=>
 C c 83 [a,n] h fun o h=>
 .nm (T65 a o d) h)))))
def k33_9:KF:=K4 y0 y6 y12 y40 fun c i x h a b d e=>
 Q e (pi 2) h fun f h=>
 x (T66 a b d e f) h
def k33_7:KF:=K5 y0 y1 y6 y12 y40 fun c i x h a b d e f=>
 Q f i1 h fun g h=>
 x (T64 a b d e f g) h
def k33_6:KF:=K4 y0 y1 y6 y12 fun c i x h a b d e=>
 J a h fun f h=>
 A 0 f h fun g h=>
 A 0 g h fun j h=>
 L j h fun k h=>
 x (T63 a b d e k) h
def k33_12:KF:=K3 y11 y12 y153 fun c i x h a b d=>
 I d (.nm (T67 a (pi 13)) h) (.nm (T67 a b) h)
def k33_13:KF:=K2 y11 y12 fun c i x h a b=>
 .ret (T5 a b) h
def k33_11:KF:=K3 y0 y11 y12 fun c i x h a b d=>
 Q d i0 h fun e h=>
 I e (J a h fun f h=>
 A 11 f h fun g h=>
 L g h fun j h=>
 C c 74 [j,b] h fun k h=>
 E 0 k h fun l h=>
 E 1 k h fun m h=>
 J a h fun n h=>
 A 11 n h fun o h=>
 W o l h fun p h=>
 x (T65 a b m) h) (x (T65 a b d) h)
def k33_5:KF:=K3 y0 y1 y6 fun c i x h a b d=>
 x (T62 a b d i0) h
def k33_0:KF:=K2 y0 y1 fun c i x h a b=>
 x (T17 a b .ai) h
def x33:AC:=(.ah k33_0 (.seq (.ah k33_1 (.block 0 (.loop (.ah k33_2 (.ah k33_3 (.ah k33_4 .skip)))))) (.ah k33_5 (.seq (.ah k33_6 (.block 2 (.ah k33_7 (.cond r46 (.ah k33_8 .skip) (.ah k33_9 (.ah k33_10 .skip)))))) (.ah k33_11 (.seq (.seq (.ops [m d145 r12,
 o d146 (.bin .eq r145 a0),
 m d147 r146,
 .g .h9 .h3 true d148 (.op (.mv r0)),
 .g .h9 .h3 true d149 (.op (.nq r148)),
 .g .h9 .h3 true d150 (.op (.cG 11 r149)),
 .g .h9 .h3 true d151 (.op (.bZ r150)),
 .g .h9 .h3 true d152 (.call 84 [r151]),
 o d153 (.pick r147 r152 (.c (.bool false)))]) (.ah k33_12 .skip)) (.ah k33_13 .skip)))))))
def f33:AF:=.mk x33 [.t .h0 .h4,.t .h0 .h5]
def k34_2:KF:=K4 y3 y6 y7 y8 fun c i x h a b d e=>
 Y e d h fun f h=>
 I f (X 2 b e h fun g h=>
 M 2 g h fun j h=>
 O 27 2 (.k1 (Y2 .ai (.aj .f64 0 0))) h fun k h=>
 S 2 k j h fun l h=>
 A 0 k h fun m h=>
 L m h fun n h=>
 A 1 k h fun o h=>
 L o h fun p h=>
 C c 85 [n,p] h fun q h=>
 tR (bs 27 2 1 [.ai,(.aj .f64 0 0)] [.mk 0 2 (.c q)] h) fun s h=>
 tR (cX 27 2 a s h) fun t h=>
 D e i1 h fun v h=>
 .nm (T68 t b d v) h) (.ex 0 (T68 a b d e) h)
def k34_1:KF:=K2 y0 y3 fun c i x h a b=>
 G a h fun d h=>
 x (T68 b a d i0) h
def k34_3:KF:=K1 y3 fun c i x h a=>
 .ret (T2 a) h
def k34_0:KF:=K1 y0 fun c i x h a=>
 x (T0 a .ai) h
def x34:AC:=(.ah k34_0 (.seq (.ah k34_1 (.block 0 (.loop (.ah k34_2 .skip)))) (.ah k34_3 .skip)))
def f34:AF:=.mk x34 [.t .h0 .h2]
def k35_0:KF:=K2 y0 y1 fun c i x h a b=>
 J a h fun d h=>
 A 0 d h fun e h=>
 M 8 e h fun f h=>
 C c 86 [f,b] h fun g h=>
 .ret (T3 g) h
def x35:AC:=(.ah k35_0 .skip)
def f35:AF:=.mk x35 [.t .h0 .h4]
def k36_4:KF:=K3 y0 y3 y59 fun c i x h a b d=>
 I d (.ret (T2 (.bool false)) h) (.nm (T0 a b) h)
def k36_3:KF:=K2 y0 y3 fun c i x h a b=>
 X 2 a b h fun d h=>
 A 1 d h fun e h=>
 L e h fun f h=>
 C c 87 [f] h fun g h=>
 E 0 g h fun j h=>
 E 1 g h fun k h=>
 E 2 g h fun l h=>
 x (T69 a b j k l) h
def k36_5:KF:=K2 y0 y3 fun c i x h a b=>
 D b i1 h fun d h=>
 .nm (T0 a d) h
def k36_2:KF:=K2 y0 y3 fun c i x h a b=>
 G a h fun d h=>
 Y b d h fun e h=>
 I e (x (T0 a b) h) (.ex 0 T28 h)
def k36_1:KF:=K1 y0 fun c i x h a=>
 x (T0 a i0) h
def k36_6:KF:=fun c i x r h=>
 .ret (T2 (.bool true)) h
def k36_0:KF:=K1 y0 fun c i x h a=>
 x (T4 a) h
def x36:AC:=(.ah k36_0 (.seq (.ah k36_1 (.block 0 (.loop (.ah k36_2 (.seq (.block 1 (.ah k36_3 (.seq (.ops [m d23 r6,
 o d24 (.un .not r23),
 m d25 r24,
 .g .h1 .h9 false d26 (.op (.mv r4)),
 .g .h1 .h9 false d27 (.op (.bin .eq r26 a0)),
 .g .h1 .h9 false d28 (.op (.mv r5)),
 .g .h1 .h9 false d29 (.op (.bin .eq r28 a0)),
 .g .h1 .h9 false d30 (.op (.bin .beq r27 r29)),
 o d31 (.pick r25 (.c (.bool true)) r30),
 m d32 r31,
 .g .h2 .h0 false d33 (.op (.mv r0)),
 .g .h2 .h0 false d34 (.op (.mv r3)),
 .g .h2 .h0 false d35 (.op (.cn 2 r33 r34)),
 .g .h2 .h0 false d36 (.op (.cG 0 r35)),
 .g .h2 .h0 false d37 (.op (.bZ r36)),
 .g .h2 .h0 false d38 (.call 88 [r37]),
 .g .h2 .h0 false d39 (.op (.un .not r38)),
 o d40 (.pick r32 (.c (.bool true)) r39),
 m d41 r40,
 .g .h2 .h9 false d42 (.op (.mv r3)),
 .g .h2 .h9 false d43 (.op (.bin .gt r42 a0)),
 .g .h2 .h9 false d44 (.op (.mv r43)),
 .g .h2 .hc true d45 (.op (.mv r0)),
 .g .h2 .hc true d46 (.op (.mv r3)),
 .g .h2 .hc true d47 (.op (.bin .sub r46 a1)),
 .g .h2 .hc true d48 (.op (.cn 2 r45 r47)),
 .g .h2 .hc true d49 (.op (.cG 0 r48)),
 .g .h2 .hc true d50 (.op (.bZ r49)),
 .g .h2 .hc true d51 (.op (.mv r0)),
 .g .h2 .hc true d52 (.op (.mv r3)),
 .g .h2 .hc true d53 (.op (.cn 2 r51 r52)),
 .g .h2 .hc true d54 (.op (.cG 0 r53)),
 .g .h2 .hc true d55 (.op (.bZ r54)),
 .g .h2 .hc true d56 (.call 89 [r50,r55]),
 .g .h2 .hc true d57 (.op (.un .not r56)),
 .g .h2 .h9 false d58 (.op (.pick r44 r57 (.c (.bool false)))),
 o d59 (.pick r41 (.c (.bool true)) r58)]) (.ah k36_4 .skip)))) (.ah k36_5 .skip)))))) (.ah k36_6 .skip)))
def f36:AF:=.mk x36 [.t .h0 .h2]
def k37_3:KF:=K4 y0 y1 y5 y35 fun c i x h a b d e=>
 I e (.ret (T3 (.bool false)) h) (.nm (T27 a b d) h)
def k37_4:KF:=K3 y0 y1 y5 fun c i x h a b d=>
 D d i1 h fun e h=>
 .nm (T27 a b e) h
def k37_2:KF:=K3 y0 y1 y5 fun c i x h a b d=>
 G b h fun e h=>
 Y d e h fun f h=>
 I f (x (T27 a b d) h) (.ex 0 T28 h)
def k37_1:KF:=K2 y0 y1 fun c i x h a b=>
 x (T27 a b i0) h
def k37_5:KF:=fun c i x r h=>
 .ret (T3 (.bool true)) h
def k37_0:KF:=K2 y0 y1 fun c i x h a b=>
 G a h fun d h=>
 G b h fun e h=>
 tR (cP d e h) fun f h=>
 I f (.ret (T3 (.bool false)) h) (x (T16 a b) h)
def x37:AC:=(.ah k37_0 (.seq (.ah k37_1 (.block 0 (.loop (.ah k37_2 (.seq (.block 1 (.seq (.ops [m d17 r1,
 m d18 r5,
 o d19 (.cn 3 r17 r18),
 o d20 (.jO 3 r19),
 oc d21 90 [r20],
 o d22 (.un .not r21),
 m d23 r22,
 .g .h1 .h7 false d24 (.op (.mv r1)),
 .g .h1 .h7 false d25 (.op (.mv r5)),
 .g .h1 .h7 false d26 (.op (.cn 3 r24 r25)),
 .g .h1 .h7 false d27 (.op (.cG 0 r26)),
 .g .h1 .h7 false d28 (.op (.bZ r27)),
 .g .h1 .h7 false d29 (.op (.mv r0)),
 .g .h1 .h7 false d30 (.op (.mv r5)),
 .g .h1 .h7 false d31 (.op (.cn 2 r29 r30)),
 .g .h1 .h7 false d32 (.op (.cG 1 r31)),
 .g .h1 .h7 false d33 (.op (.bZ r32)),
 .g .h1 .h7 false d34 (.op (.bin .ne r28 r33)),
 o d35 (.pick r23 (.c (.bool true)) r34)]) (.ah k37_3 .skip))) (.ah k37_4 .skip)))))) (.ah k37_5 .skip)))
def f37:AF:=.mk x37 [.t .h0 .h4]
def k38_0:KF:=K2 y0 y1 fun c i x h a b=>
 tR (bs 27 2 0 [] [] h) fun d h=>
 tR (cX 27 2 d a h) fun e h=>
 tR (cX 27 2 e b h) fun f h=>
 C c 91 [f] h fun g h=>
 E 0 g h fun j h=>
 E 1 g h fun k h=>
 .ret (T5 j k) h
def x38:AC:=(.ah k38_0 .skip)
def f38:AF:=.mk x38 [.t .h0 .h4,.t .h0 .h5]
def k39_2:KF:=K2 y0 y3 fun c i x h a b=>
 G a h fun d h=>
 Y b d h fun e h=>
 I e (X 2 a b h fun f h=>
 A 1 f h fun g h=>
 L g h fun j h=>
 C c 92 [j] h fun k h=>
 Y k i0 h fun l h=>
 I l (.ret (T2 (.bool false)) h) (D b i1 h fun m h=>
 .nm (T0 a m) h)) (.ex 0 (T0 a b) h)
def k39_1:KF:=K1 y0 fun c i x h a=>
 x (T0 a i0) h
def k39_3:KF:=K1 y0 fun c i x h a=>
 C c 36 [a] h fun b h=>
 .ret (T2 b) h
def k39_0:KF:=K1 y0 fun c i x h a=>
 x (T4 a) h
def x39:AC:=(.ah k39_0 (.seq (.ah k39_1 (.block 0 (.loop (.ah k39_2 .skip)))) (.ah k39_3 .skip)))
def f39:AF:=.mk x39 [.t .h0 .h2]
def k40_2:KF:=K1 y9 fun c i x h a=>
 .ret (T5 a i0) h
def k40_1:KF:=K3 y1 y2 y7 fun c i x h a b d=>
 tR (cP d i0 h) fun e h=>
 I e (.ret (T5 .ai d) h) (M 8 b h fun f h=>
 C c 95 [f,a] h fun g h=>
 E 0 g h fun j h=>
 E 1 g h fun k h=>
 E 2 g h fun l h=>
 tR (cP l i0 h) fun m h=>
 I m (.ret (T5 .ai l) h) (x (T9 j) h))
def k40_0:KF:=K2 y0 y1 fun c i x h a b=>
 B 49 a h fun d h=>
 C c 93 [b] h fun e h=>
 tR (bG e h) fun f h=>
 I f (.ret (T5 .ai i1) h) (x (T6 b d) h)
def x40:AC:=(.ah k40_0 (.seq (.iB [q 0 (m d16 r1),
 w (oc d17 94 [r16]),
 q 1 (o d15 (.jO 8 r2)),
 w (oc d18 30 [r15,r17]),
 q 0 (m d14 r18),
 q 0 (oe d19 0 r14),
 q 0 (oe d20 1 r14),
 q 0 (oe d21 2 r14),
 q 0 (m d6 r19),
 q 0 (m d7 r20),
 q 0 (m d8 r21)]) (.ah k40_1 (.ah k40_2 .skip))))
def f40:AF:=.mk x40 [.t .h0 .h4,.t .h0 .h5]
def k41_3:KF:=K3 y0 y3 y4 fun c i x h a b d=>
 D d i1 h fun e h=>
 .nm (T1 a b e) h
def k41_2:KF:=K3 y0 y3 y4 fun c i x h a b d=>
 G a h fun e h=>
 Y d e h fun f h=>
 I f (x (T1 a b d) h) (.ex 0 (T13 b) h)
def k41_1:KF:=K2 y0 y3 fun c i x h a b=>
 x (T1 a b i0) h
def k41_4:KF:=K1 y3 fun c i x h a=>
 .ret (T2 a) h
def k41_0:KF:=K1 y0 fun c i x h a=>
 C c 36 [a] h fun b h=>
 tR (bG b h) fun d h=>
 I d (.ret (T2 .ai) h) (x (T0 a .ai) h)
def x41:AC:=(.ah k41_0 (.seq (.ah k41_1 (.block 0 (.loop (.ah k41_2 (.seq (.block 1 (.iB [w (o d15 (.bN 34 3 0 [] [])),
 q 1 (m d16 r0),
 q 1 (m d17 r4),
 q 1 (o d18 (.cn 2 r16 r17)),
 qf 1 d19 0 r18,
 ql 1 d20 r19,
 w (o d21 (.app 34 3 r15 r20)),
 q 2 (m d22 r0),
 q 2 (m d23 r4),
 q 2 (o d24 (.cn 2 r22 r23)),
 qf 2 d25 1 r24,
 ql 2 d26 r25,
 w (oc d27 96 [r26]),
 q 0 (o d28 (.build [.ai,(.aj .f64 0 0)] [.mk 0 1 r21,.mk 1 1 r27])),
 w (o d29 (.bN 27 2 1 [.ai,(.aj .f64 0 0)] [.mk 0 2 r28])),
 q 4 (m d14 r3),
 w (o d30 (.app 27 2 r14 r29)),
 q 0 (m d3 r30)])) (.ah k41_3 .skip)))))) (.ah k41_4 .skip)))
def f41:AF:=.mk x41 [.t .h0 .h2]
def k42_2:KF:=K3 y0 y1 y5 fun c i x h a b d=>
 G a h fun e h=>
 Y d e h fun f h=>
 I f (X 3 a d h fun g h=>
 M 3 g h fun j h=>
 X 3 b d h fun k h=>
 M 3 k h fun l h=>
 tR (bK (.XT [.i,.i,.s]) j l h) fun m h=>
 I m (.ret (T3 (.bool false)) h) (D d i1 h fun n h=>
 .nm (T27 a b n) h)) (.ex 0 (T27 a b d) h)
def k42_1:KF:=K2 y0 y1 fun c i x h a b=>
 x (T27 a b i0) h
def k42_3:KF:=fun c i x r h=>
 .ret (T3 (.bool true)) h
def k42_0:KF:=K2 y0 y1 fun c i x h a b=>
 G a h fun d h=>
 G b h fun e h=>
 tR (cP d e h) fun f h=>
 I f (.ret (T3 (.bool false)) h) (x (T16 a b) h)
def x42:AC:=(.ah k42_0 (.seq (.ah k42_1 (.block 0 (.loop (.ah k42_2 .skip)))) (.ah k42_3 .skip)))
def f42:AF:=.mk x42 [.t .h0 .h4]
def x43:AC:=b43
def f43:AF:=.mk x43 [.t .h0 .h2]
def x44:AC:=b44
def f44:AF:=.mk x44 [.t .h0 .h4]
def x45:AC:=b45
def f45:AF:=.mk x45 [.t .h0 .h2]
def x46:AC:=b46
def f46:AF:=.mk x46 [.t .h0 .h2,.t .h0 .h3]
def x49:AC:=b49
def f49:AF:=.mk x49 [.t .h0 .h2]
def x50:AC:=b50
def f50:AF:=.mk x50 [.t .h0 .h2]
def x51:AC:=b51
def f51:AF:=.mk x51 [.t .h0 .h4,.agg 2 .h0 .h5]
def k52_2:KF:=K4 y0 y1 y7 y8 fun c i x h a b d e=>
 Y e d h fun f h=>
 I f (X 2 a e h fun g h=>
 M 2 g h fun j h=>
 tT (cd c b [j] h) fun k h=>
 I k (.ret (T3 e) h) (D e i1 h fun l h=>
 .nm (T85 a b d l) h)) (.ex 0 (T85 a b d e) h)
def k52_1:KF:=K2 y0 y1 fun c i x h a b=>
 G a h fun d h=>
 x (T85 a b d i0) h
def k52_3:KF:=fun c i x r h=>
 .ret (T3 (ni 0)) h
def k52_0:KF:=K2 y0 y1 fun c i x h a b=>
 x (T16 a b) h
def x52:AC:=(.ah k52_0 (.seq (.ah k52_1 (.block 0 (.loop (.ah k52_2 .skip)))) (.ah k52_3 .skip)))
def f52:AF:=.mk x52 [.t .h0 .h4]
def x53:AC:=b53
def f53:AF:=.mk x53 [.t .h0 .h3]
def x54:AC:=b54
def f54:AF:=.mk x54 [.t .h0 .h2,.t .h0 .h3]
def x55:AC:=b55
def f55:AF:=.mk x55 [.t .h0 .h4]
def x56:AC:=b56
def f56:AF:=.mk x56 [.t .h0 .h4]
def x57:AC:=b57
def f57:AF:=.mk x57 [.t .h0 .h4,.t .h0 .h5]
def x58:AC:=b58
def f58:AF:=.mk x58 [.t .h0 .h4]
def x59:AC:=b59
def f59:AF:=.mk x59 [.t .h0 .h4]
def x60:AC:=b60
def f60:AF:=.mk x60 [.t .h0 .h4]
def k61_0:KF:=K1 y0 fun c i x h a=>
 G a h fun b h=>
 tR (cK (.toInt .u64) b h) fun d h=>
 C c 129 [d] h fun e h=>
 C c 128 [a,i0,b,e] h fun f h=>
 .nm T28 h
def x61:AC:=(.ah k61_0 .skip)
def f61:AF:=.mk x61 []
def x62:AC:=b62
def f62:AF:=.mk x62 [.t .h0 .h2]
def k63_7:KF:=K5 y0 y2 y5 y6 y8 fun c i x h a b d e f=>
 tR (eo 5 (.c d) .none (.some (.c f)) .none .nil h) fun g h=>
 D e i1 h fun j h=>
 .ex 1 (T106 a b g j u f) h
def k63_6:KF:=K5 y0 y2 y5 y6 y8 fun c i x h a b d e f=>
 Q f i0 h fun g h=>
 I g (U [i0,iS,i0,.ai,i0] [] h fun j h=>
 S 5 b j h fun k h=>
 .ret (T48 b (pi 12) e) h) (x (T108 a b d e f) h)
def k63_5:KF:=K6 y0 y2 y5 y6 y7 y8 fun c i x h a b d e f g=>
 Q f (.int .u8 (.ofNat 41)) h fun j h=>
 x (T107 a b d e f g j) h
def k63_8:KF:=K7 y0 y2 y5 y6 y7 y8 y86 fun c i x h a b d e f g j=>
 I j (U [i0,iS,i0,.ai,i0] [] h fun k h=>
 S 5 b k h fun l h=>
 .ret (T48 b (pi 12) e) h) (.nm (T106 a b d e f g) h)
def k63_9:KF:=K7 y0 y2 y5 y6 y7 y8 y98 fun c i x h a b d e f g j=>
 I j (U [i0,iS,i0,.ai,i0] [] h fun k h=>
 S 5 b k h fun l h=>
 .ret (T48 b (pi 11) e) h) (.nm (T106 a b d e f g) h)
def k63_12:KF:=K4 y0 y2 y5 y10 fun c i x h a b d e=>
 .nm (T103 a b d e) h
def k63_11:KF:=K5 y0 y2 y5 y6 y8 fun c i x h a b d e f=>
 C c 132 [a,e] h fun g h=>
 E 0 g h fun j h=>
 E 1 g h fun k h=>
 E 2 g h fun l h=>
 E 3 g h fun m h=>
 O 150 5 (.k1 (Y5 i0 iS i0 .ai i0)) h fun n h=>
 S 5 n j h fun o h=>
 tR (cP l i0 h) fun p h=>
 I p (U [i0,iS,i0,.ai,i0] [] h fun q h=>
 S 5 b q h fun s h=>
 .ret (T48 b l m) h) (x (T109 a b d f n k) h)
def k63_10:KF:=K6 y0 y2 y5 y6 y7 y8 fun c i x h a b d e f g=>
 Q f (.int .u8 (.ofNat 40)) h fun j h=>
 I j (tR (nN g (pi 12) h) fun k h=>
 I k (U [i0,iS,i0,.ai,i0] [] h fun l h=>
 S 5 b l h fun m h=>
 .ret (T48 b (pi 14) e) h) (tR (bs 150 5 0 [] [] h) fun l h=>
 tR (cX 150 5 l d h) fun m h=>
 U [i0,iS,i0,.ai,i0] [.mk 0 1 (.c i1),.mk 4 1 (.c e)] h fun n h=>
 tR (bs 150 5 1 [i0,iS,i0,.ai,i0] [.mk 0 5 (.c n)] h) fun o h=>
 tR (cX 150 5 m o h) fun p h=>
 D e i1 h fun q h=>
 .ex 1 (T103 a b p q) h)) (x (T108 a b d e g) h)
def k63_4:KF:=K5 y0 y2 y5 y6 y7 fun c i x h a b d e f=>
 G d h fun g h=>
 Z g i1 h fun j h=>
 x (T106 a b d e f j) h
def k63_3:KF:=K5 y0 y2 y5 y6 y7 fun c i x h a b d e f=>
 Q f (.int .u8 (.ofNat 32)) h fun g h=>
 gD g false (fun j=>j f h) h fun j h=>
 gD g false (fun k=>Q j (.int .u8 (.ofNat 10)) h fun l h=>
 k l h) h fun k h=>
 tR (dm (.c g) (.c (.bool true)) (.c k) .nil h) fun l h=>
 I l (D e i1 h fun m h=>
 .ex 1 (T103 a b d m) h) (x (T105 a b d e f) h)
def k63_2:KF:=K4 y0 y2 y5 y6 fun c i x h a b d e=>
 tR (gG (.c a) (.c e) .nil h) fun f h=>
 x (T105 a b d e f) h
def k63_1:KF:=K4 y0 y2 y5 y6 fun c i x h a b d e=>
 tR (iw a h) fun f h=>
 Y e f h fun g h=>
 I g (x (T103 a b d e) h) (.ex 0 (T104 a b d) h)
def k63_13:KF:=K4 y0 y2 y5 y154 fun c i x h a b d e=>
 I e (U [i0,iS,i0,.ai,i0] [] h fun f h=>
 tR (iw a h) fun g h=>
 S 5 b f h fun j h=>
 .ret (T48 b (pi 10) g) h) (.nm (T49 b d) h)
def k63_14:KF:=K2 y2 y5 fun c i x h a b=>
 X 5 b i0 h fun d h=>
 A 3 d h fun e h=>
 L e h fun f h=>
 X 5 f i0 h fun g h=>
 M 5 g h fun j h=>
 S 5 a j h fun k h=>
 .ret (T48 a i0 i0) h
def k63_0:KF:=K1 y0 fun c i x h a=>
 O 150 5 (.k1 (Y5 i0 iS i0 .ai i0)) h fun b h=>
 tR (iw a h) fun d h=>
 tR (mE d (pi 600) h) fun e h=>
 I e (U [i0,iS,i0,.ai,i0] [] h fun f h=>
 S 5 b f h fun g h=>
 .ret (T48 b (pi 3) i0) h) (U [i0,iS,i0,.ai,i0] [] h fun f h=>
 tR (bs 150 5 1 [i0,iS,i0,.ai,i0] [.mk 0 5 (.c f)] h) fun g h=>
 x (T103 a b g i0) h)
def x63:AC:=(.ah k63_0 (.seq (.block 0 (.loop (.ah k63_1 (.block 1 (.ah k63_2 (.ah k63_3 (.ah k63_4 (.seq (.ah k63_5 (.cond r38 (.ah k63_6 (.seq (.iB [w (o d46 (.bN 150 5 0 [] [])),
 q 1 (m d47 r5),
 q 1 (m d48 r8),
 q 1 (o d49 (.bin .sub r48 a1)),
 q 1 (o d50 (.cn 5 r47 r49)),
 qf 1 d51 3 r50,
 ql 1 d52 r51,
 w (o d53 (.app 150 5 r46 r52)),
 q 2 (m d54 r5),
 q 2 (m d55 r8),
 q 2 (o d56 (.cn 5 r54 r55)),
 q 2 (o d57 (.jO 5 r56)),
 n (o d58 (.bN 150 5 1 [i0,iS,i0,.ai,i0] [.mk 0 5 r57])),
 w (o d59 (.app 150 5 r53 r58)),
 q 3 (m d43 r5),
 q 3 (m d44 r8),
 q 3 (o d45 (.bin .sub r44 a1)),
 q 0 (o d60 (.cn 5 r43 r45)),
 qf 0 d61 3 r60,
 w (os r61 r59)]) (.ah k63_7 .skip))) .skip)) (.seq (.seq (.ops [m d67 r7,
 o d68 (.bin .ne r67 (.c (.int .u8 (.ofNat 40)))),
 m d69 r68,
 .g .h4 .h5 true d70 (.op (.mv r7)),
 .g .h4 .h5 true d71 (.op (.bin .ne r70 (.c (.int .u8 (.ofNat 34))))),
 o d72 (.pick r69 r71 (.c (.bool false))),
 m d73 r72,
 .g .h4 .h9 true d74 (.op (.mv r7)),
 .g .h4 .h9 true d75 (.op (.bin .ne r74 (.c (.int .u8 (.ofNat 45))))),
 o d76 (.pick r73 r75 (.c (.bool false))),
 m d77 r76,
 .g .h4 .hd true d78 (.op (.mv r7)),
 .g .h4 .hd true d79 (.call 130 [r78]),
 .g .h4 .hd true d80 (.op (.un .not r79)),
 o d81 (.pick r77 r80 (.c (.bool false))),
 m d82 r81,
 .g .h5 .h2 true d83 (.op (.mv r7)),
 .g .h5 .h2 true d84 (.call 131 [r83]),
 .g .h5 .h2 true d85 (.op (.un .not r84)),
 o d86 (.pick r82 r85 (.c (.bool false)))]) (.ah k63_8 .skip)) (.seq (.seq (.ops [m d89 r8,
 o d90 (.bin .eq r89 a0),
 m d91 r90,
 .g .h5 .hb true d92 (.op (.mv r5)),
 .g .h5 .hb true d93 (.op (.cn 5 r92 a0)),
 .g .h5 .hb true d94 (.op (.cG 3 r93)),
 .g .h5 .hb true d95 (.op (.bZ r94)),
 .g .h5 .hb true d96 (.op (.len r95)),
 .g .h5 .hb true d97 (.op (.bin .gt r96 a0)),
 o d98 (.pick r91 r97 (.c (.bool false)))]) (.ah k63_9 .skip)) (.ah k63_10 (.ah k63_11 (.seq (.iB [w (o d131 (.bN 150 5 0 [] [])),
 q 1 (m d132 r5),
 q 1 (m d133 r8),
 q 1 (o d134 (.cn 5 r132 r133)),
 qf 1 d135 3 r134,
 ql 1 d136 r135,
 w (o d137 (.app 150 5 r131 r136)),
 q 2 (o d138 (.jO 5 r9)),
 n (o d139 (.bN 150 5 1 [i0,iS,i0,.ai,i0] [.mk 0 5 r138])),
 w (o d140 (.app 150 5 r137 r139)),
 q 3 (m d129 r5),
 q 3 (m d130 r8),
 q 0 (o d141 (.cn 5 r129 r130)),
 qf 0 d142 3 r141,
 w (os r142 r140)]) (.ah k63_12 .skip)))))))))))))) (.seq (.seq (.ops [m d144 r5,
 o d145 (.len r144),
 o d146 (.bin .gt r145 a1),
 m d147 r146,
 .g .h9 .h3 false d148 (.op (.mv r5)),
 .g .h9 .h3 false d149 (.op (.cn 5 r148 a0)),
 .g .h9 .h3 false d150 (.op (.cG 3 r149)),
 .g .h9 .h3 false d151 (.op (.bZ r150)),
 .g .h9 .h3 false d152 (.op (.len r151)),
 .g .h9 .h3 false d153 (.op (.bin .eq r152 a0)),
 o d154 (.pick r147 (.c (.bool true)) r153)]) (.ah k63_13 .skip)) (.ah k63_14 .skip))))
def f63:AF:=.mk x63 [.agg 5 .h0 .h2,.t .h0 .h3,.t .h0 .h4]
def k64_1:KF:=K2 y1 y2 fun c i x h a b=>
 M 5 a h fun d h=>
 C c 133 [d] h fun e h=>
 tR (bG e h) fun f h=>
 x (T110 a b f) h
def k64_5:KF:=K4 y2 y5 y6 y9 fun c i x h a b d e=>
 A 0 b h fun f h=>
 W f i1 h fun g h=>
 X 5 d i1 h fun j h=>
 M 5 j h fun k h=>
 C c 135 [k] h fun l h=>
 E 0 l h fun m h=>
 E 1 l h fun n h=>
 E 2 l h fun o h=>
 A 1 b h fun p h=>
 W p m h fun q h=>
 .nm (T114 a b n o e) h
def k64_7:KF:=K3 y2 y5 y6 fun c i x h a b d=>
 A 0 b h fun e h=>
 W e (pi 2) h fun f h=>
 O 202 4 (.k1 (Y4 i0 iS i0 .ai)) h fun g h=>
 X 5 d i1 h fun j h=>
 M 5 j h fun k h=>
 C c 136 [k] h fun l h=>
 E 0 l h fun m h=>
 E 1 l h fun n h=>
 E 2 l h fun o h=>
 S 4 g m h fun p h=>
 M 4 g h fun q h=>
 tR (bs 202 4 1 [i0,iS,i0,.ai] [.mk 0 4 (.c q)] h) fun s h=>
 A 2 b h fun t h=>
 W t s h fun v h=>
 tR (eo 5 (.c d) (.some (.c (pi 2))) .none .none .nil h) fun w h=>
 .nm (T114 a b n o w) h
def k64_13:KF:=K6 y2 y5 y6 y7 y8 y11 fun c i x h a b d e f g=>
 D g i1 h fun j h=>
 .nm (T118 a b d e f j) h
def k64_12:KF:=K4 y2 y5 y6 y11 fun c i x h a b d e=>
 X 5 d e h fun f h=>
 A 3 f h fun g h=>
 L g h fun j h=>
 X 5 j i0 h fun k h=>
 M 5 k h fun l h=>
 C c 135 [l] h fun m h=>
 E 0 m h fun n h=>
 E 1 m h fun o h=>
 E 2 m h fun p h=>
 tR (cP o i0 h) fun q h=>
 I q (.ex 1 (T117 a b d o p) h) (O 202 4 (.k1 (Y4 i0 iS i0 .ai)) h fun s h=>
 X 5 d e h fun t h=>
 A 3 t h fun v h=>
 L v h fun w h=>
 X 5 w i1 h fun y h=>
 M 5 y h fun z h=>
 C c 136 [z] h fun a0 h=>
 E 0 a0 h fun a1 h=>
 E 1 a0 h fun a2 h=>
 E 2 a0 h fun a3 h=>
 S 4 s a1 h fun a4 h=>
 A 3 b h fun a5 h=>
 L a5 h fun a6 h=>
 tR (bs 9 1 1 [iS] [.mk 0 1 (.c n)] h) fun a7 h=>
 tR (cX 9 1 a6 a7 h) fun a8 h=>
 A 3 b h fun a9 h=>
 W a9 a8 h fun b0 h=>
 A 2 b h fun b1 h=>
 L b1 h fun b2 h=>
 M 4 s h fun b3 h=>
 tR (bs 202 4 1 [i0,iS,i0,.ai] [.mk 0 4 (.c b3)] h) fun b4 h=>
 tR (cX 202 4 b2 b4 h) fun b5 h=>
 A 2 b h fun b6 h=>
 W b6 b5 h fun b7 h=>
 x (T118 a b d a2 a3 e) h)
def k64_11:KF:=K6 y2 y5 y6 y7 y8 y11 fun c i x h a b d e f g=>
 G d h fun j h=>
 Z j i1 h fun k h=>
 Y g k h fun l h=>
 gD l true (fun m=>m e h) h fun m h=>
 gD l true (fun n=>Q m i0 h fun o h=>
 n o h) h fun n h=>
 tR (dm (.c l) (.c n) (.c (.bool false)) .nil h) fun o h=>
 I o (x (T119 a b d g) h) (.ex 1 (T117 a b d e f) h)
def k64_10:KF:=K5 y2 y5 y6 y7 y8 fun c i x h a b d e f=>
 x (T118 a b d e f i1) h
def k64_14:KF:=K5 y2 y5 y6 y7 y8 fun c i x h a b d e f=>
 G d h fun g h=>
 Z g i1 h fun j h=>
 tR (eo 5 (.c d) (.some (.c j)) .none .none .nil h) fun k h=>
 .nm (T114 a b e f k) h
def k64_9:KF:=K5 y2 y5 y6 y7 y8 fun c i x h a b d e f=>
 A 0 b h fun g h=>
 W g (pi 3) h fun j h=>
 x (T117 a b d e f) h
def k64_17:KF:=K5 y2 y5 y6 y7 y8 fun c i x h a b d e f=>
 Q e i0 h fun g h=>
 I g (X 5 d (pi 2) h fun j h=>
 A 3 j h fun k h=>
 L k h fun l h=>
 C c 137 [l] h fun m h=>
 E 0 m h fun n h=>
 E 1 m h fun o h=>
 E 2 m h fun p h=>
 A 5 b h fun q h=>
 W q n h fun s h=>
 tR (eo 5 (.c d) (.some (.c (pi 3))) .none .none .nil h) fun t h=>
 .nm (T114 a b o p t) h) (tR (eo 5 (.c d) (.some (.c (pi 3))) .none .none .nil h) fun j h=>
 .nm (T114 a b e f j) h)
def k64_16:KF:=K3 y2 y5 y6 fun c i x h a b d=>
 A 0 b h fun e h=>
 W e (pi 4) h fun f h=>
 X 5 d i1 h fun g h=>
 A 3 g h fun j h=>
 L j h fun k h=>
 C c 137 [k] h fun l h=>
 E 0 l h fun m h=>
 E 1 l h fun n h=>
 E 2 l h fun o h=>
 A 4 b h fun p h=>
 W p m h fun q h=>
 x (T117 a b d n o) h
def k64_19:KF:=K5 y2 y5 y6 y7 y8 fun c i x h a b d e f=>
 A 0 b h fun g h=>
 W g (pi 5) h fun j h=>
 tR (eo 5 (.c d) (.some (.c i1)) .none .none .nil h) fun k h=>
 .nm (T114 a b e f k) h
def k64_21:KF:=K5 y2 y5 y6 y7 y8 fun c i x h a b d e f=>
 A 0 b h fun g h=>
 W g (pi 6) h fun j h=>
 tR (eo 5 (.c d) (.some (.c i1)) .none .none .nil h) fun k h=>
 .nm (T114 a b e f k) h
def k64_27:KF:=K6 y2 y5 y6 y7 y8 y14 fun c i x h a b d e f g=>
 D g i1 h fun j h=>
 .nm (T124 a b d e f j) h
def k64_26:KF:=K4 y2 y5 y6 y14 fun c i x h a b d e=>
 O 214 3 (.k1 (Y3 iS iS iS)) h fun f h=>
 X 5 d e h fun g h=>
 A 3 g h fun j h=>
 L j h fun k h=>
 C c 138 [k] h fun l h=>
 E 0 l h fun m h=>
 E 1 l h fun n h=>
 E 2 l h fun o h=>
 S 3 f m h fun p h=>
 A 6 b h fun q h=>
 L q h fun s h=>
 M 3 f h fun t h=>
 tR (bs 214 3 1 [iS,iS,iS] [.mk 0 3 (.c t)] h) fun v h=>
 tR (cX 214 3 s v h) fun w h=>
 A 6 b h fun y h=>
 W y w h fun z h=>
 x (T124 a b d n o e) h
def k64_25:KF:=K6 y2 y5 y6 y7 y8 y14 fun c i x h a b d e f g=>
 G d h fun j h=>
 Z j i1 h fun k h=>
 Y g k h fun l h=>
 gD l true (fun m=>m e h) h fun m h=>
 gD l true (fun n=>Q m i0 h fun o h=>
 n o h) h fun n h=>
 tR (dm (.c l) (.c n) (.c (.bool false)) .nil h) fun o h=>
 I o (x (T125 a b d g) h) (.ex 3 (T117 a b d e f) h)
def k64_24:KF:=K5 y2 y5 y6 y7 y8 fun c i x h a b d e f=>
 x (T124 a b d e f (pi 2)) h
def k64_28:KF:=K5 y2 y5 y6 y7 y8 fun c i x h a b d e f=>
 G d h fun g h=>
 Z g i1 h fun j h=>
 tR (eo 5 (.c d) (.some (.c j)) .none .none .nil h) fun k h=>
 .nm (T114 a b e f k) h
def k64_23:KF:=K3 y2 y5 y6 fun c i x h a b d=>
 A 0 b h fun e h=>
 W e (pi 7) h fun f h=>
 X 5 d i1 h fun g h=>
 A 3 g h fun j h=>
 L j h fun k h=>
 C c 137 [k] h fun l h=>
 E 0 l h fun m h=>
 E 1 l h fun n h=>
 E 2 l h fun o h=>
 A 4 b h fun p h=>
 W p m h fun q h=>
 x (T117 a b d n o) h
def k64_22:KF:=K7 y2 y5 y6 y7 y8 y9 y28 fun c i x h a b d e f g j=>
 tR (aW j (.str [103,114,111,117,112]) h) fun k h=>
 x (T123 a b d e f g k) h
def k64_20:KF:=K7 y2 y5 y6 y7 y8 y9 y28 fun c i x h a b d e f g j=>
 tR (aW j (.str [100,105,115,116,105,110,99,116]) h) fun k h=>
 x (T122 a b d e f g j k) h
def k64_18:KF:=K7 y2 y5 y6 y7 y8 y9 y28 fun c i x h a b d e f g j=>
 tR (aW j (.str [117,110,105,111,110]) h) fun k h=>
 x (T121 a b d e f g j k) h
def k64_15:KF:=K7 y2 y5 y6 y7 y8 y9 y28 fun c i x h a b d e f g j=>
 tR (aW j (.str [106,111,105,110]) h) fun k h=>
 x (T120 a b d e f g j k) h
def k64_8:KF:=K7 y2 y5 y6 y7 y8 y9 y28 fun c i x h a b d e f g j=>
 tR (aW j (.str [112,114,111,106,101,99,116]) h) fun k h=>
 x (T116 a b d e f g j k) h
def k64_6:KF:=K7 y2 y5 y6 y7 y8 y9 y28 fun c i x h a b d e f g j=>
 tR (aW j (.str [102,105,108,116,101,114]) h) fun k h=>
 x (T115 a b d e f g j k) h
def k64_4:KF:=K7 y2 y5 y6 y7 y8 y9 y28 fun c i x h a b d e f g j=>
 tR (aW j (.str [116,97,98,108,101]) h) fun k h=>
 x (T113 a b d e f g j k) h
def k64_3:KF:=K7 y1 y2 y5 y6 y7 y8 y9 fun c i x h a b d e f g j=>
 M 5 a h fun k h=>
 C c 134 [k] h fun l h=>
 x (T112 b d e f g j l) h
def k64_32:KF:=K6 y2 y5 y7 y8 y9 y16 fun c i x h a b d e f g=>
 D g i1 h fun j h=>
 .nm (T126 a b d e f j) h
def k64_31:KF:=K4 y2 y5 y9 y16 fun c i x h a b d e=>
 O 49 8 (.k1 (Y8 i0 iS .ai .ai .ai .ai .ai .ai)) h fun f h=>
 X 5 d e h fun g h=>
 M 5 g h fun j h=>
 C c 64 [j] h fun k h=>
 E 0 k h fun l h=>
 E 1 k h fun m h=>
 E 2 k h fun n h=>
 S 8 f l h fun o h=>
 A 7 b h fun p h=>
 L p h fun q h=>
 M 8 f h fun s h=>
 tR (bs 49 8 1 [i0,iS,.ai,.ai,.ai,.ai,.ai,.ai] [.mk 0 8 (.c s)] h) fun t h=>
 tR (cX 49 8 q t h) fun v h=>
 A 7 b h fun w h=>
 W w v h fun y h=>
 x (T126 a b m n d e) h
def k64_30:KF:=K6 y2 y5 y7 y8 y9 y16 fun c i x h a b d e f g=>
 G f h fun j h=>
 Y g j h fun k h=>
 gD k true (fun l=>l d h) h fun l h=>
 gD k true (fun m=>Q l i0 h fun n h=>
 m n h) h fun m h=>
 tR (dm (.c k) (.c m) (.c (.bool false)) .nil h) fun n h=>
 I n (x (T127 a b f g) h) (.ex 5 (T128 a b d e) h)
def k64_29:KF:=K5 y2 y5 y7 y8 y9 fun c i x h a b d e f=>
 x (T126 a b d e f i0) h
def k64_33:KF:=K4 y2 y5 y7 y8 fun c i x h a b d e=>
 tR (cP d i0 h) fun f h=>
 I f (U [i0,iS,.ai,.ai,.ai,.ai,.ai,.ai] [] h fun g h=>
 S 8 a g h fun j h=>
 .ret (T48 a d e) h) (M 8 b h fun g h=>
 S 8 a g h fun j h=>
 .ret (T48 a i0 i0) h)
def k64_2:KF:=K2 y1 y2 fun c i x h a b=>
 U [i0,iS,.ai,.ai,.ai,.ai,.ai,.ai] [] h fun d h=>
 O 49 8 (.k1 (Y8 i0 iS .ai .ai .ai .ai .ai .ai)) h fun e h=>
 S 8 e d h fun f h=>
 A 3 a h fun g h=>
 L g h fun j h=>
 x (T111 a b e j i0 i0 .ai) h
def k64_0:KF:=K1 y0 fun c i x h a=>
 B 150 a h fun b h=>
 O 49 8 (.k1 (Y8 i0 iS .ai .ai .ai .ai .ai .ai)) h fun d h=>
 x (T6 b d) h
def x64:AC:=(.ah k64_0 (.seq (.ah k64_1 (.cond r20 (.seq (.iB [q 0 (o d21 (.build [i0,iS,.ai,.ai,.ai,.ai,.ai,.ai] [])),
 w (o .no (.uK 8 r2 r21)),
 qf 1 d22 4 r1,
 ql 1 d23 r22,
 q 0 (m d3 (.c (pi 12))),
 q 0 (m d4 r23)]) .ret) .skip)) (.ah k64_2 (.seq (.ah k64_3 (.block 0 (.ah k64_4 (.cond r29 (.ah k64_5 .skip) (.ah k64_6 (.cond r41 (.ah k64_7 .skip) (.ah k64_8 (.cond r57 (.ah k64_9 (.seq (.ah k64_10 (.block 1 (.loop (.ah k64_11 (.ah k64_12 (.ah k64_13 .skip)))))) (.ah k64_14 .skip))) (.ah k64_15 (.cond r114 (.ah k64_16 (.ah k64_17 .skip)) (.ah k64_18 (.cond r141 (.ah k64_19 .skip) (.ah k64_20 (.cond r146 (.ah k64_21 .skip) (.ah k64_22 (.cond r151 (.ah k64_23 (.seq (.ah k64_24 (.block 3 (.loop (.ah k64_25 (.ah k64_26 (.ah k64_27 .skip)))))) (.ah k64_28 .skip))) .skip)))))))))))))))) (.seq (.ah k64_29 (.block 5 (.loop (.ah k64_30 (.ah k64_31 (.ah k64_32 .skip)))))) (.ah k64_33 .skip))))))
def f64:AF:=.mk x64 [.agg 8 .h0 .h2,.t .h0 .h3,.t .h0 .h4]
def k65_3:KF:=K1 y1 fun c i x h a=>
 A 1 a h fun b h=>
 L b h fun d h=>
 tR (df (.str [40,116,97,98,108,101,32]) d h) fun e h=>
 tR (df e (.str [41]) h) fun f h=>
 .ret (T2 f) h
def k65_5:KF:=K1 y1 fun c i x h a=>
 A 2 a h fun b h=>
 L b h fun d h=>
 G d h fun e h=>
 Q e i1 h fun f h=>
 I f (tR (df (.str [40,102,105,108,116,101,114]) (.str [32]) h) fun g h=>
 A 2 a h fun j h=>
 L j h fun k h=>
 X 4 k i0 h fun l h=>
 M 4 l h fun m h=>
 C c 140 [m] h fun n h=>
 C c 139 [n] h fun o h=>
 tR (df g o h) fun p h=>
 .nm (T130 a p) h) (.nm (T130 a (.str [40,102,105,108,116,101,114])) h)
def k65_8:KF:=K4 y1 y3 y4 y44 fun c i x h a b d e=>
 I e (.nm (T132 a b d) h) (.ex 1 (T132 a b d) h)
def k65_9:KF:=K3 y1 y3 y4 fun c i x h a b d=>
 D d i1 h fun e h=>
 .nm (T132 a b e) h
def k65_7:KF:=K1 y1 fun c i x h a=>
 x (T132 a (.str [40,112,114,111,106,101,99,116]) i0) h
def k65_12:KF:=K1 y1 fun c i x h a=>
 .nm (T130 a (.str [40,117,110,105,111,110])) h
def k65_14:KF:=K1 y1 fun c i x h a=>
 .nm (T130 a (.str [40,100,105,115,116,105,110,99,116])) h
def k65_19:KF:=K3 y1 y3 y5 fun c i x h a b d=>
 D d i1 h fun e h=>
 .nm (T137 a b e) h
def k65_18:KF:=K3 y1 y3 y5 fun c i x h a b d=>
 A 6 a h fun e h=>
 L e h fun f h=>
 X 3 f d h fun g h=>
 M 3 g h fun j h=>
 O 214 3 (.k1 (Y3 iS iS iS)) h fun k h=>
 S 3 k j h fun l h=>
 tR (df b (.str [32,40]) h) fun m h=>
 A 0 k h fun n h=>
 L n h fun o h=>
 tR (df m o h) fun p h=>
 tR (df p (.str [32]) h) fun q h=>
 A 1 k h fun s h=>
 L s h fun t h=>
 tR (df q t h) fun v h=>
 A 1 k h fun w h=>
 L w h fun y h=>
 tR (yD y (.str [99,111,117,110,116]) h) fun z h=>
 I z (tR (df v (.str [32]) h) fun a0 h=>
 A 2 k h fun a1 h=>
 L a1 h fun a2 h=>
 tR (df a0 a2 h) fun a3 h=>
 tR (df a3 (.str [41]) h) fun a4 h=>
 x (T137 a a4 d) h) (tR (df v (.str [41]) h) fun a0 h=>
 x (T137 a a0 d) h)
def k65_17:KF:=K3 y1 y3 y5 fun c i x h a b d=>
 A 6 a h fun e h=>
 L e h fun f h=>
 G f h fun g h=>
 Y d g h fun j h=>
 I j (x (T137 a b d) h) (.ex 3 (T130 a b) h)
def k65_16:KF:=K1 y1 fun c i x h a=>
 A 4 a h fun b h=>
 L b h fun d h=>
 C c 141 [d] h fun e h=>
 tR (df (.str [40,103,114,111,117,112,32]) e h) fun f h=>
 x (T137 a f i0) h
def k65_20:KF:=fun c i x r h=>
 .ret (T2 iS) h
def k65_15:KF:=K2 y1 y9 fun c i x h a b=>
 Q b (pi 7) h fun d h=>
 x (T136 a d) h
def k65_13:KF:=K2 y1 y9 fun c i x h a b=>
 Q b (pi 6) h fun d h=>
 x (T135 a b d) h
def k65_11:KF:=K2 y1 y9 fun c i x h a b=>
 Q b (pi 5) h fun d h=>
 x (T134 a b d) h
def k65_10:KF:=K2 y1 y9 fun c i x h a b=>
 Q b (pi 4) h fun d h=>
 x (T133 a b d) h
def k65_6:KF:=K2 y1 y9 fun c i x h a b=>
 Q b (pi 3) h fun d h=>
 x (T131 a b d) h
def k65_4:KF:=K2 y1 y9 fun c i x h a b=>
 Q b (pi 2) h fun d h=>
 x (T129 a b d) h
def k65_2:KF:=K2 y1 y9 fun c i x h a b=>
 Q b i1 h fun d h=>
 x (T12 a b d) h
def k65_1:KF:=K1 y1 fun c i x h a=>
 A 0 a h fun b h=>
 L b h fun d h=>
 x (T11 a d) h
def k65_22:KF:=K3 y1 y3 y7 fun c i x h a b d=>
 A 7 a h fun e h=>
 L e h fun f h=>
 G f h fun g h=>
 Y d g h fun j h=>
 I j (tR (df b (.str [32]) h) fun k h=>
 A 7 a h fun l h=>
 L l h fun m h=>
 X 8 m d h fun n h=>
 M 8 n h fun o h=>
 C c 65 [o] h fun p h=>
 tR (df k p h) fun q h=>
 D d i1 h fun s h=>
 .nm (T138 a q s) h) (.ex 5 (T138 a b d) h)
def k65_21:KF:=K2 y1 y3 fun c i x h a b=>
 x (T138 a b i0) h
def k65_23:KF:=K1 y3 fun c i x h a=>
 tR (df a (.str [41]) h) fun b h=>
 .ret (T2 b) h
def k65_0:KF:=K1 y0 fun c i x h a=>
 B 49 a h fun b h=>
 x (T35 b) h
def x65:AC:=(.ah k65_0 (.seq (.ah k65_1 (.block 0 (.ah k65_2 (.cond r10 (.ah k65_3 .skip) (.ah k65_4 (.cond r16 (.ah k65_5 .skip) (.ah k65_6 (.cond r31 (.ah k65_7 (.block 1 (.loop (.seq (.seq (.ops [m d33 r4,
 of d34 3 r1,
 ol d35 r34,
 o d36 (.len r35),
 o d37 (.bin .lt r33 r36),
 m d38 r37,
 .g .h2 .h6 true d39 (.op (.mv r4)),
 .g .h2 .h6 true d40 (.op (.cG 2 r1)),
 .g .h2 .h6 true d41 (.op (.bZ r40)),
 .g .h2 .h6 true d42 (.op (.len r41)),
 .g .h2 .h6 true d43 (.op (.bin .lt r39 r42)),
 o d44 (.pick r38 r43 (.c (.bool false)))]) (.ah k65_8 .skip)) (.seq (.block 2 (.iB [qf 0 d56 2 r1,
 ql 0 d57 r56,
 q 0 (m d58 r4),
 q 0 (o d59 (.cn 4 r57 r58)),
 q 0 (o d60 (.jO 4 r59)),
 w (oc d61 140 [r60]),
 w (oc d62 139 [r61]),
 q 2 (m d47 r3),
 q 2 (o d48 (.bin .cat r47 (.c (.str [32,40])))),
 qf 2 d49 3 r1,
 ql 2 d50 r49,
 q 2 (m d51 r4),
 q 2 (o d52 (.cn 1 r50 r51)),
 ql 2 d53 r52,
 q 2 (o d54 (.bin .cat r48 r53)),
 q 2 (o d55 (.bin .cat r54 (.c (.str [32])))),
 q 0 (o d63 (.bin .cat r55 r62)),
 q 0 (o d64 (.bin .cat r63 (.c (.str [41])))),
 q 0 (m d3 r64)])) (.ah k65_9 .skip)))))) (.ah k65_10 (.cond r65 (.iB [qf 0 d67 4 r1,
 ql 0 d68 r67,
 w (oc d69 141 [r68]),
 qf 1 d72 5 r1,
 ql 1 d73 r72,
 w (oc d74 141 [r73]),
 q 1 (o d70 (.bin .cat (.c (.str [40,106,111,105,110,32])) r69)),
 q 1 (o d71 (.bin .cat r70 (.c (.str [32])))),
 q 0 (o d75 (.bin .cat r71 r74)),
 q 0 (m d3 r75)]) (.ah k65_11 (.cond r76 (.ah k65_12 .skip) (.ah k65_13 (.cond r78 (.ah k65_14 .skip) (.ah k65_15 (.cond r80 (.ah k65_16 (.block 3 (.loop (.ah k65_17 (.ah k65_18 (.ah k65_19 .skip)))))) (.ah k65_20 .skip))))))))))))))))) (.seq (.ah k65_21 (.block 5 (.loop (.ah k65_22 .skip)))) (.ah k65_23 .skip))))
def f65:AF:=.mk x65 [.t .h0 .h2]
def k66_6:KF:=K3 y0 y3 y4 fun c i x h a b d=>
 D d i1 h fun e h=>
 .nm (T1 a b e) h
def k66_5:KF:=K3 y0 y3 y4 fun c i x h a b d=>
 Y d b h fun e h=>
 I e (X 2 a d h fun f h=>
 A 0 f h fun g h=>
 L g h fun j h=>
 X 2 a b h fun k h=>
 A 0 k h fun l h=>
 L l h fun m h=>
 tR (aW j m h) fun n h=>
 I n (.ret (T2 (pi 21)) h) (x (T1 a b d) h)) (.ex 2 (T0 a b) h)
def k66_4:KF:=K2 y0 y3 fun c i x h a b=>
 x (T1 a b i0) h
def k66_7:KF:=K2 y0 y3 fun c i x h a b=>
 X 2 a b h fun d h=>
 A 1 d h fun e h=>
 L e h fun f h=>
 C c 143 [f] h fun g h=>
 tR (cP g i0 h) fun j h=>
 I j (.ret (T2 g) h) (.nm (T0 a b) h)
def k66_3:KF:=K2 y0 y3 fun c i x h a b=>
 X 2 a b h fun d h=>
 A 0 d h fun e h=>
 L e h fun f h=>
 C c 142 [f] h fun g h=>
 tR (bG g h) fun j h=>
 I j (.ret (T2 (pi 20)) h) (x (T0 a b) h)
def k66_8:KF:=K2 y0 y3 fun c i x h a b=>
 D b i1 h fun d h=>
 .nm (T0 a d) h
def k66_2:KF:=K2 y0 y3 fun c i x h a b=>
 G a h fun d h=>
 Y b d h fun e h=>
 I e (x (T0 a b) h) (.ex 0 T28 h)
def k66_1:KF:=K1 y0 fun c i x h a=>
 x (T0 a i0) h
def k66_9:KF:=fun c i x r h=>
 .ret (T2 i0) h
def k66_0:KF:=K1 y0 fun c i x h a=>
 x (T4 a) h
def x66:AC:=(.ah k66_0 (.seq (.ah k66_1 (.block 0 (.loop (.ah k66_2 (.seq (.block 1 (.ah k66_3 (.seq (.ah k66_4 (.block 2 (.loop (.ah k66_5 (.ah k66_6 .skip))))) (.ah k66_7 .skip)))) (.ah k66_8 .skip)))))) (.ah k66_9 .skip)))
def f66:AF:=.mk x66 [.t .h0 .h2]
def k67_1:KF:=K2 y3 y22 fun c i x h a b=>
 I b (.ret (T2 iS) h) (.nm (T13 a) h)
def k67_2:KF:=K1 y3 fun c i x h a=>
 .ret (T2 a) h
def k67_0:KF:=K1 y0 fun c i x h a=>
 B 49 a h fun b h=>
 M 8 b h fun d h=>
 C c 65 [d] h fun e h=>
 C c 27 [e] h fun f h=>
 E 0 f h fun g h=>
 E 1 f h fun j h=>
 E 2 f h fun k h=>
 O 49 8 (.k1 (Y8 i0 iS .ai .ai .ai .ai .ai .ai)) h fun l h=>
 S 8 l g h fun m h=>
 x (T75 b e l j) h
def x67:AC:=(.ah k67_0 (.seq (.seq (.ops [m d15 r5,
 o d16 (.bin .ne r15 a0),
 m d17 r16,
 .g .h1 .h1 false d18 (.op (.jO 8 r1)),
 .g .h1 .h1 false d19 (.op (.jO 8 r4)),
 .g .h1 .h1 false d20 (.call 144 [r18,r19]),
 .g .h1 .h1 false d21 (.op (.un .not r20)),
 o d22 (.pick r17 (.c (.bool true)) r21)]) (.ah k67_1 .skip)) (.ah k67_2 .skip)))
def f67:AF:=.mk x67 [.t .h0 .h2]
def k68_4:KF:=K4 y1 y2 y7 y8 fun c i x h a b d e=>
 D e i1 h fun f h=>
 .nm (T140 a b d f) h
def k68_3:KF:=K4 y1 y2 y7 y8 fun c i x h a b d e=>
 A 7 b h fun f h=>
 L f h fun g h=>
 X 8 g e h fun j h=>
 M 8 j h fun k h=>
 C c 68 [k,a] h fun l h=>
 E 0 l h fun m h=>
 E 1 l h fun n h=>
 E 2 l h fun o h=>
 tR (cP n i0 h) fun p h=>
 I p (.ret (T37 .ai n o) h) (tR (bs 66 1 1 [.ai] [.mk 0 1 (.c m)] h) fun q h=>
 tR (cX 66 1 d q h) fun s h=>
 x (T140 a b s e) h)
def k68_2:KF:=K4 y1 y2 y7 y8 fun c i x h a b d e=>
 A 7 b h fun f h=>
 L f h fun g h=>
 G g h fun j h=>
 Y e j h fun k h=>
 I k (x (T140 a b d e) h) (.ex 0 (T139 a b d) h)
def k68_1:KF:=K3 y1 y2 y7 fun c i x h a b d=>
 x (T140 a b d i0) h
def k68_10:KF:=K3 y1 y2 y12 fun c i x h a b d=>
 D d i1 h fun e h=>
 .nm (T143 a b e) h
def k68_9:KF:=K3 y1 y2 y12 fun c i x h a b d=>
 X 2 a d h fun e h=>
 A 0 e h fun f h=>
 L f h fun g h=>
 A 1 b h fun j h=>
 L j h fun k h=>
 tR (aW g k h) fun l h=>
 I l (tR (bs 85 2 0 [] [] h) fun m h=>
 X 2 a d h fun n h=>
 A 1 n h fun o h=>
 L o h fun p h=>
 tR (cX 85 2 m p h) fun q h=>
 .ret (T37 q i0 iS) h) (x (T143 a b d) h)
def k68_8:KF:=K3 y1 y2 y12 fun c i x h a b d=>
 G a h fun e h=>
 Y d e h fun f h=>
 I f (x (T143 a b d) h) (.ex 3 (T2 b) h)
def k68_7:KF:=K2 y1 y2 fun c i x h a b=>
 x (T143 a b i0) h
def k68_11:KF:=K1 y2 fun c i x h a=>
 A 1 a h fun b h=>
 L b h fun d h=>
 .ret (T37 .ai (pi 20) d) h
def k68_14:KF:=K2 y7 y13 fun c i x h a b=>
 tR (cP b i1 h) fun d h=>
 I d (.ret (T37 .ai (pi 22) iS) h) (X 1 a i0 h fun e h=>
 L e h fun f h=>
 .ret (T37 f i0 iS) h)
def k68_13:KF:=K2 y2 y7 fun c i x h a b=>
 A 2 a h fun d h=>
 L d h fun e h=>
 X 4 e i0 h fun f h=>
 M 4 f h fun g h=>
 X 1 b i0 h fun j h=>
 L j h fun k h=>
 C c 145 [g,k] h fun l h=>
 E 0 l h fun m h=>
 E 1 l h fun n h=>
 tR (cP n i0 h) fun o h=>
 I o (.ret (T37 .ai n iS) h) (x (T145 b m) h)
def k68_16:KF:=K2 y2 y7 fun c i x h a b=>
 M 8 a h fun d h=>
 X 1 b i0 h fun e h=>
 L e h fun f h=>
 C c 146 [d,f] h fun g h=>
 E 0 g h fun j h=>
 E 1 g h fun k h=>
 E 2 g h fun l h=>
 .ret (T37 j k l) h
def k68_18:KF:=K2 y2 y7 fun c i x h a b=>
 M 8 a h fun d h=>
 X 1 b i0 h fun e h=>
 L e h fun f h=>
 X 1 b i1 h fun g h=>
 L g h fun j h=>
 C c 147 [d,f,j] h fun k h=>
 E 0 k h fun l h=>
 E 1 k h fun m h=>
 E 2 k h fun n h=>
 .ret (T37 l m n) h
def k68_24:KF:=K2 y7 y15 fun c i x h a b=>
 D b i1 h fun d h=>
 .nm (T149 a d) h
def k68_23:KF:=K2 y7 y15 fun c i x h a b=>
 X 1 a i0 h fun d h=>
 L d h fun e h=>
 X 2 e b h fun f h=>
 A 1 f h fun g h=>
 L g h fun j h=>
 X 1 a i1 h fun k h=>
 L k h fun l h=>
 X 2 l b h fun m h=>
 A 1 m h fun n h=>
 L n h fun o h=>
 tR (cP j o h) fun p h=>
 I p (X 1 a i0 h fun q h=>
 L q h fun s h=>
 X 2 s b h fun t h=>
 A 0 t h fun v h=>
 L v h fun w h=>
 .ret (T37 .ai (pi 22) w) h) (x (T149 a b) h)
def k68_22:KF:=K2 y7 y15 fun c i x h a b=>
 X 1 a i0 h fun d h=>
 L d h fun e h=>
 G e h fun f h=>
 Y b f h fun g h=>
 I g (x (T149 a b) h) (.ex 5 (T38 a) h)
def k68_21:KF:=K1 y7 fun c i x h a=>
 x (T149 a i0) h
def k68_25:KF:=K1 y7 fun c i x h a=>
 X 1 a i0 h fun b h=>
 L b h fun d h=>
 .ret (T37 d i0 iS) h
def k68_20:KF:=K1 y7 fun c i x h a=>
 X 1 a i0 h fun b h=>
 L b h fun d h=>
 G d h fun e h=>
 X 1 a i1 h fun f h=>
 L f h fun g h=>
 G g h fun j h=>
 tR (cP e j h) fun k h=>
 I k (.ret (T37 .ai (pi 23) iS) h) (x (T38 a) h)
def k68_26:KF:=K3 y2 y7 y43 fun c i x h a b d=>
 Q d (pi 7) h fun e h=>
 I e (M 8 a h fun f h=>
 X 1 b i0 h fun g h=>
 L g h fun j h=>
 C c 148 [f,j] h fun k h=>
 E 0 k h fun l h=>
 E 1 k h fun m h=>
 E 2 k h fun n h=>
 .ret (T37 l m n) h) (.nm (T38 b) h)
def k68_19:KF:=K3 y2 y7 y43 fun c i x h a b d=>
 Q d (pi 5) h fun e h=>
 x (T148 a b d e) h
def k68_17:KF:=K3 y2 y7 y43 fun c i x h a b d=>
 Q d (pi 4) h fun e h=>
 x (T147 a b d e) h
def k68_15:KF:=K3 y2 y7 y43 fun c i x h a b d=>
 Q d (pi 3) h fun e h=>
 x (T146 a b d e) h
def k68_12:KF:=K3 y2 y7 y43 fun c i x h a b d=>
 Q d (pi 2) h fun e h=>
 x (T144 a b d e) h
def k68_6:KF:=K4 y1 y2 y7 y43 fun c i x h a b d e=>
 Q e i1 h fun f h=>
 x (T142 a b d e f) h
def k68_5:KF:=K3 y1 y2 y7 fun c i x h a b d=>
 A 0 b h fun e h=>
 L e h fun f h=>
 x (T141 a b d f) h
def k68_27:KF:=K1 y7 fun c i x h a=>
 X 1 a i0 h fun b h=>
 L b h fun d h=>
 .ret (T37 d i0 iS) h
def k68_0:KF:=K2 y0 y1 fun c i x h a b=>
 B 49 a h fun d h=>
 x (T139 b d .ai) h
def x68:AC:=(.ah k68_0 (.seq (.ah k68_1 (.block 0 (.loop (.ah k68_2 (.ah k68_3 (.ah k68_4 .skip)))))) (.seq (.ah k68_5 (.block 2 (.ah k68_6 (.cond r44 (.seq (.ah k68_7 (.block 3 (.loop (.ah k68_8 (.ah k68_9 (.ah k68_10 .skip)))))) (.ah k68_11 .skip)) (.ah k68_12 (.cond r69 (.ah k68_13 (.ah k68_14 .skip)) (.ah k68_15 (.cond r90 (.ah k68_16 .skip) (.ah k68_17 (.cond r100 (.ah k68_18 .skip) (.ah k68_19 (.cond r113 (.ah k68_20 (.seq (.ah k68_21 (.block 5 (.loop (.ah k68_22 (.ah k68_23 (.ah k68_24 .skip)))))) (.ah k68_25 .skip))) (.ah k68_26 .skip))))))))))))) (.ah k68_27 .skip))))
def f68:AF:=.mk x68 [.t .h0 .h4,.t .h0 .h5,.t .h0 .h6]
def k69_0:KF:=K2 y0 y1 fun c i x h a b=>
 B 68 a h fun d h=>
 A 0 d h fun e h=>
 L e h fun f h=>
 A 0 b h fun g h=>
 L g h fun j h=>
 tR (aW f j h) fun k h=>
 .ret (T13 k) h
def x69:AC:=(.ah k69_0 .skip)
def f69:AF:=.mk x69 [.t .h0 .h3]
def k70_4:KF:=K5 y0 y5 y6 y7 y50 fun c i x h a b d e f=>
 I f (.ret (T2 (.bool false)) h) (.nm (T150 a b d e) h)
def k70_3:KF:=K4 y0 y5 y6 y7 fun c i x h a b d e=>
 X 2 b e h fun f h=>
 M 2 f h fun g h=>
 O 27 2 (.k1 (Y2 .ai (.aj .f64 0 0))) h fun j h=>
 S 2 j g h fun k h=>
 x (T151 a e j b d e) h
def k70_5:KF:=K4 y0 y5 y6 y7 fun c i x h a b d e=>
 D e i1 h fun f h=>
 .nm (T150 a b d f) h
def k70_2:KF:=K4 y0 y5 y6 y7 fun c i x h a b d e=>
 Y e d h fun f h=>
 I f (x (T150 a b d e) h) (.ex 0 T28 h)
def k70_1:KF:=K1 y0 fun c i x h a=>
 G a h fun b h=>
 x (T150 a a b i0) h
def k70_6:KF:=fun c i x r h=>
 .ret (T2 (.bool true)) h
def k70_0:KF:=K1 y0 fun c i x h a=>
 x (T4 a) h
def x70:AC:=(.ah k70_0 (.seq (.ah k70_1 (.block 0 (.loop (.ah k70_2 (.seq (.block 1 (.ah k70_3 (.seq (.iB [qf 0 d12 0 r4,
 ql 0 d13 r12,
 w (oc d14 149 [r13]),
 q 0 (o d15 (.un .not r14)),
 q 0 (m d16 r15),
 q 0 (.g .h1 .h0 false d17 (.op (.cG 1 r4))),
 q 0 (.g .h1 .h0 false d18 (.op (.bZ r17))),
 w (.g .h1 .h0 false d19 (.call 150 [r18])),
 q 0 (.g .h1 .h0 false d20 (.op (.un .not r19))),
 q 0 (o d21 (.pick r16 (.c (.bool true)) r20)),
 q 0 (m d22 r21),
 q 0 (.g .h1 .h6 false d23 (.op (.cG 1 r4))),
 q 0 (.g .h1 .h6 false d24 (.op (.bZ r23))),
 q 0 (.g .h1 .h6 false d25 (.op (.bin (.QX .eql) r24 (.c (.aj .f64 0 0))))),
 q 0 (o d26 (.pick r22 (.c (.bool true)) r25)),
 q 0 (m d27 r26),
 q 0 (.g .h1 .hb false d28 (.op (.cG 1 r4))),
 q 0 (.g .h1 .hb false d29 (.op (.bZ r28))),
 w (.g .h1 .hb false d30 (.call 151 [r29])),
 q 1 (.g .h1 .hb false d31 (.op (.cG 1 r4))),
 q 1 (.g .h1 .hb false d32 (.op (.bZ r31))),
 q 0 (.g .h1 .hb false d33 (.op (.bin (.QX .neq) r30 r32))),
 q 0 (o d34 (.pick r27 (.c (.bool true)) r33)),
 q 0 (m d35 r34),
 q 0 (.g .h2 .h3 false d36 (.op (.mv r3))),
 q 0 (.g .h2 .h3 false d37 (.op (.bin .gt r36 a0))),
 q 0 (.g .h2 .h3 false d38 (.op (.mv r37))),
 q 0 (.g .h2 .h6 true d39 (.op (.mv r0))),
 q 0 (.g .h2 .h6 true d40 (.op (.mv r3))),
 q 0 (.g .h2 .h6 true d41 (.op (.bin .sub r40 a1))),
 q 0 (.g .h2 .h6 true d42 (.op (.cn 2 r39 r41))),
 q 0 (.g .h2 .h6 true d43 (.op (.cG 0 r42))),
 q 0 (.g .h2 .h6 true d44 (.op (.bZ r43))),
 q 0 (.g .h2 .h6 true d45 (.op (.cG 0 r4))),
 q 0 (.g .h2 .h6 true d46 (.op (.bZ r45))),
 w (.g .h2 .h6 true d47 (.call 152 [r44,r46])),
 q 0 (.g .h2 .h6 true d48 (.op (.un .not r47))),
 q 0 (.g .h2 .h3 false d49 (.op (.pick r38 r48 (.c (.bool false))))),
 q 0 (o d50 (.pick r35 (.c (.bool true)) r49))]) (.ah k70_4 .skip)))) (.ah k70_5 .skip)))))) (.ah k70_6 .skip)))
def f70:AF:=.mk x70 [.t .h0 .h2]
def k71_0:KF:=K2 y0 y1 fun c i x h a b=>
 C c 153 [a,b] h fun d h=>
 tR (nN d i0 h) fun e h=>
 .ret (T3 e) h
def x71:AC:=(.ah k71_0 .skip)
def f71:AF:=.mk x71 [.t .h0 .h4]
def k72_0:KF:=K3 y0 y1 y2 fun c i x h a b d=>
 B 27 a h fun e h=>
 L b h fun f h=>
 J f h fun g h=>
 A 1 g h fun j h=>
 L j h fun k h=>
 L d h fun l h=>
 X 2 k l h fun m h=>
 A 1 m h fun n h=>
 L n h fun o h=>
 A 0 e h fun p h=>
 L p h fun q h=>
 C c 73 [o,q] h fun s h=>
 tR (bG s h) fun t h=>
 .ret (T3 t) h
def x72:AC:=(.ah k72_0 .skip)
def f72:AF:=.mk x72 [.t .h0 .h4]
def k73_4:KF:=K5 y0 y12 y13 y14 y31 fun c i x h a b d e f=>
 I f (.ret (T3 (.bool false)) h) (.nm (T152 a b d e) h)
def k73_3:KF:=K4 y0 y12 y13 y14 fun c i x h a b d e=>
 X 3 b e h fun f h=>
 M 3 f h fun g h=>
 O 34 3 (.k1 (Y3 i0 i0 iS)) h fun j h=>
 S 3 j g h fun k h=>
 x (T153 a e j b d e) h
def k73_5:KF:=K4 y0 y12 y13 y14 fun c i x h a b d e=>
 D e i1 h fun f h=>
 .nm (T152 a b d f) h
def k73_2:KF:=K4 y0 y12 y13 y14 fun c i x h a b d e=>
 Y e d h fun f h=>
 I f (x (T152 a b d e) h) (.ex 0 T28 h)
def k73_1:KF:=K2 y0 y1 fun c i x h a b=>
 G b h fun d h=>
 x (T152 a b d i0) h
def k73_6:KF:=fun c i x r h=>
 .ret (T3 (.bool true)) h
def k73_0:KF:=K2 y0 y1 fun c i x h a b=>
 G a h fun d h=>
 G b h fun e h=>
 tR (cP d e h) fun f h=>
 I f (.ret (T3 (.bool false)) h) (x (T16 a b) h)
def x73:AC:=(.ah k73_0 (.seq (.ah k73_1 (.block 0 (.loop (.ah k73_2 (.seq (.block 1 (.ah k73_3 (.seq (.ops [o d19 (.jO 3 r6),
 oc d20 154 [r19],
 o d21 (.un .not r20),
 m d22 r21,
 .g .h1 .h6 false d23 (.op (.cG 0 r6)),
 .g .h1 .h6 false d24 (.op (.bZ r23)),
 .g .h1 .h6 false d25 (.op (.mv r0)),
 .g .h1 .h6 false d26 (.op (.mv r5)),
 .g .h1 .h6 false d27 (.op (.cn 2 r25 r26)),
 .g .h1 .h6 false d28 (.op (.cG 1 r27)),
 .g .h1 .h6 false d29 (.op (.bZ r28)),
 .g .h1 .h6 false d30 (.op (.bin .ne r24 r29)),
 o d31 (.pick r22 (.c (.bool true)) r30)]) (.ah k73_4 .skip)))) (.ah k73_5 .skip)))))) (.ah k73_6 .skip)))
def f73:AF:=.mk x73 [.t .h0 .h4]
def k74_0:KF:=K2 y0 y1 fun c i x h a b=>
 tR (bs 29 1 2 [.ai,.ai] [.mk 0 1 (.c a),.mk 1 1 (.c b)] h) fun d h=>
 C c 156 [d] h fun e h=>
 C c 155 [e] h fun f h=>
 E 0 f h fun g h=>
 E 1 f h fun j h=>
 .ret (T5 g j) h
def x74:AC:=(.ah k74_0 .skip)
def f74:AF:=.mk x74 [.t .h0 .h4,.t .h0 .h5]
def k75_0:KF:=K1 y0 fun c i x h a=>
 x (T4 a) h
def x75:AC:=(.ah k75_0 (.seq (.ops [m d3 r0,
 oc d4 70 [r3],
 m d5 r4,
 .g .h0 .h5 true d6 (.op (.mv r0)),
 .g .h0 .h5 true d7 (.call 71 [r6,(.c (.fn 157 []))]),
 .g .h0 .h5 true d8 (.op (.un .not r7)),
 o d9 (.pick r5 r8 (.c (.bool false))),
 m d2 r9]) .ret))
def f75:AF:=.mk x75 [.t .h0 .h2]
def k76_3:KF:=K4 y3 y9 y10 y11 fun c i x h a b d e=>
 X 2 b e h fun f h=>
 M 2 f h fun g h=>
 O 27 2 (.k1 (Y2 .ai (.aj .f64 0 0))) h fun j h=>
 S 2 j g h fun k h=>
 x (T155 a j b d e) h
def k76_4:KF:=K4 y3 y9 y10 y11 fun c i x h a b d e=>
 D e i1 h fun f h=>
 .nm (T154 a b d f) h
def k76_2:KF:=K4 y3 y9 y10 y11 fun c i x h a b d e=>
 Y e d h fun f h=>
 I f (x (T154 a b d e) h) (.ex 0 (T13 a) h)
def k76_1:KF:=K2 y0 y3 fun c i x h a b=>
 G a h fun d h=>
 x (T154 b a d i0) h
def k76_5:KF:=K1 y3 fun c i x h a=>
 .ret (T2 a) h
def k76_0:KF:=K1 y0 fun c i x h a=>
 C c 70 [a] h fun b h=>
 tR (bG b h) fun d h=>
 I d (.ret (T2 .ai) h) (x (T0 a .ai) h)
def x76:AC:=(.ah k76_0 (.seq (.ah k76_1 (.block 0 (.loop (.ah k76_2 (.seq (.block 1 (.ah k76_3 (.iB [qf 0 d18 1 r5,
 ql 0 d19 r18,
 w (oc d20 159 [r19]),
 qf 1 d16 0 r5,
 ql 1 d17 r16,
 w (oc d21 85 [r17,r20]),
 w (o d22 (.bN 27 2 1 [.ai,(.aj .f64 0 0)] [.mk 0 2 r21])),
 q 3 (m d15 r3),
 w (o d23 (.app 27 2 r15 r22)),
 q 0 (m d3 r23)]))) (.ah k76_4 .skip)))))) (.ah k76_5 .skip)))
def f76:AF:=.mk x76 [.t .h0 .h2]
def k77_0:KF:=K1 y0 fun c i x h a=>
 x (T4 a) h
def x77:AC:=(.ah k77_0 (.seq (.iB [q 0 (m d11 r0),
 qj 0 d12 r11,
 qf 0 d13 2 r12,
 ql 0 d14 r13,
 w (oc d15 160 [r14]),
 q 1 (m d3 r0),
 qj 1 d4 r3,
 qf 1 d5 0 r4,
 ql 1 d6 r5,
 q 1 (m d7 r0),
 qj 1 d8 r7,
 qf 1 d9 1 r8,
 ql 1 d10 r9,
 q 0 (o d16 (.build [.ai,.ai,.gg] [.mk 0 1 r6,.mk 1 1 r10,.mk 2 1 r15])),
 w (o d17 (.box 217 r16)),
 q 0 (m d2 r17)]) .ret))
def f77:AF:=.mk x77 [.t .h0 .h2]
def x78:AC:=b78
def f78:AF:=.mk x78 [.t .h0 .h2]
def x79:AC:=b79
def f79:AF:=.mk x79 [.t .h0 .h6,.t .h0 .h7]
def k80_7:KF:=K11 y1 y3 y8 y10 y11 y16 y17 y18 y23 y24 y25 fun c i x h a b d e f g j k l m n=>
 D n i1 h fun o h=>
 .nm (T161 a b d e f g j k l m o) h
def k80_6:KF:=K11 y1 y3 y8 y10 y11 y16 y17 y18 y23 y24 y25 fun c i x h a b d e f g j k l m n=>
 X 4 l n h fun o h=>
 M 4 o h fun p h=>
 O 202 4 (.k1 (Y4 i0 iS i0 .ai)) h fun q h=>
 S 4 q p h fun s h=>
 M 4 q h fun t h=>
 A 0 e h fun v h=>
 L v h fun w h=>
 C c 162 [t,a,w] h fun y h=>
 E 0 y h fun z h=>
 E 1 y h fun a0 h=>
 O 34 3 (.k1 (Y3 i0 i0 iS)) h fun a1 h=>
 S 3 a1 z h fun a2 h=>
 tR (cP a0 i0 h) fun a3 h=>
 I a3 (.ret (T29 .ai a0) h) (M 3 a1 h fun a4 h=>
 tR (bs 34 3 1 [i0,i0,iS] [.mk 0 3 (.c a4)] h) fun a5 h=>
 tR (cX 34 3 f a5 h) fun a6 h=>
 x (T161 a b d e a6 g j k l m n) h)
def k80_5:KF:=K11 y1 y3 y8 y10 y11 y16 y17 y18 y23 y24 y25 fun c i x h a b d e f g j k l m n=>
 Y n m h fun o h=>
 I o (x (T161 a b d e f g j k l m n) h) (.ex 2 (T160 a b d e f g j k) h)
def k80_4:KF:=K8 y1 y3 y8 y10 y11 y16 y17 y18 fun c i x h a b d e f g j k=>
 A 2 b h fun l h=>
 L l h fun m h=>
 G m h fun n h=>
 x (T161 a b d e f g j k m n i0) h
def k80_8:KF:=K8 y1 y3 y8 y10 y11 y16 y17 y18 fun c i x h a b d e f g j k=>
 A 1 e h fun l h=>
 L l h fun m h=>
 U [.ai,(.aj .f64 0 0)] [.mk 0 1 (.c f),.mk 1 1 (.c m)] h fun n h=>
 tR (bs 27 2 1 [.ai,(.aj .f64 0 0)] [.mk 0 2 (.c n)] h) fun o h=>
 tR (cX 27 2 d o h) fun p h=>
 .nm (T159 a b p g j k) h
def k80_3:KF:=K6 y1 y3 y8 y16 y17 y18 fun c i x h a b d e f g=>
 X 2 e g h fun j h=>
 M 2 j h fun k h=>
 O 27 2 (.k1 (Y2 .ai (.aj .f64 0 0))) h fun l h=>
 S 2 l k h fun m h=>
 x (T160 a b d l .ai e f g) h
def k80_9:KF:=K6 y1 y3 y8 y16 y17 y18 fun c i x h a b d e f g=>
 D g i1 h fun j h=>
 .nm (T159 a b d e f j) h
def k80_2:KF:=K6 y1 y3 y8 y16 y17 y18 fun c i x h a b d e f g=>
 Y g f h fun j h=>
 I j (x (T159 a b d e f g) h) (.ex 0 (T34 d) h)
def k80_1:KF:=K4 y1 y2 y3 y8 fun c i x h a b d e=>
 G b h fun f h=>
 x (T159 a d e b f i0) h
def k80_10:KF:=K1 y8 fun c i x h a=>
 C c 155 [a] h fun b h=>
 E 0 b h fun d h=>
 E 1 b h fun e h=>
 .ret (T29 d e) h
def k80_0:KF:=K3 y0 y1 y2 fun c i x h a b d=>
 B 49 a h fun e h=>
 x (T156 b d e .ai) h
def x80:AC:=(.ah k80_0 (.seq (.ah k80_1 (.block 0 (.loop (.ah k80_2 (.seq (.block 1 (.ah k80_3 (.seq (.ah k80_4 (.block 2 (.loop (.ah k80_5 (.ah k80_6 (.ah k80_7 .skip)))))) (.ah k80_8 .skip)))) (.ah k80_9 .skip)))))) (.ah k80_10 .skip)))
def f80:AF:=.mk x80 [.t .h0 .h6,.t .h0 .h7]
def x81:AC:=b81
def f81:AF:=.mk x81 [.t .h0 .h6,.t .h0 .h7]
def k82_5:KF:=K5 y0 y9 y10 y11 y31 fun c i x h a b d e f=>
 J a h fun g h=>
 A 2 g h fun j h=>
 L j h fun k h=>
 tR (wg (.one .s) (.agg [.ai,.ai,.ai]) false k d h) fun l h=>
 O 248 3 (.k1 (Y3 .ai .ai .ai)) h fun m h=>
 S 3 m l h fun n h=>
 A 1 m h fun o h=>
 L o h fun p h=>
 G p h fun q h=>
 tR (mE q i0 h) fun s h=>
 x (T176 a b d e m f s) h
def k82_6:KF:=K5 y0 y9 y10 y11 y31 fun c i x h a b d e f=>
 A 1 e h fun g h=>
 L g h fun j h=>
 G j h fun k h=>
 Q k i0 h fun l h=>
 I l (J a h fun m h=>
 A 2 m h fun n h=>
 L n h fun o h=>
 tR (del (.one .s) o d h) fun p h=>
 .ex 1 (T174 a b f) h) (J a h fun m h=>
 A 2 m h fun n h=>
 L n h fun o h=>
 M 3 e h fun p h=>
 tR (yn (.one .s) o d p h) fun q h=>
 x (T177 a b e f) h)
def k82_4:KF:=K3 y0 y9 y31 fun c i x h a b d=>
 tR (kG (.c d) .nil h) fun e h=>
 E 0 e h fun f h=>
 E 1 e h fun g h=>
 O 248 3 (.k1 (Y3 .ai .ai .ai)) h fun j h=>
 S 3 j g h fun k h=>
 x (T175 a b f j d) h
def k82_3:KF:=K4 y0 y9 y31 y33 fun c i x h a b d e=>
 I e (x (T174 a b d) h) (.ex 0 (T9 b) h)
def k82_2:KF:=K3 y0 y6 y9 fun c i x h a b d=>
 tR (gF (.c b) .nil h) fun e h=>
 x (T174 a d e) h
def k82_7:KF:=K1 y9 fun c i x h a=>
 C c 155 [a] h fun b h=>
 E 0 b h fun d h=>
 E 1 b h fun e h=>
 .ret (T5 d e) h
def k82_1:KF:=K2 y0 y6 fun c i x h a b=>
 C c 170 [a,b] h fun d h=>
 tR (cP d i0 h) fun e h=>
 I e (.ret (T5 .ai d) h) (x (T173 a b .ai) h)
def k82_0:KF:=K2 y0 y1 fun c i x h a b=>
 C c 70 [b] h fun d h=>
 tR (bG d h) fun e h=>
 I e (.ret (T5 .ai i1) h) (C c 169 [a,b] h fun f h=>
 E 0 f h fun g h=>
 E 1 f h fun j h=>
 tR (bG j h) fun k h=>
 I k (.ret (T5 .ai i1) h) (x (T71 a g) h))
def x82:AC:=(.ah k82_0 (.ah k82_1 (.seq (.ah k82_2 (.block 0 (.loop (.seq (.ops [.o d32 (.uM false r31),
 oe d33 0 r32]) (.ah k82_3 (.block 1 (.ah k82_4 (.seq (.ah k82_5 (.cond r46 (.iB [w (oc d50 171 [a0,a1]),
 qf 1 d48 2 r12,
 ql 1 d49 r48,
 q 0 (o d51 (.build [.ai,(.aj .f64 0 0)] [.mk 0 1 r49,.mk 1 1 r50])),
 w (o d52 (.bN 27 2 1 [.ai,(.aj .f64 0 0)] [.mk 0 2 r51])),
 q 2 (m d47 r9),
 w (o d53 (.app 27 2 r47 r52)),
 q 0 (m d9 r53)]) .skip)) (.ah k82_6 (.iB [w (oc d72 171 [a1,a0]),
 qf 1 d70 2 r11,
 ql 1 d71 r70,
 q 0 (o d73 (.build [.ai,(.aj .f64 0 0)] [.mk 0 1 r71,.mk 1 1 r72])),
 w (o d74 (.bN 27 2 1 [.ai,(.aj .f64 0 0)] [.mk 0 2 r73])),
 q 2 (m d69 r9),
 w (o d75 (.app 27 2 r69 r74)),
 q 0 (m d9 r75)])))))))))) (.ah k82_7 .skip))))
def f82:AF:=.mk x82 [.t .h0 .h4,.t .h0 .h5]
def x83:AC:=b83
def f83:AF:=.mk x83 [.t .h0 .h4]
def k84_2:KF:=K4 y3 y6 y7 y8 fun c i x h a b d e=>
 Y e d h fun f h=>
 I f (X 2 b e h fun g h=>
 M 2 g h fun j h=>
 O 27 2 (.k1 (Y2 .ai (.aj .f64 0 0))) h fun k h=>
 S 2 k j h fun l h=>
 A 1 k h fun m h=>
 L m h fun n h=>
 C c 158 [n] h fun o h=>
 D a o h fun p h=>
 tR (mE p (pi 512) h) fun q h=>
 I q (.ret (T2 (.bool true)) h) (D e i1 h fun s h=>
 .nm (T68 p b d s) h)) (.ex 0 (T68 a b d e) h)
def k84_1:KF:=K2 y0 y3 fun c i x h a b=>
 G a h fun d h=>
 x (T68 b a d i0) h
def k84_3:KF:=fun c i x r h=>
 .ret (T2 (.bool false)) h
def k84_0:KF:=K1 y0 fun c i x h a=>
 x (T0 a i0) h
def x84:AC:=(.ah k84_0 (.seq (.ah k84_1 (.block 0 (.loop (.ah k84_2 .skip)))) (.ah k84_3 .skip)))
def f84:AF:=.mk x84 [.t .h0 .h2]
def k85_0:KF:=K2 y0 y1 fun c i x h a b=>
 O 27 2 (.k1 (Y2 .ai (.aj .f64 0 0))) h fun d h=>
 C c 173 [a] h fun e h=>
 U [.ai,(.aj .f64 0 0)] [.mk 0 1 (.c e),.mk 1 1 (.c b)] h fun f h=>
 S 2 d f h fun g h=>
 .ret (T3 d) h
def x85:AC:=(.ah k85_0 .skip)
def f85:AF:=.mk x85 [.agg 2 .h0 .h4]
def k86_1:KF:=K3 y1 y2 y14 fun c i x h a b d=>
 I d (.ret (T3 (.bool true)) h) (.nm (T6 a b) h)
def k86_3:KF:=K3 y1 y2 y5 fun c i x h a b d=>
 A 7 b h fun e h=>
 L e h fun f h=>
 G f h fun g h=>
 Y d g h fun j h=>
 I j (A 7 b h fun k h=>
 L k h fun l h=>
 X 8 l d h fun m h=>
 M 8 m h fun n h=>
 C c 86 [n,a] h fun o h=>
 I o (.ret (T3 (.bool true)) h) (D d i1 h fun p h=>
 .nm (T39 a b p) h)) (.ex 0 (T39 a b d) h)
def k86_2:KF:=K2 y1 y2 fun c i x h a b=>
 x (T39 a b i0) h
def k86_4:KF:=fun c i x r h=>
 .ret (T3 (.bool false)) h
def k86_0:KF:=K2 y0 y1 fun c i x h a b=>
 B 49 a h fun d h=>
 x (T6 b d) h
def x86:AC:=(.ah k86_0 (.seq (.seq (.ops [of d6 0 r2,
 ol d7 r6,
 o d8 (.bin .eq r7 a1),
 m d9 r8,
 .g .h0 .h9 true d10 (.op (.cG 1 r2)),
 .g .h0 .h9 true d11 (.op (.bZ r10)),
 .g .h0 .h9 true d12 (.op (.mv r1)),
 .g .h0 .h9 true d13 (.op (.bin .seq r11 r12)),
 o d14 (.pick r9 r13 (.c (.bool false)))]) (.ah k86_1 .skip)) (.seq (.ah k86_2 (.block 0 (.loop (.ah k86_3 .skip)))) (.ah k86_4 .skip))))
def f86:AF:=.mk x86 [.t .h0 .h4]
def k87_1:KF:=K3 y5 y6 y27 fun c i x h a b d=>
 I d (.ret (T48 i0 i0 (.bool false)) h) (.nm (T84 a b) h)
def k87_3:KF:=K3 y7 y8 y41 fun c i x h a b d=>
 I d (.ret (T48 i0 i0 (.bool false)) h) (.nm (T183 a b) h)
def k87_4:KF:=K2 y7 y8 fun c i x h a b=>
 .ret (T48 a b (.bool true)) h
def k87_2:KF:=K2 y5 y6 fun c i x h a b=>
 tR (cK (.Vm .i64) a h) fun d h=>
 tR (cK (.Vm .i64) b h) fun e h=>
 x (T182 a b d e) h
def k87_0:KF:=K1 y0 fun c i x h a=>
 tR (fD false (.c a) .nil h) fun b h=>
 tR (fD true (.c a) .nil h) fun d h=>
 x (T84 b d) h
def x87:AC:=(.ah k87_0 (.seq (.seq (.ops [m d13 r5,
 o d14 (.bin (.Gb .geq) r13 (.c (.fi .f64 0))),
 m d15 r14,
 .g .h0 .hf true d16 (.op (.mv r5)),
 .g .h0 .hf true d17 (.op (.bin (.Gb .leq) r16 (.c (.fi .f64 4832362400168542208)))),
 o d18 (.pick r15 r17 (.c (.bool false))),
 m d19 r18,
 .g .h1 .h3 true d20 (.op (.mv r6)),
 .g .h1 .h3 true d21 (.op (.bin (.Gb .geq) r20 (.c (.fi .f64 0)))),
 o d22 (.pick r19 r21 (.c (.bool false))),
 m d23 r22,
 .g .h1 .h7 true d24 (.op (.mv r6)),
 .g .h1 .h7 true d25 (.op (.bin (.Gb .leq) r24 (.c (.fi .f64 4832362400168542208)))),
 o d26 (.pick r23 r25 (.c (.bool false))),
 o d27 (.un .not r26)]) (.ah k87_1 .skip)) (.ah k87_2 (.seq (.seq (.ops [m d32 r7,
 o d33 (.conv (.QY .f64) r32),
 m d34 r5,
 o d35 (.bin (.Gb .neq) r33 r34),
 m d36 r35,
 .g .h2 .h4 false d37 (.op (.mv r8)),
 .g .h2 .h4 false d38 (.op (.conv (.QY .f64) r37)),
 .g .h2 .h4 false d39 (.op (.mv r6)),
 .g .h2 .h4 false d40 (.op (.bin (.Gb .neq) r38 r39)),
 o d41 (.pick r36 (.c (.bool true)) r40)]) (.ah k87_3 .skip)) (.ah k87_4 .skip)))))
def f87:AF:=.mk x87 [.t .h0 .h2,.t .h0 .h3,.t .h0 .h4]
def k88_2:KF:=K2 y0 y3 fun c i x h a b=>
 G a h fun d h=>
 Y b d h fun e h=>
 I e (X 3 a b h fun f h=>
 M 3 f h fun g h=>
 C c 90 [g] h fun j h=>
 tR (bG j h) fun k h=>
 I k (.ret (T2 (.bool false)) h) (D b i1 h fun l h=>
 .nm (T0 a l) h)) (.ex 0 (T0 a b) h)
def k88_1:KF:=K1 y0 fun c i x h a=>
 x (T0 a i0) h
def k88_0:KF:=K1 y0 fun c i x h a=>
 x (T4 a) h
def x88:AC:=(.ah k88_0 (.seq (.ah k88_1 (.block 0 (.loop (.ah k88_2 .skip)))) (.seq (.ops [m d16 r0,
 o d17 (.len r16),
 o d18 (.bin .ge r17 a1),
 m d19 r18,
 .g .h1 .h3 true d20 (.op (.mv r0)),
 .g .h1 .h3 true d21 (.op (.len r20)),
 .g .h1 .h3 true d22 (.op (.bin .le r21 (.c (pi 6)))),
 o d23 (.pick r19 r22 (.c (.bool false))),
 m d2 r23]) .ret)))
def f88:AF:=.mk x88 [.t .h0 .h2]
def k89_1:KF:=K3 y0 y1 y13 fun c i x h a b d=>
 I d (.ret (T3 (.bool false)) h) (.nm (T16 a b) h)
def k89_3:KF:=K4 y0 y1 y5 y23 fun c i x h a b d e=>
 I e (.nm (T27 a b d) h) (.ex 0 (T27 a b d) h)
def k89_5:KF:=K3 y0 y1 y5 fun c i x h a b d=>
 D d i1 h fun e h=>
 .nm (T27 a b e) h
def k89_4:KF:=K3 y0 y1 y5 fun c i x h a b d=>
 X 3 a d h fun e h=>
 M 3 e h fun f h=>
 X 3 b d h fun g h=>
 M 3 g h fun j h=>
 C c 174 [f,j] h fun k h=>
 I k (.ret (T3 (.bool true)) h) (X 3 b d h fun l h=>
 M 3 l h fun m h=>
 X 3 a d h fun n h=>
 M 3 n h fun o h=>
 C c 174 [m,o] h fun p h=>
 I p (.ret (T3 (.bool false)) h) (x (T27 a b d) h))
def k89_2:KF:=K2 y0 y1 fun c i x h a b=>
 x (T27 a b i0) h
def k89_6:KF:=K2 y0 y1 fun c i x h a b=>
 G a h fun d h=>
 G b h fun e h=>
 Y d e h fun f h=>
 .ret (T3 f) h
def k89_0:KF:=K2 y0 y1 fun c i x h a b=>
 x (T16 a b) h
def x89:AC:=(.ah k89_0 (.seq (.seq (.ops [m d6 r0,
 oc d7 88 [r6],
 o d8 (.un .not r7),
 m d9 r8,
 .g .h0 .h9 false d10 (.op (.mv r1)),
 .g .h0 .h9 false d11 (.call 88 [r10]),
 .g .h0 .h9 false d12 (.op (.un .not r11)),
 o d13 (.pick r9 (.c (.bool true)) r12)]) (.ah k89_1 .skip)) (.seq (.ah k89_2 (.block 0 (.loop (.seq (.seq (.ops [m d14 r5,
 m d15 r0,
 o d16 (.len r15),
 o d17 (.bin .lt r14 r16),
 m d18 r17,
 .g .h1 .h2 true d19 (.op (.mv r5)),
 .g .h1 .h2 true d20 (.op (.mv r1)),
 .g .h1 .h2 true d21 (.op (.len r20)),
 .g .h1 .h2 true d22 (.op (.bin .lt r19 r21)),
 o d23 (.pick r18 r22 (.c (.bool false)))]) (.ah k89_3 .skip)) (.ah k89_4 (.ah k89_5 .skip)))))) (.ah k89_6 .skip))))
def f89:AF:=.mk x89 [.t .h0 .h4]
def k90_0:KF:=K1 y0 fun c i x h a=>
 B 34 a h fun b h=>
 x (T35 b) h
def x90:AC:=(.ah k90_0 (.seq (.ops [of d3 0 r1,
 ol d4 r3,
 o d5 (.bin .eq r4 a1),
 m d6 r5,
 .g .h0 .h6 true d7 (.op (.cG 2 r1)),
 .g .h0 .h6 true d8 (.op (.bZ r7)),
 .g .h0 .h6 true d9 (.op (.bin .seq r8 (.c iS))),
 o d10 (.pick r6 r9 (.c (.bool false))),
 m d11 r10,
 .g .h0 .hb false d12 (.op (.cG 0 r1)),
 .g .h0 .hb false d13 (.op (.bZ r12)),
 .g .h0 .hb false d14 (.op (.bin .eq r13 a2)),
 .g .h0 .hb false d15 (.op (.mv r14)),
 .g .h0 .hf true d16 (.op (.cG 1 r1)),
 .g .h0 .hf true d17 (.op (.bZ r16)),
 .g .h0 .hf true d18 (.op (.bin .eq r17 a0)),
 .g .h0 .hb false d19 (.op (.pick r15 r18 (.c (.bool false)))),
 .g .h0 .hb false d20 (.op (.mv r19)),
 .g .h1 .h4 true d21 (.op (.cG 2 r1)),
 .g .h1 .h4 true d22 (.op (.bZ r21)),
 .g .h1 .h4 true d23 (.op (.iw r22)),
 .g .h1 .h4 true d24 (.op (.bin .le r23 (.c (pi 40)))),
 .g .h0 .hb false d25 (.op (.pick r20 r24 (.c (.bool false)))),
 o d26 (.pick r11 (.c (.bool true)) r25),
 m d2 r26]) .ret))
def f90:AF:=.mk x90 [.t .h0 .h2]
def k91_4:KF:=K3 y0 y4 y42 fun c i x h a b d=>
 I d (.ret (T73 .ai i1) h) (.nm (T184 a b) h)
def k91_3:KF:=K2 y0 y4 fun c i x h a b=>
 X 2 a b h fun d h=>
 A 1 d h fun e h=>
 L e h fun f h=>
 C c 87 [f] h fun g h=>
 E 0 g h fun j h=>
 E 1 g h fun k h=>
 E 2 g h fun l h=>
 x (T185 a b l) h
def k91_5:KF:=K2 y0 y4 fun c i x h a b=>
 D b i1 h fun d h=>
 .nm (T184 a d) h
def k91_2:KF:=K2 y0 y4 fun c i x h a b=>
 G a h fun d h=>
 Y b d h fun e h=>
 I e (x (T184 a b) h) (.ex 0 (T4 a) h)
def k91_1:KF:=K1 y0 fun c i x h a=>
 x (T184 a i0) h
def k91_10:KF:=K5 y0 y8 y9 y10 y65 fun c i x h a b d e f=>
 I f (.nm (T188 a b d e) h) (.ex 4 (T188 a b d e) h)
def k91_11:KF:=K4 y0 y8 y9 y10 fun c i x h a b d e=>
 D e i1 h fun f h=>
 .nm (T188 a b d f) h
def k91_12:KF:=K5 y0 y8 y9 y10 y84 fun c i x h a b d e f=>
 I f (X 2 b e h fun g h=>
 A 1 g h fun j h=>
 L j h fun k h=>
 X 2 a d h fun l h=>
 A 1 l h fun m h=>
 L m h fun n h=>
 C c 176 [k,n] h fun o h=>
 E 0 o h fun p h=>
 E 1 o h fun q h=>
 tR (bG q h) fun s h=>
 I s (.ret (T73 .ai (pi 27)) h) (X 2 b e h fun t h=>
 A 1 t h fun v h=>
 W v p h fun w h=>
 .ex 3 (T188 a b d e) h)) (.nm (T188 a b d e) h)
def k91_13:KF:=K5 y0 y8 y9 y10 y13 fun c i x h a b d e f=>
 tR (eo 2 (.c b) (.some (.c e)) .none .none .nil h) fun g h=>
 tR (cX 27 2 f g h) fun j h=>
 .nm (T187 a j d) h
def k91_9:KF:=K3 y0 y8 y9 fun c i x h a b d=>
 x (T188 a b d i0) h
def k91_14:KF:=K3 y0 y8 y9 fun c i x h a b d=>
 D d i1 h fun e h=>
 .nm (T187 a b e) h
def k91_8:KF:=K3 y0 y8 y9 fun c i x h a b d=>
 G a h fun e h=>
 Y d e h fun f h=>
 I f (x (T187 a b d) h) (.ex 2 (T34 b) h)
def k91_7:KF:=K2 y0 y8 fun c i x h a b=>
 x (T187 a b i0) h
def k91_18:KF:=K3 y8 y14 y15 fun c i x h a b d=>
 D d i1 h fun e h=>
 .nm (T190 a b e) h
def k91_17:KF:=K3 y8 y14 y15 fun c i x h a b d=>
 G a h fun e h=>
 Y d e h fun f h=>
 I f (X 2 a d h fun g h=>
 A 1 g h fun j h=>
 L j h fun k h=>
 tR (bK (.QX .neq) k (.aj .f64 0 0) h) fun l h=>
 I l (X 2 a d h fun m h=>
 M 2 m h fun n h=>
 tR (bs 27 2 1 [.ai,(.aj .f64 0 0)] [.mk 0 2 (.c n)] h) fun o h=>
 tR (cX 27 2 b o h) fun p h=>
 x (T190 a p d) h) (x (T190 a b d) h)) (.ex 6 (T191 b) h)
def k91_16:KF:=K2 y8 y14 fun c i x h a b=>
 x (T190 a b i0) h
def k91_19:KF:=K1 y14 fun c i x h a=>
 .ret (T73 a i0) h
def k91_15:KF:=K1 y8 fun c i x h a=>
 x (T189 a .ai) h
def k91_6:KF:=K1 y0 fun c i x h a=>
 x (T186 a .ai) h
def k91_0:KF:=K1 y0 fun c i x h a=>
 x (T4 a) h
def x91:AC:=(.ah k91_0 (.seq (.ah k91_1 (.block 0 (.loop (.ah k91_2 (.seq (.block 1 (.ah k91_3 (.seq (.ops [m d32 r7,
 o d33 (.un .not r32),
 m d34 r33,
 .g .h2 .h2 false d35 (.op (.mv r0)),
 .g .h2 .h2 false d36 (.op (.mv r4)),
 .g .h2 .h2 false d37 (.op (.cn 2 r35 r36)),
 .g .h2 .h2 false d38 (.op (.cG 0 r37)),
 .g .h2 .h2 false d39 (.op (.bZ r38)),
 .g .h2 .h2 false d40 (.call 88 [r39]),
 .g .h2 .h2 false d41 (.op (.un .not r40)),
 o d42 (.pick r34 (.c (.bool true)) r41)]) (.ah k91_4 .skip)))) (.ah k91_5 .skip)))))) (.ah k91_6 (.seq (.ah k91_7 (.block 2 (.loop (.ah k91_8 (.seq (.block 3 (.ah k91_9 (.seq (.block 4 (.loop (.seq (.seq (.ops [m d49 r10,
 m d50 r8,
 o d51 (.len r50),
 o d52 (.bin .lt r49 r51),
 m d53 r52,
 .g .h3 .h5 true d54 (.op (.mv r8)),
 .g .h3 .h5 true d55 (.op (.mv r10)),
 .g .h3 .h5 true d56 (.op (.cn 2 r54 r55)),
 .g .h3 .h5 true d57 (.op (.cG 0 r56)),
 .g .h3 .h5 true d58 (.op (.bZ r57)),
 .g .h3 .h5 true d59 (.op (.mv r0)),
 .g .h3 .h5 true d60 (.op (.mv r9)),
 .g .h3 .h5 true d61 (.op (.cn 2 r59 r60)),
 .g .h3 .h5 true d62 (.op (.cG 0 r61)),
 .g .h3 .h5 true d63 (.op (.bZ r62)),
 .g .h3 .h5 true d64 (.call 89 [r58,r63]),
 o d65 (.pick r53 r64 (.c (.bool false)))]) (.ah k91_10 .skip)) (.ah k91_11 .skip)))) (.seq (.seq (.ops [m d68 r10,
 m d69 r8,
 o d70 (.len r69),
 o d71 (.bin .lt r68 r70),
 m d72 r71,
 .g .h4 .h8 true d73 (.op (.mv r8)),
 .g .h4 .h8 true d74 (.op (.mv r10)),
 .g .h4 .h8 true d75 (.op (.cn 2 r73 r74)),
 .g .h4 .h8 true d76 (.op (.cG 0 r75)),
 .g .h4 .h8 true d77 (.op (.bZ r76)),
 .g .h4 .h8 true d78 (.op (.mv r0)),
 .g .h4 .h8 true d79 (.op (.mv r9)),
 .g .h4 .h8 true d80 (.op (.cn 2 r78 r79)),
 .g .h4 .h8 true d81 (.op (.cG 0 r80)),
 .g .h4 .h8 true d82 (.op (.bZ r81)),
 .g .h4 .h8 true d83 (.call 175 [r77,r82]),
 o d84 (.pick r72 r83 (.c (.bool false)))]) (.ah k91_12 .skip)) (.seq (.iB [w (o d106 (.bN 27 2 0 [] [])),
 q 1 (m d107 r8),
 q 1 (m d108 r10),
 q 1 (o d109 (.Vi 2 r107 .none (.some r108) .none)),
 w (o d110 (.app 27 2 r106 r109)),
 q 2 (m d112 r0),
 q 2 (m d113 r9),
 q 2 (o d114 (.cn 2 r112 r113)),
 qf 2 d115 0 r114,
 ql 2 d116 r115,
 n (o d111 (.bN 34 3 0 [] [])),
 w (o d117 (.app 34 3 r111 r116)),
 q 3 (m d118 r0),
 q 3 (m d119 r9),
 q 3 (o d120 (.cn 2 r118 r119)),
 qf 3 d121 1 r120,
 ql 3 d122 r121,
 w (oc d123 177 [r122]),
 q 0 (o d124 (.build [.ai,(.aj .f64 0 0)] [.mk 0 1 r117,.mk 1 1 r123])),
 w (o d125 (.bN 27 2 1 [.ai,(.aj .f64 0 0)] [.mk 0 2 r124])),
 w (o d126 (.app 27 2 r110 r125)),
 q 0 (m d13 r126)]) (.ah k91_13 .skip)))))) (.ah k91_14 .skip)))))) (.ah k91_15 (.seq (.ah k91_16 (.block 6 (.loop (.ah k91_17 (.ah k91_18 .skip))))) (.ah k91_19 .skip)))))))
def f91:AF:=.mk x91 [.t .h0 .h2,.t .h0 .h3]
def k92_0:KF:=K1 y0 fun c i x h a=>
 C c 87 [a] h fun b h=>
 E 0 b h fun d h=>
 E 1 b h fun e h=>
 E 2 b h fun f h=>
 Z d e h fun g h=>
 .ret (T2 g) h
def x92:AC:=(.ah k92_0 .skip)
def f92:AF:=.mk x92 [.t .h0 .h2]
def k93_6:KF:=K3 y0 y3 y4 fun c i x h a b d=>
 D d i1 h fun e h=>
 .nm (T1 a b e) h
def k93_5:KF:=K3 y0 y3 y4 fun c i x h a b d=>
 X 3 a b h fun e h=>
 A 1 e h fun f h=>
 L f h fun g h=>
 X 3 a b h fun j h=>
 A 2 j h fun k h=>
 L k h fun l h=>
 X 2 l d h fun m h=>
 A 0 m h fun n h=>
 L n h fun o h=>
 C c 37 [g,o] h fun p h=>
 tR (bG p h) fun q h=>
 I q (.ret (T2 (.bool false)) h) (x (T1 a b d) h)
def k93_4:KF:=K3 y0 y3 y4 fun c i x h a b d=>
 X 3 a b h fun e h=>
 A 2 e h fun f h=>
 L f h fun g h=>
 G g h fun j h=>
 Y d j h fun k h=>
 I k (x (T1 a b d) h) (.ex 2 (T0 a b) h)
def k93_3:KF:=K2 y0 y3 fun c i x h a b=>
 X 3 a b h fun d h=>
 A 2 d h fun e h=>
 L e h fun f h=>
 C c 39 [f] h fun g h=>
 tR (bG g h) fun j h=>
 I j (.ret (T2 (.bool false)) h) (x (T1 a b i0) h)
def k93_7:KF:=K2 y0 y3 fun c i x h a b=>
 D b i1 h fun d h=>
 .nm (T0 a d) h
def k93_2:KF:=K2 y0 y3 fun c i x h a b=>
 G a h fun d h=>
 Y b d h fun e h=>
 I e (x (T0 a b) h) (.ex 0 T28 h)
def k93_1:KF:=K1 y0 fun c i x h a=>
 x (T0 a i0) h
def k93_8:KF:=fun c i x r h=>
 .ret (T2 (.bool true)) h
def k93_0:KF:=K1 y0 fun c i x h a=>
 C c 94 [a] h fun b h=>
 C c 66 [b] h fun d h=>
 tR (cP d i0 h) fun e h=>
 I e (.ret (T2 (.bool false)) h) (x (T4 a) h)
def x93:AC:=(.ah k93_0 (.seq (.ah k93_1 (.block 0 (.loop (.ah k93_2 (.seq (.block 1 (.ah k93_3 (.block 2 (.loop (.ah k93_4 (.ah k93_5 (.ah k93_6 .skip))))))) (.ah k93_7 .skip)))))) (.ah k93_8 .skip)))
def f93:AF:=.mk x93 [.t .h0 .h2]
def k94_3:KF:=K3 y0 y3 y4 fun c i x h a b d=>
 D d i1 h fun e h=>
 .nm (T1 a b e) h
def k94_2:KF:=K3 y0 y3 y4 fun c i x h a b d=>
 G a h fun e h=>
 Y d e h fun f h=>
 I f (x (T1 a b d) h) (.ex 0 (T13 b) h)
def k94_1:KF:=K2 y0 y3 fun c i x h a b=>
 x (T1 a b i0) h
def k94_4:KF:=K1 y3 fun c i x h a=>
 .ret (T2 a) h
def k94_0:KF:=K1 y0 fun c i x h a=>
 x (T0 a .ai) h
def x94:AC:=(.ah k94_0 (.seq (.ah k94_1 (.block 0 (.loop (.ah k94_2 (.seq (.block 1 (.iB [q 0 (m d12 r0),
 q 0 (m d13 r4),
 q 0 (o d14 (.cn 3 r12 r13)),
 qf 0 d15 0 r14,
 ql 0 d16 r15,
 q 0 (m d17 r0),
 q 0 (m d18 r4),
 q 0 (o d19 (.cn 3 r17 r18)),
 qf 0 d20 1 r19,
 ql 0 d21 r20,
 q 0 (o d22 (.build [iS,.ai] [.mk 0 1 r16,.mk 1 1 r21])),
 w (o d23 (.bN 94 2 1 [iS,.ai] [.mk 0 2 r22])),
 q 1 (m d11 r3),
 w (o d24 (.app 94 2 r11 r23)),
 q 0 (m d3 r24)])) (.ah k94_3 .skip)))))) (.ah k94_4 .skip)))
def f94:AF:=.mk x94 [.t .h0 .h2]
def k95_5:KF:=K6 y1 y2 y7 y10 y11 y12 fun c i x h a b d e f g=>
 D g i1 h fun j h=>
 .nm (T193 a b d e f j) h
def k95_4:KF:=K6 y1 y2 y7 y10 y11 y12 fun c i x h a b d e f g=>
 A 7 b h fun j h=>
 L j h fun k h=>
 X 8 k g h fun l h=>
 M 8 l h fun m h=>
 C c 95 [m,a] h fun n h=>
 E 0 n h fun o h=>
 E 1 n h fun p h=>
 E 2 n h fun q h=>
 tR (cP q i0 h) fun s h=>
 I s (.ret (T37 .ai .ai q) h) (tR (bs 29 1 1 [.ai] [.mk 0 1 (.c o)] h) fun t h=>
 tR (cX 29 1 e t h) fun v h=>
 tR (bs 66 1 1 [.ai] [.mk 0 1 (.c p)] h) fun w h=>
 tR (cX 66 1 f w h) fun y h=>
 x (T193 a b d v y g) h)
def k95_3:KF:=K6 y1 y2 y7 y10 y11 y12 fun c i x h a b d e f g=>
 A 7 b h fun j h=>
 L j h fun k h=>
 G k h fun l h=>
 Y g l h fun m h=>
 I m (x (T193 a b d e f g) h) (.ex 0 (T192 a b d e f) h)
def k95_2:KF:=K5 y1 y2 y7 y10 y11 fun c i x h a b d e f=>
 x (T193 a b d e f i0) h
def k95_11:KF:=K6 y1 y2 y7 y16 y17 y18 fun c i x h a b d e f g=>
 D g i1 h fun j h=>
 .nm (T197 a b d e f j) h
def k95_10:KF:=K6 y1 y2 y7 y16 y17 y18 fun c i x h a b d e f g=>
 G a h fun j h=>
 Y g j h fun k h=>
 I k (X 3 a g h fun l h=>
 A 0 l h fun m h=>
 L m h fun n h=>
 A 1 b h fun o h=>
 L o h fun p h=>
 tR (aW n p h) fun q h=>
 I q (X 3 a g h fun s h=>
 A 2 s h fun t h=>
 L t h fun v h=>
 x (T197 a b d v f g) h) (x (T197 a b d e f g) h)) (.ex 3 (T198 d e f) h)
def k95_9:KF:=K5 y1 y2 y7 y16 y17 fun c i x h a b d e f=>
 x (T197 a b d e f i0) h
def k95_16:KF:=K7 y2 y7 y10 y11 y16 y17 y19 fun c i x h a b d e f g j=>
 D j i1 h fun k h=>
 .nm (T200 a b d e f g k) h
def k95_15:KF:=K6 y2 y7 y10 y11 y16 y19 fun c i x h a b d e f g=>
 M 8 a h fun j h=>
 X 1 e i0 h fun k h=>
 L k h fun l h=>
 X 1 d i0 h fun m h=>
 L m h fun n h=>
 X 2 n g h fun o h=>
 A 0 o h fun p h=>
 L p h fun q h=>
 C c 178 [j,l,q] h fun s h=>
 E 0 s h fun t h=>
 E 1 s h fun v h=>
 E 2 s h fun w h=>
 gD v true (fun y=>y w h) h fun y h=>
 gD v true (fun z=>Q y i0 h fun a0 h=>
 z a0 h) h fun z h=>
 tR (dm (.c v) (.c z) (.c (.bool false)) .nil h) fun a0 h=>
 I a0 (X 1 d i0 h fun a1 h=>
 L a1 h fun a2 h=>
 X 2 a2 g h fun a3 h=>
 A 1 a3 h fun a4 h=>
 L a4 h fun a5 h=>
 U [.ai,(.aj .f64 0 0)] [.mk 0 1 (.c t),.mk 1 1 (.c a5)] h fun a6 h=>
 tR (bs 27 2 1 [.ai,(.aj .f64 0 0)] [.mk 0 2 (.c a6)] h) fun a7 h=>
 tR (cX 27 2 f a7 h) fun a8 h=>
 x (T200 a b d e a8 w g) h) (x (T200 a b d e f w g) h)
def k95_14:KF:=K7 y2 y7 y10 y11 y16 y17 y19 fun c i x h a b d e f g j=>
 X 1 d i0 h fun k h=>
 L k h fun l h=>
 G l h fun m h=>
 Y j m h fun n h=>
 gD n true (fun o=>o g h) h fun o h=>
 gD n true (fun p=>Q o i0 h fun q h=>
 p q h) h fun p h=>
 tR (dm (.c n) (.c p) (.c (.bool false)) .nil h) fun q h=>
 I q (x (T201 a b d e f j) h) (.ex 5 (T198 b f g) h)
def k95_13:KF:=K6 y2 y7 y10 y11 y16 y17 fun c i x h a b d e f g=>
 x (T200 a b d e f g i0) h
def k95_21:KF:=K5 y7 y10 y16 y17 y22 fun c i x h a b d e f=>
 D f i1 h fun g h=>
 .nm (T204 a b d e g) h
def k95_20:KF:=K5 y7 y10 y16 y17 y22 fun c i x h a b d e f=>
 X 1 b i0 h fun g h=>
 L g h fun j h=>
 G j h fun k h=>
 Y f k h fun l h=>
 I l (X 1 b i0 h fun m h=>
 L m h fun n h=>
 X 2 n f h fun o h=>
 A 0 o h fun p h=>
 L p h fun q h=>
 U [.ai,(.aj .f64 0 0)] [.mk 0 1 (.c q),.mk 1 1 (.c (.aj .f64 4607182418800017408 0))] h fun s h=>
 tR (bs 27 2 1 [.ai,(.aj .f64 0 0)] [.mk 0 2 (.c s)] h) fun t h=>
 tR (cX 27 2 d t h) fun v h=>
 x (T204 a b v e f) h) (.ex 7 (T198 a d e) h)
def k95_19:KF:=K4 y7 y10 y16 y17 fun c i x h a b d e=>
 x (T204 a b d e i0) h
def k95_23:KF:=K4 y2 y7 y10 y11 fun c i x h a b d e=>
 M 8 a h fun f h=>
 X 1 e i0 h fun g h=>
 L g h fun j h=>
 X 1 e i1 h fun k h=>
 L k h fun l h=>
 X 1 d i0 h fun m h=>
 L m h fun n h=>
 X 1 d i1 h fun o h=>
 L o h fun p h=>
 C c 179 [f,j,l,n,p] h fun q h=>
 E 0 q h fun s h=>
 E 1 q h fun t h=>
 .nm (T198 b s t) h
def k95_24:KF:=K7 y2 y7 y10 y11 y16 y17 y65 fun c i x h a b d e f g j=>
 Q j (pi 7) h fun k h=>
 x (T206 a b d e f g k) h
def k95_22:KF:=K7 y2 y7 y10 y11 y16 y17 y65 fun c i x h a b d e f g j=>
 Q j (pi 4) h fun k h=>
 x (T205 a b d e f g j k) h
def k95_18:KF:=K7 y2 y7 y10 y11 y16 y17 y65 fun c i x h a b d e f g j=>
 Q j (pi 6) h fun k h=>
 x (T203 a b d e f g j k) h
def k95_17:KF:=K7 y2 y7 y10 y11 y16 y17 y65 fun c i x h a b d e f g j=>
 Q j (pi 5) h fun k h=>
 x (T202 a b d e f g j k) h
def k95_12:KF:=K7 y2 y7 y10 y11 y16 y17 y65 fun c i x h a b d e f g j=>
 Q j (pi 2) h fun k h=>
 I k (x (T199 a b d e f g j k) h) (Q j (pi 3) h fun l h=>
 x (T199 a b d e f g j l) h)
def k95_8:KF:=K8 y1 y2 y7 y10 y11 y16 y17 y65 fun c i x h a b d e f g j k=>
 Q k i1 h fun l h=>
 x (T196 a b d e f g j k l) h
def k95_7:KF:=K7 y1 y2 y7 y10 y11 y16 y17 fun c i x h a b d e f g j=>
 A 0 b h fun k h=>
 L k h fun l h=>
 x (T195 a b d e f g j l) h
def k95_26:KF:=K3 y7 y23 y229 fun c i x h a b d=>
 I d (.ret (T37 .ai .ai (pi 13)) h) (.nm (T208 a b) h)
def k95_27:KF:=K2 y7 y23 fun c i x h a b=>
 .ret (T37 b a i0) h
def k95_25:KF:=K3 y7 y16 y17 fun c i x h a b d=>
 tR (cP d i0 h) fun e h=>
 I e (.ret (T37 .ai .ai d) h) (C c 91 [b] h fun f h=>
 E 0 f h fun g h=>
 E 1 f h fun j h=>
 C c 183 [g] h fun k h=>
 E 0 k h fun l h=>
 E 1 k h fun m h=>
 x (T207 a g j l m) h)
def k95_6:KF:=K5 y1 y2 y7 y10 y11 fun c i x h a b d e f=>
 x (T194 a b d e f .ai i0) h
def k95_1:KF:=K3 y1 y2 y7 fun c i x h a b d=>
 x (T192 a b d .ai .ai) h
def k95_0:KF:=K2 y0 y1 fun c i x h a b=>
 B 49 a h fun d h=>
 x (T6 b d) h
def x95:AC:=(.ah k95_0 (.seq (.iB [q 0 (m d29 r1),
 w (oc d30 94 [r29]),
 q 1 (o d28 (.jO 8 r2)),
 w (oc d31 30 [r28,r30]),
 q 0 (m d27 r31),
 q 0 (oe d32 0 r27),
 q 0 (oe d33 1 r27),
 q 0 (oe d34 2 r27),
 q 0 (m d7 r32),
 q 0 (m d8 r33),
 q 0 (m d9 r34)]) (.ah k95_1 (.seq (.ah k95_2 (.block 0 (.loop (.ah k95_3 (.ah k95_4 (.ah k95_5 .skip)))))) (.ah k95_6 (.seq (.ah k95_7 (.block 2 (.ah k95_8 (.cond r66 (.ah k95_9 (.block 3 (.loop (.ah k95_10 (.ah k95_11 .skip))))) (.ah k95_12 (.cond r87 (.ah k95_13 (.block 5 (.loop (.ah k95_14 (.ah k95_15 (.ah k95_16 .skip)))))) (.ah k95_17 (.cond r135 (.iB [w (o d137 (.bN 27 2 0 [] [])),
 q 1 (m d138 r10),
 q 1 (o d139 (.cn 1 r138 a0)),
 ql 1 d140 r139,
 w (o d141 (.app 27 2 r137 r140)),
 q 2 (m d142 r10),
 q 2 (o d143 (.cn 1 r142 a1)),
 ql 2 d144 r143,
 w (o d145 (.app 27 2 r141 r144)),
 q 0 (m d16 r145)]) (.ah k95_18 (.cond r146 (.ah k95_19 (.block 7 (.loop (.ah k95_20 (.ah k95_21 .skip))))) (.ah k95_22 (.cond r167 (.ah k95_23 .skip) (.ah k95_24 (.cond r186 (.iB [q 0 (m d189 r11),
 q 0 (o d190 (.cn 1 r189 a0)),
 ql 0 d191 r190,
 qf 0 d192 4 r2,
 ql 0 d193 r192,
 w (oc d194 181 [r191,r193]),
 q 1 (m d195 r11),
 q 1 (o d196 (.cn 1 r195 a0)),
 ql 1 d197 r196,
 qf 1 d198 6 r2,
 ql 1 d199 r198,
 w (oc d200 182 [r197,r199]),
 q 2 (m d201 r10),
 q 2 (o d202 (.cn 1 r201 a0)),
 ql 2 d203 r202,
 w (oc d204 180 [r194,r200,r203]),
 q 0 (m d188 r204),
 q 0 (oe d205 0 r188),
 q 0 (oe d206 1 r188),
 q 0 (m d16 r205),
 q 0 (m d17 r206)]) .skip)))))))))))))) (.ah k95_25 (.seq (.seq (.ops [m d220 r24,
 o d221 (.bin .ne r220 a0),
 m d222 r221,
 .g .hd .he false d223 (.op (.mv r26)),
 .g .hd .he false d224 (.op (.un .not r223)),
 o d225 (.pick r222 (.c (.bool true)) r224),
 m d226 r225,
 .g .he .h2 false d227 (.op (.mv r25)),
 .g .he .h2 false d228 (.op (.bin .gt r227 (.c (pi 512)))),
 o d229 (.pick r226 (.c (.bool true)) r228)]) (.ah k95_26 .skip)) (.ah k95_27 .skip)))))))))
def f95:AF:=.mk x95 [.t .h0 .h4,.t .h0 .h5,.t .h0 .h6]
def k96_0:KF:=K1 y0 fun c i x h a=>
 C c 87 [a] h fun b h=>
 E 0 b h fun d h=>
 E 1 b h fun e h=>
 E 2 b h fun f h=>
 C c 184 [e,d] h fun g h=>
 .ret (T2 g) h
def x96:AC:=(.ah k96_0 .skip)
def f96:AF:=.mk x96 [.t .h0 .h2]
def x97:AC:=b97
def f97:AF:=.mk x97 [.t .h0 .h2]
def x98:AC:=b98
def f98:AF:=.mk x98 [.t .h0 .h2]
def x99:AC:=b99
def f99:AF:=.mk x99 []
def x100:AC:=b100
def f100:AF:=.mk x100 [.t .h0 .h4]
def x101:AC:=b101
def f101:AF:=.mk x101 [.t .h0 .h2]
def x105:AC:=b105
def f105:AF:=.mk x105 [.t .h0 .h0]
def x106:AC:=b106
def f106:AF:=.mk x106 []
def x108:AC:=b108
def f108:AF:=.mk x108 [.t .h0 .h2]
def x109:AC:=b109
def f109:AF:=.mk x109 [.t .h0 .h2]
def x110:AC:=b110
def f110:AF:=.mk x110 [.t .h0 .h4]
def x111:AC:=b111
def f111:AF:=.mk x111 [.t .h0 .h3]
def x112:AC:=b112
def f112:AF:=.mk x112 [.t .h0 .h2]
def x113:AC:=b113
def f113:AF:=.mk x113 [.t .h0 .h2]
def x114:AC:=b114
def f114:AF:=.mk x114 [.agg 5 .h0 .h2]
def x115:AC:=b115
def f115:AF:=.mk x115 [.agg 8 .h0 .h2,.t .h0 .h3,.t .h0 .h4]
def x116:AC:=b116
def f116:AF:=.mk x116 [.t .h0 .h4]
def x117:AC:=b117
def f117:AF:=.mk x117 [.t .h0 .h3]
def x118:AC:=b118
def f118:AF:=.mk x118 [.t .h0 .h4,.t .h0 .h5]
def x119:AC:=b119
def f119:AF:=.mk x119 [.t .h0 .h4,.agg 2 .h0 .h5]
def x120:AC:=b120
def f120:AF:=.mk x120 [.t .h0 .h6,.agg 2 .h0 .h7]
def x121:AC:=b121
def f121:AF:=.mk x121 [.t .h0 .h4,.agg 2 .h0 .h5]
def x122:AC:=b122
def f122:AF:=.mk x122 [.t .h0 .h4,.agg 2 .h0 .h5]
def x123:AC:=b123
def f123:AF:=.mk x123 [.t .h0 .h2]
def x124:AC:=b124
def f124:AF:=.mk x124 [.t .h0 .h2]
def k125_0:KF:=K2 y0 y1 fun c i x h a b=>
 B 9 b h fun d h=>
 C c 215 [a,(.fn 216 [d])] h fun e h=>
 tR (Dh false [e,i0] h) fun f h=>
 tR (nN e i0 h) fun g h=>
 .ret (T5 f g) h
def x125:AC:=(.ah k125_0 .skip)
def f125:AF:=.mk x125 [.t .h0 .h4,.t .h0 .h5]
def x126:AC:=b126
def f126:AF:=.mk x126 [.t .h0 .h0]
def x127:AC:=b127
def f127:AF:=.mk x127 [.agg 2 .h0 .h4]
def k128_4:KF:=K9 y0 y1 y2 y3 y8 y9 y10 y11 y68 fun c i x h a b d e f g j k l=>
 I l (C c 222 [a,b,d] h fun m h=>
 I m (.ret T28 h) (.nm (T253 a b d e f g j k) h)) (.nm (T253 a b d e f g j k) h)
def k128_5:KF:=K9 y0 y1 y2 y3 y8 y9 y10 y11 y87 fun c i x h a b d e f g j k l=>
 I l (C c 224 [a,b,d,k] h fun m h=>
 .ex 1 (T253 a m d e f g j k) h) (.nm (T253 a b d e f g j k) h)
def k128_8:KF:=K10 y0 y1 y2 y3 y9 y14 y16 y17 y18 y113 fun c i x h a b d e f g j k l m=>
 I m (tR (nN j l h) fun n h=>
 C c 128 [a,b,g,e] h fun o h=>
 D g i1 h fun p h=>
 .nm (T250 a p d e n f) h) (tR (nN k l h) fun n h=>
 D g i1 h fun o h=>
 C c 128 [a,o,d,e] h fun p h=>
 .nm (T250 a b g e n f) h)
def k128_7:KF:=K9 y0 y1 y2 y3 y9 y14 y16 y17 y18 fun c i x h a b d e f g j k l=>
 Y j k h fun m h=>
 x (T255 a b d e f g j k l m) h
def k128_6:KF:=K6 y0 y1 y2 y3 y10 y11 fun c i x h a b d e f g=>
 C c 225 [a,b,d,g] h fun j h=>
 E 0 j h fun k h=>
 E 1 j h fun l h=>
 Z k b h fun m h=>
 Z d k h fun n h=>
 tR (GU f (pi 8) h) fun o h=>
 x (T254 a b d e l k m n o) h
def k128_3:KF:=K7 y0 y1 y2 y3 y8 y9 y10 fun c i x h a b d e f g j=>
 C c 220 [a,b,d] h fun k h=>
 E 0 k h fun l h=>
 E 1 k h fun m h=>
 Q m (pi 2) h fun n h=>
 I n (C c 221 [a,b,d] h fun o h=>
 Z d i1 h fun p h=>
 Z l b h fun q h=>
 Z p q h fun s h=>
 x (T252 a b d e f g j s i1) h) (x (T252 a b d e f g j l m) h)
def k128_2:KF:=K7 y0 y1 y2 y3 y8 y9 y10 fun c i x h a b d e f g j=>
 tR (bG f h) fun k h=>
 I k (C c 219 [a,b,d] h fun l h=>
 Z e i1 h fun m h=>
 x (T251 a b d m f g j) h) (x (T251 a b d e f g j) h)
def k128_1:KF:=K6 y0 y1 y2 y3 y8 y9 fun c i x h a b d e f g=>
 Z d b h fun j h=>
 tR (Ao j (pi 12) h) fun k h=>
 I k (C c 217 [a,b,d] h fun l h=>
 .ret T28 h) (Q e i0 h fun l h=>
 I l (C c 218 [a,b,d] h fun m h=>
 .ret T28 h) (x (T251 a b d e f g j) h))
def k128_0:KF:=K4 y0 y1 y2 y3 fun c i x h a b d e=>
 x (T250 a b d e (.bool true) (.bool true)) h
def x128:AC:=(.ah k128_0 (.block 0 (.loop (.block 1 (.ah k128_1 (.ah k128_2 (.ah k128_3 (.seq (.seq (.ops [m d61 r8,
 m d62 r61,
 .g .h3 .he true d63 (.op (.mv r9)),
 o d64 (.pick r62 r63 (.c (.bool false))),
 m d65 r64,
 .g .h4 .h1 true d66 (.op (.mv r12)),
 .g .h4 .h1 true d67 (.op (.bin .eq r66 a1)),
 o d68 (.pick r65 r67 (.c (.bool false)))]) (.ah k128_4 .skip)) (.seq (.seq (.ops [m d73 r1,
 o d74 (.bin .gt r73 a0),
 m d75 r74,
 .g .h4 .hb true d76 (.op (.mv r0)),
 .g .h4 .hb true d77 (.op (.mv r1)),
 .g .h4 .hb true d78 (.op (.bin .sub r77 a1)),
 .g .h4 .hb true d79 (.op (.cn 1 r76 r78)),
 .g .h4 .hb true d80 (.op (.bZ r79)),
 .g .h4 .hb true d81 (.op (.mv r0)),
 .g .h4 .hb true d82 (.op (.mv r11)),
 .g .h4 .hb true d83 (.op (.cn 1 r81 r82)),
 .g .h4 .hb true d84 (.op (.bZ r83)),
 .g .h4 .hb true d85 (.call 223 [r80,r84]),
 .g .h4 .hb true d86 (.op (.un .not r85)),
 o d87 (.pick r75 r86 (.c (.bool false)))]) (.ah k128_5 .skip)) (.ah k128_6 (.ah k128_7 (.ah k128_8 .skip))))))))))))
def f128:AF:=.mk x128 []
def k129_0:KF:=K1 y0 fun c i x h a=>
 I (.bool false) (tR (cK (.toInt .u32) a h) fun b h=>
 C c 226 [b] h fun d h=>
 .ret (T2 d) h) (C c 227 [a] h fun b h=>
 .ret (T2 b) h)
def x129:AC:=(.ah k129_0 .skip)
def f129:AF:=.mk x129 [.t .h0 .h2]
def k130_0:KF:=K1 y0 fun c i x h a=>
 tR (nN a (.int .u8 (.ofNat 97)) h) fun b h=>
 gD b true (fun d=>d a h) h fun d h=>
 gD b true (fun e=>tR (Ao d (.int .u8 (.ofNat 122)) h) fun f h=>
 e f h) h fun e h=>
 tR (dm (.c b) (.c e) (.c (.bool false)) .nil h) fun f h=>
 .ret (T2 f) h
def x130:AC:=(.ah k130_0 .skip)
def f130:AF:=.mk x130 [.t .h0 .h2]
def k131_0:KF:=K1 y0 fun c i x h a=>
 tR (nN a (.int .u8 (.ofNat 48)) h) fun b h=>
 gD b true (fun d=>d a h) h fun d h=>
 gD b true (fun e=>tR (Ao d (.int .u8 (.ofNat 57)) h) fun f h=>
 e f h) h fun e h=>
 tR (dm (.c b) (.c e) (.c (.bool false)) .nil h) fun f h=>
 .ret (T2 f) h
def x131:AC:=(.ah k131_0 .skip)
def f131:AF:=.mk x131 [.t .h0 .h2]
def k132_4:KF:=K5 y0 y1 y4 y12 y48 fun c i x h a b d e f=>
 I f (.nm (T259 a b d e) h) (.ex 0 (T259 a b d e) h)
def k132_5:KF:=K4 y0 y1 y4 y12 fun c i x h a b d e=>
 D e i1 h fun f h=>
 .nm (T259 a b d f) h
def k132_6:KF:=K4 y0 y1 y4 y12 fun c i x h a b d e=>
 tR (mL (.c a) (.some (.c b)) (.some (.c e)) .nil h) fun f h=>
 U [i0,iS,i0,.ai,i0] [.mk 0 1 (.c (pi 2)),.mk 1 1 (.c f),.mk 4 1 (.c b)] h fun g h=>
 S 5 d g h fun j h=>
 .ret (T257 d e i0 i0) h
def k132_3:KF:=K3 y0 y1 y4 fun c i x h a b d=>
 x (T259 a b d b) h
def k132_2:KF:=K3 y0 y1 y4 fun c i x h a b d=>
 tR (gG (.c a) (.c b) .nil h) fun e h=>
 C c 130 [e] h fun f h=>
 x (T258 a b d f) h
def k132_8:KF:=K4 y1 y4 y13 y14 fun c i x h a b d e=>
 U [i0,iS,i0,.ai,i0] [.mk 0 1 (.c (pi 3)),.mk 2 1 (.c d),.mk 4 1 (.c a)] h fun f h=>
 S 5 b f h fun g h=>
 .ret (T257 b e i0 i0) h
def k132_7:KF:=K3 y0 y1 y4 fun c i x h a b d=>
 C c 229 [a,b] h fun e h=>
 E 0 e h fun f h=>
 E 1 e h fun g h=>
 E 2 e h fun j h=>
 tR (bG j h) fun k h=>
 I k (U [i0,iS,i0,.ai,i0] [] h fun l h=>
 S 5 d l h fun m h=>
 .ret (T257 d i0 (pi 12) b) h) (x (T260 b d f g) h)
def k132_1:KF:=K3 y0 y1 y4 fun c i x h a b d=>
 tR (gG (.c a) (.c b) .nil h) fun e h=>
 Q e (.int .u8 (.ofNat 34)) h fun f h=>
 I f (C c 228 [a,b] h fun g h=>
 E 0 g h fun j h=>
 E 1 g h fun k h=>
 E 2 g h fun l h=>
 E 3 g h fun m h=>
 U [i0,iS,i0,.ai,i0] [.mk 0 1 (.c (pi 4)),.mk 1 1 (.c j),.mk 4 1 (.c b)] h fun n h=>
 S 5 d n h fun o h=>
 .ret (T257 d k l m) h) (x (T256 a b d) h)
def k132_0:KF:=K2 y0 y1 fun c i x h a b=>
 O 150 5 (.k1 (Y5 i0 iS i0 .ai i0)) h fun d h=>
 x (T256 a b d) h
def x132:AC:=(.ah k132_0 (.ah k132_1 (.seq (.ah k132_2 (.cond r37 (.ah k132_3 (.seq (.block 0 (.loop (.seq (.seq (.ops [m d39 r12,
 m d40 r0,
 o d41 (.iw r40),
 o d42 (.bin .lt r39 r41),
 m d43 r42,
 .g .h2 .hb true d44 (.op (.mv r0)),
 .g .h2 .hb true d45 (.op (.mv r12)),
 .g .h2 .hb true d46 (.op (.idxs r44 r45)),
 .g .h2 .hb true d47 (.call 130 [r46]),
 o d48 (.pick r43 r47 (.c (.bool false)))]) (.ah k132_4 .skip)) (.ah k132_5 .skip)))) (.ah k132_6 .skip))) .skip)) (.ah k132_7 (.ah k132_8 .skip)))))
def f132:AF:=.mk x132 [.agg 5 .h0 .h4,.t .h0 .h5,.t .h0 .h6,.t .h0 .h7]
def k133_4:KF:=K1 y4 fun c i x h a=>
 Q a (pi 3) h fun b h=>
 .ret (T2 b) h
def k133_6:KF:=K1 y4 fun c i x h a=>
 Q a (pi 2) h fun b h=>
 .ret (T2 b) h
def k133_11:KF:=K4 y3 y4 y5 y69 fun c i x h a b d e=>
 I e (.ret (T2 (.bool false)) h) (.nm (T267 a b d) h)
def k133_12:KF:=K3 y3 y4 y5 fun c i x h a b d=>
 D d i1 h fun e h=>
 .nm (T267 a b e) h
def k133_10:KF:=K3 y3 y4 y5 fun c i x h a b d=>
 Z b i1 h fun e h=>
 Y d e h fun f h=>
 I f (x (T267 a b d) h) (.ex 1 T28 h)
def k133_9:KF:=K2 y3 y4 fun c i x h a b=>
 x (T267 a b i1) h
def k133_13:KF:=fun c i x r h=>
 .ret (T2 (.bool true)) h
def k133_8:KF:=K2 y3 y4 fun c i x h a b=>
 Y b (pi 3) h fun d h=>
 I d (.ret (T2 (.bool false)) h) (x (T266 a b) h)
def k133_16:KF:=K3 y3 y4 y120 fun c i x h a b d=>
 I d (.ret (T2 (.bool false)) h) (.nm (T266 a b) h)
def k133_20:KF:=K4 y3 y4 y6 y151 fun c i x h a b d e=>
 I e (.ret (T2 (.bool false)) h) (.nm (T270 a b d) h)
def k133_19:KF:=K3 y3 y4 y6 fun c i x h a b d=>
 X 5 a d h fun e h=>
 M 5 e h fun f h=>
 O 150 5 (.k1 (Y5 i0 iS i0 .ai i0)) h fun g h=>
 S 5 g f h fun j h=>
 x (T271 a b d g) h
def k133_21:KF:=K3 y3 y4 y6 fun c i x h a b d=>
 D d i1 h fun e h=>
 .nm (T270 a b e) h
def k133_18:KF:=K3 y3 y4 y6 fun c i x h a b d=>
 Z b i1 h fun e h=>
 Y d e h fun f h=>
 I f (x (T270 a b d) h) (.ex 3 T28 h)
def k133_17:KF:=K2 y3 y4 fun c i x h a b=>
 x (T270 a b (pi 2)) h
def k133_22:KF:=fun c i x r h=>
 .ret (T2 (.bool true)) h
def k133_15:KF:=K3 y3 y4 y13 fun c i x h a b d=>
 tR (aW d (.str [103,114,111,117,112]) h) fun e h=>
 x (T269 a b e) h
def k133_14:KF:=K3 y3 y4 y13 fun c i x h a b d=>
 tR (aW d (.str [106,111,105,110]) h) fun e h=>
 x (T268 a b d e) h
def k133_7:KF:=K3 y3 y4 y13 fun c i x h a b d=>
 tR (aW d (.str [112,114,111,106,101,99,116]) h) fun e h=>
 x (T265 a b d e) h
def k133_5:KF:=K3 y3 y4 y13 fun c i x h a b d=>
 tR (aW d (.str [100,105,115,116,105,110,99,116]) h) fun e h=>
 x (T264 a b d e) h
def k133_3:KF:=K3 y3 y4 y13 fun c i x h a b d=>
 tR (aW d (.str [102,105,108,116,101,114]) h) fun e h=>
 I e (x (T263 a b d e) h) (tR (aW d (.str [117,110,105,111,110]) h) fun f h=>
 x (T263 a b d f) h)
def k133_2:KF:=K3 y3 y4 y13 fun c i x h a b d=>
 tR (aW d (.str [116,97,98,108,101]) h) fun e h=>
 x (T262 a b d e) h
def k133_1:KF:=K3 y1 y3 y4 fun c i x h a b d=>
 M 5 a h fun e h=>
 C c 134 [e] h fun f h=>
 x (T261 b d f) h
def k133_23:KF:=fun c i x r h=>
 .ret (T2 (.bool false)) h
def k133_0:KF:=K1 y0 fun c i x h a=>
 B 150 a h fun b h=>
 A 3 b h fun d h=>
 L d h fun e h=>
 G e h fun f h=>
 x (T132 b e f) h
def x133:AC:=(.ah k133_0 (.seq (.ah k133_1 (.block 0 (.ah k133_2 (.cond r14 (.seq (.ops [m d16 r4,
 o d17 (.bin .eq r16 a2),
 m d18 r17,
 .g .h1 .h2 true d19 (.op (.mv r3)),
 .g .h1 .h2 true d20 (.op (.cn 5 r19 a1)),
 .g .h1 .h2 true d21 (.op (.cG 0 r20)),
 .g .h1 .h2 true d22 (.op (.bZ r21)),
 .g .h1 .h2 true d23 (.op (.bin .eq r22 a2)),
 o d24 (.pick r18 r23 (.c (.bool false))),
 m d2 r24]) .ret) (.ah k133_3 (.cond r25 (.ah k133_4 .skip) (.ah k133_5 (.cond r30 (.ah k133_6 .skip) (.ah k133_7 (.cond r34 (.ah k133_8 (.seq (.ah k133_9 (.block 1 (.loop (.ah k133_10 (.seq (.block 2 (.seq (.ops [m d44 r3,
 m d45 r5,
 o d46 (.cn 5 r44 r45),
 of d47 0 r46,
 ol d48 r47,
 o d49 (.bin .ne r48 a1),
 m d50 r49,
 .g .h3 .h2 false d51 (.op (.mv r3)),
 .g .h3 .h2 false d52 (.op (.mv r5)),
 .g .h3 .h2 false d53 (.op (.cn 5 r51 r52)),
 .g .h3 .h2 false d54 (.op (.cG 3 r53)),
 .g .h3 .h2 false d55 (.op (.bZ r54)),
 .g .h3 .h2 false d56 (.op (.len r55)),
 .g .h3 .h2 false d57 (.op (.bin .ne r56 a2)),
 o d58 (.pick r50 (.c (.bool true)) r57),
 m d59 r58,
 .g .h3 .hb false d60 (.op (.mv r3)),
 .g .h3 .hb false d61 (.op (.mv r5)),
 .g .h3 .hb false d62 (.op (.cn 5 r60 r61)),
 .g .h3 .hb false d63 (.op (.cG 3 r62)),
 .g .h3 .hb false d64 (.op (.bZ r63)),
 .g .h3 .hb false d65 (.op (.cn 5 r64 a0)),
 .g .h3 .hb false d66 (.op (.cG 0 r65)),
 .g .h3 .hb false d67 (.op (.bZ r66)),
 .g .h3 .hb false d68 (.op (.bin .ne r67 a2)),
 o d69 (.pick r59 (.c (.bool true)) r68)]) (.ah k133_11 .skip))) (.ah k133_12 .skip)))))) (.ah k133_13 .skip))) (.ah k133_14 (.cond r70 (.seq (.ops [m d72 r4,
 o d73 (.bin .eq r72 (.c (pi 5))),
 m d74 r73,
 .g .h4 .ha true d75 (.op (.mv r3)),
 .g .h4 .ha true d76 (.op (.cn 5 r75 a1)),
 .g .h4 .ha true d77 (.op (.cG 0 r76)),
 .g .h4 .ha true d78 (.op (.bZ r77)),
 .g .h4 .ha true d79 (.op (.bin .eq r78 a1)),
 o d80 (.pick r74 r79 (.c (.bool false))),
 m d81 r80,
 .g .h5 .h1 true d82 (.op (.mv r3)),
 .g .h5 .h1 true d83 (.op (.cn 5 r82 a2)),
 .g .h5 .h1 true d84 (.op (.cG 0 r83)),
 .g .h5 .h1 true d85 (.op (.bZ r84)),
 .g .h5 .h1 true d86 (.op (.bin .eq r85 a1)),
 o d87 (.pick r81 r86 (.c (.bool false))),
 m d88 r87,
 .g .h5 .h8 true d89 (.op (.mv r3)),
 .g .h5 .h8 true d90 (.op (.cn 5 r89 a1)),
 .g .h5 .h8 true d91 (.op (.cG 3 r90)),
 .g .h5 .h8 true d92 (.op (.bZ r91)),
 .g .h5 .h8 true d93 (.call 230 [r92]),
 o d94 (.pick r88 r93 (.c (.bool false))),
 m d95 r94,
 .g .h5 .hf true d96 (.op (.mv r3)),
 .g .h5 .hf true d97 (.op (.cn 5 r96 a2)),
 .g .h5 .hf true d98 (.op (.cG 3 r97)),
 .g .h5 .hf true d99 (.op (.bZ r98)),
 .g .h5 .hf true d100 (.call 230 [r99]),
 o d101 (.pick r95 r100 (.c (.bool false))),
 m d2 r101]) .ret) (.ah k133_15 (.cond r102 (.seq (.seq (.ops [m d104 r4,
 o d105 (.bin .lt r104 (.c (pi 3))),
 m d106 r105,
 .g .h6 .ha false d107 (.op (.mv r3)),
 .g .h6 .ha false d108 (.op (.cn 5 r107 a1)),
 .g .h6 .ha false d109 (.op (.cG 0 r108)),
 .g .h6 .ha false d110 (.op (.bZ r109)),
 .g .h6 .ha false d111 (.op (.bin .ne r110 a1)),
 o d112 (.pick r106 (.c (.bool true)) r111),
 m d113 r112,
 .g .h7 .h1 false d114 (.op (.mv r3)),
 .g .h7 .h1 false d115 (.op (.cn 5 r114 a1)),
 .g .h7 .h1 false d116 (.op (.cG 3 r115)),
 .g .h7 .h1 false d117 (.op (.bZ r116)),
 .g .h7 .h1 false d118 (.call 230 [r117]),
 .g .h7 .h1 false d119 (.op (.un .not r118)),
 o d120 (.pick r113 (.c (.bool true)) r119)]) (.ah k133_16 .skip)) (.seq (.ah k133_17 (.block 3 (.loop (.ah k133_18 (.seq (.block 4 (.ah k133_19 (.seq (.ops [of d131 0 r7,
 ol d132 r131,
 o d133 (.bin .ne r132 a1),
 m d134 r133,
 .g .h8 .h6 false d135 (.op (.cG 3 r7)),
 .g .h8 .h6 false d136 (.op (.bZ r135)),
 .g .h8 .h6 false d137 (.call 230 [r136]),
 .g .h8 .h6 false d138 (.op (.un .not r137)),
 o d139 (.pick r134 (.c (.bool true)) r138),
 m d140 r139,
 .g .h8 .hc false d141 (.op (.cG 3 r7)),
 .g .h8 .hc false d142 (.op (.bZ r141)),
 .g .h8 .hc false d143 (.op (.len r142)),
 .g .h8 .hc false d144 (.op (.bin .ne r143 a2)),
 .g .h8 .hc false d145 (.op (.mv r144)),
 .g .h9 .h1 true d146 (.op (.cG 3 r7)),
 .g .h9 .h1 true d147 (.op (.bZ r146)),
 .g .h9 .h1 true d148 (.op (.len r147)),
 .g .h9 .h1 true d149 (.op (.bin .ne r148 (.c (pi 3)))),
 .g .h8 .hc false d150 (.op (.pick r145 r149 (.c (.bool false)))),
 o d151 (.pick r140 (.c (.bool true)) r150)]) (.ah k133_20 .skip)))) (.ah k133_21 .skip)))))) (.ah k133_22 .skip))) .skip)))))))))))))) (.ah k133_23 .skip)))
def f133:AF:=.mk x133 [.t .h0 .h2]
def k134_1:KF:=K2 y1 y19 fun c i x h a b=>
 I b (A 3 a h fun d h=>
 L d h fun e h=>
 X 5 e i0 h fun f h=>
 A 1 f h fun g h=>
 L g h fun j h=>
 .ret (T2 j) h) (.nm T28 h)
def k134_2:KF:=fun c i x r h=>
 .ret (T2 iS) h
def k134_0:KF:=K1 y0 fun c i x h a=>
 B 150 a h fun b h=>
 x (T35 b) h
def x134:AC:=(.ah k134_0 (.seq (.seq (.ops [of d3 0 r1,
 ol d4 r3,
 o d5 (.bin .eq r4 a1),
 m d6 r5,
 .g .h0 .h6 true d7 (.op (.cG 3 r1)),
 .g .h0 .h6 true d8 (.op (.bZ r7)),
 .g .h0 .h6 true d9 (.op (.len r8)),
 .g .h0 .h6 true d10 (.op (.bin .gt r9 a0)),
 o d11 (.pick r6 r10 (.c (.bool false))),
 m d12 r11,
 .g .h0 .hc true d13 (.op (.cG 3 r1)),
 .g .h0 .hc true d14 (.op (.bZ r13)),
 .g .h0 .hc true d15 (.op (.cn 5 r14 a0)),
 .g .h0 .hc true d16 (.op (.cG 0 r15)),
 .g .h0 .hc true d17 (.op (.bZ r16)),
 .g .h0 .hc true d18 (.op (.bin .eq r17 a2)),
 o d19 (.pick r12 r18 (.c (.bool false)))]) (.ah k134_1 .skip)) (.ah k134_2 .skip)))
def f134:AF:=.mk x134 [.t .h0 .h2]
def k135_0:KF:=K1 y0 fun c i x h a=>
 B 150 a h fun b h=>
 A 1 b h fun d h=>
 L d h fun e h=>
 C c 142 [e] h fun f h=>
 tR (bG f h) fun g h=>
 I g (A 4 b h fun j h=>
 L j h fun k h=>
 .ret (T48 iS (pi 20) k) h) (A 1 b h fun j h=>
 L j h fun k h=>
 .ret (T48 k i0 i0) h)
def x135:AC:=(.ah k135_0 .skip)
def f135:AF:=.mk x135 [.t .h0 .h2,.t .h0 .h3,.t .h0 .h4]
def k136_3:KF:=K2 y1 y2 fun c i x h a b=>
 A 1 a h fun d h=>
 L d h fun e h=>
 C c 142 [e] h fun f h=>
 tR (bG f h) fun g h=>
 x (T274 a b g) h
def k136_4:KF:=K2 y1 y2 fun c i x h a b=>
 A 1 a h fun d h=>
 L d h fun e h=>
 U [i0,iS,i0,.ai] [.mk 0 1 (.c i1),.mk 1 1 (.c e)] h fun f h=>
 S 4 b f h fun g h=>
 .ret (T48 b i0 i0) h
def k136_5:KF:=K3 y1 y2 y11 fun c i x h a b d=>
 Q d (pi 3) h fun e h=>
 I e (A 2 a h fun f h=>
 L f h fun g h=>
 U [i0,iS,i0,.ai] [.mk 0 1 (.c (pi 2)),.mk 2 1 (.c g)] h fun j h=>
 S 4 b j h fun k h=>
 .ret (T48 b i0 i0) h) (Q d (pi 4) h fun f h=>
 I f (A 1 a h fun g h=>
 L g h fun j h=>
 U [i0,iS,i0,.ai] [.mk 0 1 (.c (pi 3)),.mk 1 1 (.c j)] h fun k h=>
 S 4 b k h fun l h=>
 .ret (T48 b i0 i0) h) (.nm (T6 a b) h))
def k136_2:KF:=K3 y1 y2 y11 fun c i x h a b d=>
 Q d (pi 2) h fun e h=>
 x (T273 a b d e) h
def k136_1:KF:=K2 y1 y2 fun c i x h a b=>
 A 0 a h fun d h=>
 L d h fun e h=>
 x (T272 a b e) h
def k136_10:KF:=K4 y1 y2 y5 y6 fun c i x h a b d e=>
 D e i1 h fun f h=>
 .nm (T76 a b d f) h
def k136_9:KF:=K4 y1 y2 y5 y6 fun c i x h a b d e=>
 A 3 a h fun f h=>
 L f h fun g h=>
 X 5 g e h fun j h=>
 M 5 j h fun k h=>
 C c 136 [k] h fun l h=>
 E 0 l h fun m h=>
 E 1 l h fun n h=>
 E 2 l h fun o h=>
 O 202 4 (.k1 (Y4 i0 iS i0 .ai)) h fun p h=>
 S 4 p m h fun q h=>
 tR (cP n i0 h) fun s h=>
 I s (U [i0,iS,i0,.ai] [] h fun t h=>
 S 4 b t h fun v h=>
 .ret (T48 b n o) h) (A 3 d h fun t h=>
 L t h fun v h=>
 M 4 p h fun w h=>
 tR (bs 202 4 1 [i0,iS,i0,.ai] [.mk 0 4 (.c w)] h) fun y h=>
 tR (cX 202 4 v y h) fun z h=>
 A 3 d h fun a0 h=>
 W a0 z h fun a1 h=>
 x (T76 a b d e) h)
def k136_8:KF:=K4 y1 y2 y5 y6 fun c i x h a b d e=>
 A 3 a h fun f h=>
 L f h fun g h=>
 G g h fun j h=>
 Y e j h fun k h=>
 I k (x (T76 a b d e) h) (.ex 1 (T49 b d) h)
def k136_7:KF:=K3 y1 y2 y5 fun c i x h a b d=>
 x (T76 a b d i1) h
def k136_11:KF:=K2 y2 y5 fun c i x h a b=>
 M 4 b h fun d h=>
 S 4 a d h fun e h=>
 .ret (T48 a i0 i0) h
def k136_6:KF:=K2 y1 y2 fun c i x h a b=>
 A 3 a h fun d h=>
 L d h fun e h=>
 X 5 e i0 h fun f h=>
 A 1 f h fun g h=>
 L g h fun j h=>
 U [i0,iS,i0,.ai] [.mk 0 1 (.c (pi 4)),.mk 1 1 (.c j)] h fun k h=>
 O 202 4 (.k1 (Y4 i0 iS i0 .ai)) h fun l h=>
 S 4 l k h fun m h=>
 x (T39 a b l) h
def k136_0:KF:=K1 y0 fun c i x h a=>
 B 150 a h fun b h=>
 O 202 4 (.k1 (Y4 i0 iS i0 .ai)) h fun d h=>
 x (T6 b d) h
def x136:AC:=(.ah k136_0 (.seq (.ah k136_1 (.block 0 (.ah k136_2 (.cond r12 (.seq (.ah k136_3 (.cond r17 (.seq (.iB [q 0 (o d18 (.build [i0,iS,i0,.ai] [])),
 w (o .no (.uK 4 r2 r18)),
 qf 1 d19 4 r1,
 ql 1 d20 r19,
 q 0 (m d3 (.c (pi 20))),
 q 0 (m d4 r20)]) .ret) .skip)) (.ah k136_4 .skip)) (.ah k136_5 .skip))))) (.seq (.seq (.ops [of d34 0 r1,
 ol d35 r34,
 o d36 (.bin .ne r35 a1),
 m d37 r36,
 .g .h2 .h5 false d38 (.op (.cG 3 r1)),
 .g .h2 .h5 false d39 (.op (.bZ r38)),
 .g .h2 .h5 false d40 (.op (.len r39)),
 .g .h2 .h5 false d41 (.op (.bin .eq r40 a0)),
 o d42 (.pick r37 (.c (.bool true)) r41),
 m d43 r42,
 .g .h2 .hb false d44 (.op (.cG 3 r1)),
 .g .h2 .hb false d45 (.op (.bZ r44)),
 .g .h2 .hb false d46 (.op (.cn 5 r45 a0)),
 .g .h2 .hb false d47 (.op (.cG 0 r46)),
 .g .h2 .hb false d48 (.op (.bZ r47)),
 .g .h2 .hb false d49 (.op (.bin .ne r48 a2)),
 o d50 (.pick r43 (.c (.bool true)) r49),
 m d51 r50,
 .g .h3 .h3 false d52 (.op (.cG 3 r1)),
 .g .h3 .h3 false d53 (.op (.bZ r52)),
 .g .h3 .h3 false d54 (.op (.cn 5 r53 a0)),
 .g .h3 .h3 false d55 (.op (.cG 1 r54)),
 .g .h3 .h3 false d56 (.op (.bZ r55)),
 .g .h3 .h3 false d57 (.call 231 [r56]),
 .g .h3 .h3 false d58 (.op (.bin .eq r57 a0)),
 o d59 (.pick r51 (.c (.bool true)) r58)]) (.cond r59 (.seq (.iB [q 0 (o d60 (.build [i0,iS,i0,.ai] [])),
 w (o .no (.uK 4 r2 r60)),
 qf 1 d61 4 r1,
 ql 1 d62 r61,
 q 0 (m d3 (.c (pi 12))),
 q 0 (m d4 r62)]) .ret) .skip)) (.seq (.seq (.iB [qf 0 d67 3 r1,
 ql 0 d68 r67,
 q 0 (o d69 (.cn 5 r68 a0)),
 qf 0 d70 1 r69,
 ql 0 d71 r70,
 w (oc d72 231 [r71]),
 qf 1 d63 3 r1,
 ql 1 d64 r63,
 q 1 (o d65 (.len r64)),
 q 1 (o d66 (.bin .sub r65 a1)),
 q 0 (o d73 (.bin .ne r66 r72))]) (.cond r73 (.seq (.iB [q 0 (o d74 (.build [i0,iS,i0,.ai] [])),
 w (o .no (.uK 4 r2 r74)),
 qf 1 d75 4 r1,
 ql 1 d76 r75,
 q 0 (m d3 (.c (pi 23))),
 q 0 (m d4 r76)]) .ret) .skip)) (.ah k136_6 (.seq (.ah k136_7 (.block 1 (.loop (.ah k136_8 (.ah k136_9 (.ah k136_10 .skip)))))) (.ah k136_11 .skip)))))))
def f136:AF:=.mk x136 [.agg 4 .h0 .h2,.t .h0 .h3,.t .h0 .h4]
def k137_4:KF:=K3 y0 y5 y6 fun c i x h a b d=>
 D d i1 h fun e h=>
 .nm (T275 a b e) h
def k137_3:KF:=K3 y0 y5 y6 fun c i x h a b d=>
 X 5 a d h fun e h=>
 M 5 e h fun f h=>
 C c 135 [f] h fun g h=>
 E 0 g h fun j h=>
 E 1 g h fun k h=>
 E 2 g h fun l h=>
 tR (cP k i0 h) fun m h=>
 I m (.ret (T48 .ai k l) h) (tR (bs 9 1 1 [iS] [.mk 0 1 (.c j)] h) fun n h=>
 tR (cX 9 1 b n h) fun o h=>
 x (T275 a o d) h)
def k137_2:KF:=K3 y0 y5 y6 fun c i x h a b d=>
 G a h fun e h=>
 Y d e h fun f h=>
 I f (x (T275 a b d) h) (.ex 0 (T88 b) h)
def k137_1:KF:=K2 y0 y5 fun c i x h a b=>
 x (T275 a b i0) h
def k137_5:KF:=K1 y5 fun c i x h a=>
 .ret (T48 a i0 i0) h
def k137_0:KF:=K1 y0 fun c i x h a=>
 x (T242 a .ai) h
def x137:AC:=(.ah k137_0 (.seq (.ah k137_1 (.block 0 (.loop (.ah k137_2 (.ah k137_3 (.ah k137_4 .skip)))))) (.ah k137_5 .skip)))
def f137:AF:=.mk x137 [.t .h0 .h2,.t .h0 .h3,.t .h0 .h4]
end
end Go.Am.Seat
