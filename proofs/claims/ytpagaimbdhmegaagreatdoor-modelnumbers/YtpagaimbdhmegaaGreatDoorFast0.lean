/- The program's code in a form that runs fast, written by program. Nothing is asked. -/
import Derived.Test.YtpagaimbdhmegaaGreatDoorCode0
set_option linter.all false
namespace Go.Am.Seat
set_option maxRecDepth 20000
noncomputable section
def T0 (a:AV):A2:=N0 (Y1 a)
def T1 (a:AV):A2:=N0 (Y2 u a)
def T2 (a b:AV):A2:=N0 (Y4 u u a b)
def T3 (a:AV):A2:=N0 (Y3 u u a)
def T4 (a b d:AV):A2:=N0 (Y5 u u a b d)
def T6 (a:AV):A2:=N0 (Y7 u u u u u u a)
def T7 (a b d e f:AV):A2:=N0 (Y7 a u u b d e f)
def T9 (a:AV):A2:=N0 (Y5 u u u u a)
def T13 (a b d:AV):A2:=N0 (Y7 a b u u u u d)
def T17:A2:=.nil
def T20 (a b:AV):A2:=N0 (Y2 a b)
def T21 (a b:AV):A2:=N0 (Y3 u a b)
def T22 (a b d e f:AV):A2:=N0 (Y6 u a b d e f)
def T24 (a b:AV):A2:=N0 (Y4 a u u b)
def T25 (a b d:AV):A2:=N0 (Y5 a u u b d)
def T26 (a b d e:AV):A2:=N0 (Y8 a b d u u u u e)
def T27 (a b:AV):A2:=N0 (Y8 u u u u u u a b)
def T28 (a:AV):A2:=N0 (Y8 u u u u u u u a)
def T31 (a:AV):A2:=N0 (Y9 u u u u u u u u a)
def T34 (a b d e:AV):A2:=N0 (Y6 a u u b d e)
def T44 (a b d:AV):A2:=N0 (Y8 a b u u u u u d)
def T46 (a b d:AV):A2:=N0 (Y6 a b u u u d)
def T47 (a:AV):A2:=N0 (Y4 u u u a)
def T48 (a b d e:AV):A2:=N0 (Y14 u a u u u u u u u u u b d e)
def T49 (a b:AV):A2:=N0 (Y6 u u u u a b)
def T50 (a b d e f:AV):A2:=N1 (.mk a b u u u u u u u u u u u u d e) (Y1 f)
def T51 (a b d:AV):A2:=N0 (Y3 a b d)
def T53 (a b:AV):A2:=N0 (Y7 a u u u u u b)
def T54 (a b:AV):A2:=N0 (Y6 a u u u u b)
def T57 (a b d:AV):A2:=N0 (Y6 a u u u b d)
def T60 (a b d e:AV):A2:=N0 (Y9 a b d u u u u u e)
def T61 (a b d:AV):A2:=N0 (Y10 a u u u u u u u b d)
def T62 (a b d e:AV):A2:=N0 (Y9 a b u u u u u d e)
def T75 (a b d e:AV):A2:=N0 (Y12 u u u a u u u u u b d e)
def T77 (a b d e:AV):A2:=N0 (Y9 u u u a u u b d e)
def T78 (a b d e:AV):A2:=N0 (Y8 a u u u u b d e)
def T79 (a b d e f g:AV):A2:=N0 (Y8 a u u b d e f g)
def T80 (a b d e:AV):A2:=N1 (.mk a u u u u u u u u u u u u u u b) (Y2 d e)
def T81 (a b d e f g:AV):A2:=N1 (.mk a u u b d u u u u u u u u u u e) (Y2 f g)
def T82 (a b d e f:AV):A2:=N0 (Y9 a b d u u u u e f)
def T83 (a b d e f g:AV):A2:=N1 (Y9 a b d u u u u e f) (.mk u u u u u u u u u u u u u u u g)
def T85 (a:AV):A2:=N0 (Y6 u u u u u a)
def T89 (a b:AV):A2:=N0 (Y6 u u a u u b)
def T90 (a b d:AV):A2:=N0 (Y10 u u a u u u u u b d)
def T91 (a b d e:AV):A2:=N2 (Y10 u u a u u u u u b d) .nil (Y13 u u u u u u u u u u u u e)
def T92 (a b d e:AV):A2:=N0 (Y8 u u u u a b d e)
def T100 (a b d e:AV):A2:=N0 (Y9 u u a u u u b d e)
def T101 (a b d:AV):A2:=N0 (Y7 u u u u a b d)
def T102 (a b d e:AV):A2:=N0 (Y6 u a u b d e)
def T103 (a:AV):A2:=N0 (Y10 u u u u u u u u u a)
def T114 (a b d:AV):A2:=N0 (Y12 u u u u u u u u u a b d)
def T115 (a b d e:AV):A2:=N0 (Y12 u u u u a u u u u b d e)
def T116 (a b d e f:AV):A2:=N0 (Y9 u u u a u b d e f)
def T117 (a b d e:AV):A2:=N0 (Y7 u a b u d u e)
def T118 (a b d e f g j:AV):A2:=N1 (.mk u a b u d u e u u u u u u u f g) (Y1 j)
def T119 (a b d:AV):A2:=N0 (Y13 u u u u a u u u u u u b d)
def T120 (a b d:AV):A2:=N1 (Y1 a) (Y2 b d)
def T121 (a b d e:AV):A2:=N1 (Y4 a u u b) (Y2 d e)
def T128 (a b:AV):A2:=N0 (Y3 a u b)
def T129 (a b d e:AV):A2:=N0 (Y7 a u b u u d e)
def T130 (a b d:AV):A2:=N0 (Y6 a u b u u d)
def T131 (a b:AV):A2:=N0 (Y7 u u a u u u b)
def T132 (a b d e f g j:AV):A2:=N1 (Y8 a u u b d e f g) (Y6 u u u u u j)
def T133 (a b d e f g j k:AV):A2:=N1 (Y8 a u u b d e f g) (Y12 u u u u u j u u u u u k)
def T134 (a b d e f g j k:AV):A2:=N2 (Y8 a u u b d e f g) (Y6 u u u u u j) (Y6 u u u u u k)
def T135 (a b d e f g j k:AV):A2:=N2 (Y8 a u u b d e f g) (Y6 u u u u u j) (.mk u u u u u u u u u u u u u u u k)
def T136 (a b d e f g j k l:AV):A2:=N3 (Y8 a u u b d e f g) .nil .nil (Y8 u u u u u j k l)
def T137 (a b d e f g j k l m:AV):A2:=N3 (Y10 a u u b d e f g u j) .nil .nil (Y8 u u u u u k l m)
def T138 (a b d e f g j k:AV):A2:=N5 (Y8 a u u b d e f g) (Y6 u u u u u j) .nil .nil .nil (Y3 u u k)
def T139 (a b d e f g j k:AV):A2:=N6 (Y8 a u u b d e f g) (Y6 u u u u u j) .nil .nil .nil .nil (Y5 u u u u k)
def T140 (a b d e f g j k:AV):A2:=N6 (Y8 a u u b d e f g) (Y6 u u u u u j) .nil .nil .nil .nil (Y7 u u u u u u k)
def T141 (a b d e f g j:AV):A2:=N6 (Y8 a u u b d e f g) .nil .nil .nil .nil .nil (Y9 u u u u u u u u j)
def T142 (a b d e f g j k l:AV):A2:=N7 (Y8 a u u b d e f g) .nil .nil .nil .nil .nil .nil (Y9 u u u u u u j k l)
def T143 (a b d e f g j k l m:AV):A2:=N7 (Y12 a u u b d e f g u u u j) .nil .nil .nil .nil .nil .nil (Y9 u u u u u u k l m)
def T144 (a b d e f g:AV):A2:=N8 (Y6 a u u u b d) .nil .nil .nil .nil .nil .nil .nil (Y13 u u u u u u u u u u e f g)
def T145 (a b d e f g j:AV):A2:=N8 (Y14 a u u u b d u u u u u u u e) .nil .nil .nil .nil .nil .nil .nil (Y13 u u u u u u u u u u f g j)
def T146 (a b:AV):A2:=N0 (Y8 u a u u u u u b)
def T147 (a b d:AV):A2:=N0 (Y9 u a u u u u u b d)
def T148 (a b:AV):A2:=N0 (Y4 u a u b)
def T149 (a b d e:AV):A2:=N0 (Y14 u u u a u u u u u u u b d e)
def T150 (a b d:AV):A2:=N0 (Y4 u a b d)
def T151 (a b d:AV):A2:=N0 (Y5 u a b u d)
def T152 (a b d e:AV):A2:=N2 (Y5 u a b u d) .nil (Y2 u e)
def T153 (a b d e f:AV):A2:=N2 (Y5 u a b u d) .nil (Y3 u e f)
def T154 (a b d e f:AV):A2:=N2 (Y5 u a b u d) .nil (Y13 u e u u u u u u u u u u f)
def T155 (a b d e f g:AV):A2:=N3 (Y5 u a b u d) .nil (.mk u u u u u u u u u u u u u u u e) (Y2 f g)
def T156 (a b d e f g j:AV):A2:=N3 (Y7 u a b u d u e) .nil (.mk u u u u u u u u u u u u u u u f) (Y2 g j)
def T157 (a b d e f:AV):A2:=N3 (Y5 u a b u d) .nil (Y2 u e) (Y14 u u u u u u u u u u u u u f)
def T158 (a b d e f g:AV):A2:=N4 (Y5 u a b u d) .nil .nil .nil (Y3 e f g)
def T159 (a b d e f g j k l:AV):A2:=N4 (Y9 u a b u d u u e f) .nil .nil .nil (Y12 g j k u u u u u u u u l)
def T160 (a b d e f:AV):A2:=N5 (Y5 u a b u d) .nil (Y2 u e) .nil .nil (Y13 u u u u u u u u u u u u f)
def T161 (a b d e:AV):A2:=N6 (Y5 u a b u d) .nil .nil .nil .nil .nil (Y10 u u u u u u u u u e)
def T162 (a b d e f g:AV):A2:=N7 (Y5 u a b u d) .nil .nil .nil .nil .nil .nil (Y7 u u u u e f g)
def T163 (a b d e f g j:AV):A2:=N7 (Y12 u a b u d u u u u u u e) .nil .nil .nil .nil .nil .nil (Y7 u u u u f g j)
def T164 (a b d e f:AV):A2:=N9 (Y5 u u a u b) .nil .nil .nil .nil .nil .nil .nil .nil (Y3 d e f)
def T165 (a b:AV):A2:=N0 (Y5 u u a u b)
def T166 (a b d e f g:AV):A2:=N9 (Y14 u u a u b u u u u u u u u d) .nil .nil .nil .nil .nil .nil .nil .nil (Y3 e f g)
def T170 (a b d:AV):A2:=N0 (Y5 u a u b d)
def T172 (a b d e f:AV):A2:=N0 (Y8 a u b u u d e f)
def T173 (a b d e f g:AV):A2:=N0 (Y9 a u b u u d e f g)
def T174 (a b d e f g j:AV):A2:=N2 (Y9 a u b u u d e f g) .nil (Y7 u u u u u u j)
def T175 (a b d e f:AV):A2:=N0 (Y9 a u b u u d e u f)
def T176 (a b d e f g:AV):A2:=N0 (Y11 a u b u u d u u e f g)
def T177 (a b d:AV):A2:=N1 (Y3 u a b) (Y5 u u u u d)
def T178 (a b d e f g j:AV):A2:=N0 (Y10 u a b u u d e f g j)
def T179 (a b d e f g j:AV):A2:=N1 (Y10 u u a u u b d e f g) (Y13 u u u u u u u u u u u u j)
def T180 (a b d e f g j k:AV):A2:=N1 (Y10 u u a u u b d e f g) (Y14 u u u u u u u u u u u u j k)
def T181 (a b d e f:AV):A2:=N0 (Y10 u u a u u b u d e f)
def T182 (a b d e f g j k:AV):A2:=N2 (Y10 u u a u u b d e f g) (Y13 u u u u u u u u u u u u j) (Y10 u u u u u u u u u k)
def T183 (a b d e f g j k:AV):A2:=N3 (Y10 u u a u u b d e f g) (Y13 u u u u u u u u u u u u j) .nil (Y10 u u u u u u u u u k)
def T184 (a b d e f:AV):A2:=N0 (Y9 u u a u u b d e f)
def T185 (a b d e f g:AV):A2:=N0 (Y12 u u a u u b d e f u u g)
def T186 (a b d e:AV):A2:=N0 (Y12 u u a u u b d u u u u e)
def T187 (a b d e f g j k:AV):A2:=N7 (Y10 u u a u u b d e f g) (Y13 u u u u u u u u u u u u j) .nil .nil .nil .nil .nil (Y3 u u k)
def T188 (a b d e f g j k:AV):A2:=N8 (Y10 u u a u u b d e f g) (Y13 u u u u u u u u u u u u j) .nil .nil .nil .nil .nil .nil (Y14 u u u u u u u u u u u u u k)
def T189 (a b d e f g j k:AV):A2:=N9 (Y10 u u a u u b d e f g) (Y13 u u u u u u u u u u u u j) .nil .nil .nil .nil .nil .nil .nil (Y3 u u k)
def T190 (a b d e f g j:AV):A2:=N9 (Y10 u u a u u b d e f g) .nil .nil .nil .nil .nil .nil .nil .nil (Y8 u u u u u u u j)
def T191 (a b d e f g:AV):A2:=N0 (Y15 u u a u u b d e f u u u u u g)
def T192 (a b d e:AV):A2:=N0 (Y15 u u a u u b d u u u u u u u e)
def T193 (a b d e f g:AV):A2:=N1 (Y10 u u a u u b u d e f) (Y1 g)
def T194 (a b d e:AV):A2:=N1 (Y10 u u a u u b u u u d) (Y1 e)
def T195 (a b d e:AV):A2:=N0 (Y9 u u a u u b u d e)
def T196 (a b:AV):A2:=N0 (Y10 u a u u u u u u u b)
def T197 (a b d:AV):A2:=N0 (Y11 u a u u u u u u u b d)
def T198 (a b d:AV):A2:=N1 (Y10 u a u u u u u u u b) (Y1 d)
def T199 (a b d:AV):A2:=N1 (Y10 u a u u u u u u u b) (.mk u u u u u u u u u u u u u u u d)
def T200 (a b d:AV):A2:=N4 (Y10 u a u u u u u u u b) .nil .nil .nil (Y2 u d)
def T201 (a b d:AV):A2:=N4 (Y10 u a u u u u u u u b) .nil .nil .nil (Y13 u u u u u u u u u u u u d)
def T202 (a b d:AV):A2:=N4 (Y10 u a u u u u u u u b) .nil .nil .nil (Y15 u u u u u u u u u u u u u u d)
def T203 (a b:AV):A2:=N5 (Y2 u a) .nil .nil .nil .nil (Y1 b)
def T204 (a b d:AV):A2:=N0 (Y6 u a u b u d)
def T205 (a b d:AV):A2:=N0 (Y8 u a u b u u u d)
def T206 (a b d:AV):A2:=N0 (Y8 u a b u u u u d)
def T207 (a b d e:AV):A2:=N0 (Y9 u a b u u u u d e)
def T208 (a b d e:AV):A2:=N2 (Y8 u a b u u u u d) .nil (Y12 u u u u u u u u u u u e)
def T209 (a b d e f:AV):A2:=N2 (Y8 u a b u u u u d) .nil (Y13 u u u u u u u u u u u e f)
def T210 (a b d:AV):A2:=N0 (Y13 u a b u u u u u u u u u d)
def T211 (a b d e:AV):A2:=N4 (Y8 u u a u u u u b) .nil (Y12 u u u u u u u u u u u d) .nil (Y6 u u u u u e)
def T212 (a b d e:AV):A2:=N5 (Y8 u u a u u u u b) .nil (Y12 u u u u u u u u u u u d) .nil .nil (Y11 u u u u u u u u u u e)
def T213 (a b d e:AV):A2:=N6 (Y8 u u a u u u u b) .nil (Y12 u u u u u u u u u u u d) .nil .nil .nil (Y5 u u u u e)
def T214 (a b d e:AV):A2:=N7 (Y8 u u a u u u u b) .nil (Y12 u u u u u u u u u u u d) .nil .nil .nil .nil (Y2 u e)
def T215 (a b d:AV):A2:=N0 (Y6 u u a b u d)
def T216 (a b d:AV):A2:=N0 (Y7 u u a b u u d)
def T217 (a b d e f:AV):A2:=N0 (Y12 u a b u u u u d u u e f)
def T218 (a b d e f g:AV):A2:=N0 (Y13 u a b u u u u d u u e f g)
def T219 (a b d e f g j:AV):A2:=N1 (Y12 u a b u u u u d u u e f) (Y2 g j)
def T220 (a b d e f g j k:AV):A2:=N4 (Y12 u a b u u u u d u u e f) (Y2 g j) .nil .nil (Y2 u k)
def T221 (a b d e f g j k l:AV):A2:=N4 (Y12 u a b u u u u d u u e f) (Y2 g j) .nil .nil (Y3 u k l)
def T222 (a b d e f g:AV):A2:=N1 (Y8 u a b u u u u d) (Y3 e f g)
def T223 (a b d:AV):A2:=N1 (Y8 u u u u u u u a) (Y2 b d)
def T224 (a b d e f g j k:AV):A2:=N5 (Y12 u u a u u u u b u u d e) (Y2 f g) .nil .nil (Y2 u j) (Y8 u u u u u u u k)
def T225 (a b d e f g j:AV):A2:=N1 (Y12 u u a u u u u b u u d e) (Y4 f g u j)
def T226 (a b d e f g:AV):A2:=N1 (Y12 u u a u u u u b u u d e) (Y4 f u u g)
def T227 (a b d e f g j k:AV):A2:=N8 (Y12 u u a u u u u b u u d e) (Y2 f g) .nil .nil (Y2 u j) .nil .nil .nil (Y8 u u u u u u u k)
def T228 (a b d e f g j k:AV):A2:=N9 (Y12 u u a u u u u b u u d e) (Y2 f g) .nil .nil (Y2 u j) .nil .nil .nil .nil (Y3 u u k)
def T229 (a b d e f:AV):A2:=N1 (Y11 u u u u u u u a u u b) (Y7 d e u u u u f)
def T230 (a b d e f g j k:AV):A2:=N10 (Y12 u u a u u u u b u u d e) (Y2 f g) .nil .nil (Y2 u j) .nil .nil .nil .nil .nil (Y8 u u u u u u u k)
def T231 (a b d e f g j:AV):A2:=N11 (Y12 u u a u u u u b u u d e) (Y2 f g) .nil .nil .nil .nil .nil .nil .nil .nil .nil (Y11 u u u u u u u u u u j)
def T232 (a b d e f:AV):A2:=N1 (Y8 u u u u u u u a) (Y11 u u u u u u u b d e f)
def T233 (a b:AV):A2:=N1 (Y8 u u u u u u u a) (Y8 u u u u u u u b)
def T234 (a b:AV):A2:=N0 (Y5 a u u u b)
def T235 (a b d:AV):A2:=N0 (Y7 u a u u u b d)
def T236 (a b d e:AV):A2:=N0 (Y9 a u u u u u b d e)
def T237 (a b d e:AV):A2:=N0 (Y15 a u u u u u u u u u u u b d e)
def T238 (a b d e f g:AV):A2:=N0 (Y15 a u u u u b d u u u u u e f g)
def T239 (a b d e:AV):A2:=N0 (Y7 u a b u u d e)
def T240 (a b d e f g j:AV):A2:=N1 (.mk u a b u u d e u u u u u u u u f) (Y2 g j)
def T241 (a b d e f:AV):A2:=N2 (Y7 u a b u u d e) .nil (Y6 u u u u u f)
def T242 (a b d e f g:AV):A2:=N2 (Y7 u a b u u d e) .nil (Y7 u u u u u f g)
def T243 (a b d e f:AV):A2:=N3 (Y7 u u a u u b d) .nil (Y6 u u u u u e) (Y8 u u u u u u u f)
def T244 (a b d e f:AV):A2:=N4 (Y7 u u a u u b d) .nil (Y6 u u u u u e) .nil (.mk u u u u u u u u u u u u u u u f)
def T245 (a b:AV):A2:=N0 (Y7 u u u u u a b)
def T246 (a b d e:AV):A2:=N0 (Y7 u a b d u u e)
def T247 (a b d e f:AV):A2:=N1 (Y7 u a b d u u e) (Y5 u u u u f)
def T248 (a b d e f g:AV):A2:=N1 (Y7 u a b d u u e) (Y6 u u u u f g)
def T249 (a b d e f:AV):A2:=N2 (Y7 u u a b u u d) (Y5 u u u u e) (Y6 u u u u u f)
def T250 (a b d e f:AV):A2:=N3 (Y7 u u a b u u d) (Y5 u u u u e) .nil (Y12 u u u u u u u u u u u f)
def T251 (a b d e f:AV):A2:=N0 (Y13 u u a b u u d u u u u e f)
def T252 (a b d e f:AV):A2:=N5 (Y7 u u a b u u d) (Y5 u u u u e) .nil .nil .nil (Y5 u u u u f)
def T253 (a b d e f:AV):A2:=N6 (Y7 u u a b u u d) (Y5 u u u u e) .nil .nil .nil .nil (Y10 u u u u u u u u u f)
def T254 (a b d e f:AV):A2:=N1 (.mk u u a b u u d u u u u u u u u e) (Y1 f)
def T255 (a b d e:AV):A2:=N8 (Y7 u u a b u u d) .nil .nil .nil .nil .nil .nil .nil (Y15 u u u u u u u u u u u u u u e)
def T256 (a b d e f:AV):A2:=N1 (Y7 u u a b u u d) (Y3 u e f)
def T257 (a b:AV):A2:=N0 (Y5 u a u u b)
def T258 (a b d:AV):A2:=N0 (Y6 u a u u b d)
def T259 (a b:AV):A2:=N0 (Y11 u a u u u u u u u u b)
def T260 (a b d e f g:AV):A2:=N0 (Y14 a b d u u u u u u u u e f g)
def T261 (a b d e f:AV):A2:=N0 (Y9 a b d e u u u u f)
def T262 (a b d e f g:AV):A2:=N0 (Y10 a b d e u u u u f g)
def T264 (a b d e f g j k:AV):A2:=N0 (Y13 a b u u d u u u e f g j k)
def T265 (a b d e f g j k l:AV):A2:=N0 (Y14 a b u u d u u u e f g j k l)
def T266 (a b d e f:AV):A2:=N0 (Y13 u u u u a u u u u b d e f)
def T267 (a b d e f g j k:AV):A2:=N2 (Y14 u a u u b u u u d e u f g j) .nil (.mk u u u u u u u u u u u u u u u k)
def T268 (a b d e f g j:AV):A2:=N0 (Y13 u a u u b u u u d e f g j)
def T269 (a b d e f g j:AV):A2:=N3 (Y13 u a u u b u u u d e u f g) .nil .nil (Y12 u u u u u u u u u u u j)
def T270 (a b d e:AV):A2:=N0 (Y12 a u u b d u u u u u u e)
def T271 (a b d:AV):A2:=N0 (Y9 u a u b u u u u d)
def T272 (a b d e:AV):A2:=N0 (Y10 u a u b u u u u d e)
def T273 (a b d e:AV):A2:=N1 (Y9 u a u b u u u u d) (Y6 u u u u u e)
def T274 (a b d e:AV):A2:=N1 (Y9 u a u b u u u u d) (Y10 u u u u u u u u u e)
def T275 (a b d e:AV):A2:=N2 (Y9 u a u b u u u u d) .nil (Y6 u u u u u e)
def T276 (a b d e:AV):A2:=N3 (Y9 u a u b u u u u d) .nil .nil (Y8 u u u u u u u e)
def T277 (a b d e:AV):A2:=N3 (Y9 u a u b u u u u d) .nil .nil (Y12 u u u u u u u u u u u e)
def T278 (a b d:AV):A2:=N3 (Y4 u a u b) .nil .nil (.mk u u u u u u u u u u u u u u u d)
def T279 (a b d e f:AV):A2:=N0 (Y11 a u u u u b u u d e f)
def T280 (a b d e:AV):A2:=N1 (Y6 a b u u u d) (Y7 u u u u u u e)
def T281 (a b d e:AV):A2:=N1 (Y6 a b u u u d) (Y14 u u u u u u u u u u u u u e)
def T282 (a b d e f g:AV):A2:=N2 (Y6 a b u u u d) .nil (Y10 u u u u u u u e f g)
def T283 (a b d e f g j:AV):A2:=N2 (Y8 a b u u u d u e) .nil (Y10 u u u u u u u f g j)
def T284 (a b d e f g j k:AV):A2:=N3 (Y8 a b u u u d u e) .nil (Y10 u u u u u u u f g j) (Y2 u k)
def T285 (a b d:AV):A2:=N0 (Y9 a b u u u u u u d)
def T286 (a b d e f:AV):A2:=N4 (Y9 u a u u u u u u b) .nil .nil (.mk u u u u u u u u u u u u u u u d) (Y2 e f)
def T287 (a b d e f:AV):A2:=N2 (Y4 u u a b) .nil (Y4 u d e f)
def T288 (a b d e f g:AV):A2:=N2 (Y6 u u a b u d) .nil (Y4 u e f g)
def T289 (a b d:AV):A2:=N0 (Y4 a u b d)
def T290 (a b d e f:AV):A2:=N0 (Y10 u u a b u u u d e f)
def T291 (a b d e f g:AV):A2:=N0 (Y10 u u a b u d u e f g)
def T298 (a b d e:AV):A2:=N0 (Y14 a u u u u u u u u u u b d e)
def T299 (a b d e f:AV):A2:=N0 (Y14 a u u u u b u u u u u d e f)
def T300 (a b d:AV):A2:=N0 (Y8 a u u u u u b d)
def T301 (a b d e f:AV):A2:=N0 (Y10 a u u u u u b d e f)
def T305 (a b d:AV):A2:=N0 (Y5 a b u u d)
def T306 (a b d e:AV):A2:=N2 (Y5 a b u u d) .nil (Y6 u u u u u e)
def T307 (a b d e:AV):A2:=N0 (Y13 a b u u d u u u u u u u e)
def T308 (a b d e:AV):A2:=N0 (Y15 u a u u b u u u u u u u u d e)
def T309 (a b d:AV):A2:=N0 (Y14 u u u a b u u u u u u u u d)
def T310 (a b d e:AV):A2:=N0 (Y15 u u u a b u u u u u u u u d e)
def T311 (a b d e:AV):A2:=N1 (Y14 u u u a b u u u u u u u u d) (Y10 u u u u u u u u u e)
def T312 (a b d e:AV):A2:=N1 (Y14 u u u a b u u u u u u u u d) (Y15 u u u u u u u u u u u u u u e)
def T313 (a b d e:AV):A2:=N2 (Y14 u u u a b u u u u u u u u d) .nil (Y3 u u e)
def T314 (a b:AV):A2:=N0 (Y5 u u u a b)
def T315 (a b d:AV):A2:=N0 (Y6 u u u a b d)
def T316 (a b d e:AV):A2:=N4 (Y14 u u u a b u u u u u u u u d) .nil .nil .nil (Y7 u u u u u u e)
def T317 (a b d:AV):A2:=N6 (Y5 u u u a b) .nil .nil .nil .nil .nil (Y7 u u u u u u d)
def T318 (a b d:AV):A2:=N0 (Y7 u u u a b u d)
def T319 (a b d e:AV):A2:=N0 (Y8 u u u a b u d e)
def T320 (a b d:AV):A2:=N0 (Y12 u a b u u u u u u u u d)
def T321 (a b d e:AV):A2:=N0 (Y13 u a b u u u u u u u u d e)
def T322 (a b d:AV):A2:=N1 (Y3 u a b) (Y2 u d)
def T323 (a b d:AV):A2:=N0 (Y6 u a b u u d)
def T324 (a b d:AV):A2:=N0 (Y7 a u u u u b d)
def T325 (a b d e:AV):A2:=N0 (Y9 a u b u u d u u e)
def T326 (a b:AV):A2:=N0 (Y7 u a u u u u b)
def T327 (a b d:AV):A2:=N0 (Y8 u a u u u u b d)
def T328 (a b d e:AV):A2:=N0 (Y5 u a b d e)
def T334 (a:AV):A2:=N0 (Y14 u u u u u u u u u u u u u a)
def T352 (a b d e f:AV):A2:=N0 (Y10 a b d u u u u u e f)
def T358 (a b d:AV):A2:=N0 (Y8 a u u u b u u d)
def T359 (a b:AV):A2:=N0 (Y9 a u u u u u u u b)
def T360 (a b d e:AV):A2:=N0 (Y11 a u u u u u u u b d e)
def T361 (a b:AV):A2:=N0 (Y15 u u u u u u u u a u u u u u b)
def T362 (a b d:AV):A2:=N0 (.mk u u u u u u u u a u u u u u b d)
def T363 (a:AV):A2:=N0 (Y15 u u u u u u u u u u u u u u a)
def T381 (a b d e f:AV):A2:=N1 (Y7 u a b u u d e) (Y4 u u u f)
def T382 (a b d e f g:AV):A2:=N1 (Y7 u a b u u d e) (Y8 u u u f u u u g)
def T383 (a b d e f g:AV):A2:=N1 (Y6 u a b u u d) (Y13 u u u u u u u u u u e f g)
def T384 (a b d e f g:AV):A2:=N3 (Y7 u a b u u d e) (Y4 u u u f) .nil (Y5 u u u u g)
def T385 (a b d e f:AV):A2:=N3 (Y6 u u a u u b) .nil .nil (Y15 u u u u u u u u u u u u d e f)
def T386 (a b d e f:AV):A2:=N4 (Y7 u a b u u d e) .nil .nil .nil (Y14 u u u u u u u u u u u u u f)
def T387 (a b d e f g j:AV):A2:=N5 (Y7 u a b u u d e) .nil .nil .nil .nil (Y3 f g j)
def T388 (a b d e f g:AV):A2:=N6 (Y7 u a u u u b d) .nil .nil .nil .nil .nil (Y4 u e f g)
def T398 (a b d e f:AV):A2:=N1 (.mk u a b u u u u u u u u u u u u d) (Y2 e f)
def T399 (a b d e:AV):A2:=N0 (Y14 a b u u u u u u u u u u d e)
def T400 (a b d:AV):A2:=N0 (Y8 a u b u u u u d)
def T401 (a b d e:AV):A2:=N0 (Y8 a b u u u u d e)
def T402 (a b d e:AV):A2:=N0 (Y10 u u u u u u a b d e)
def T403 (a b:AV):A2:=N0 (Y9 u u u u u u u a b)
def T404 (a b d:AV):A2:=N0 (Y7 u a b u u u d)
def T405 (a b d e:AV):A2:=N0 (Y8 u a b u u u d e)
def T406 (a b d e:AV):A2:=N1 (Y7 u a b u u u d) (Y4 u u u e)
def T407 (a b d:AV):A2:=N0 (Y12 a b u u u u u u u u u d)
def T408 (a b:AV):A2:=N0 (Y6 u a u u u b)
def T409 (a b d:AV):A2:=N1 (Y6 u a u u u b) (Y7 u u u u u u d)
def T410 (a b d:AV):A2:=N2 (Y6 u a u u u b) .nil (Y2 u d)
def T411 (a b:AV):A2:=N2 (Y2 u a) .nil (Y13 u u u u u u u u u u u u b)
def T412 (a b d e:AV):A2:=N0 (Y7 a b d u u u e)
def T416 (a b d:AV):A2:=N0 (Y9 u a b u u u u u d)
def T417 (a b d e:AV):A2:=N0 (Y10 u a b u u u u u d e)
def T418 (a b:AV):A2:=N0 (Y9 u u a u u u u u b)
def T419 (a b d e:AV):A2:=N0 (Y14 u u a u u u u u b u u u d e)
def T420 (a b d e:AV):A2:=N3 (Y14 u u u u u u u u a u u u b d) .nil .nil (Y15 u u u u u u u u u u u u u u e)
def T421 (a b d e f:AV):A2:=N4 (Y14 u u u u u u u u a u u u b d) .nil .nil (Y15 u u u u u u u u u u u u u u e) (Y14 u u u u u u u u u u u u u f)
def T422 (a b:AV):A2:=N0 (Y14 u u u u u u u u u u u u a b)
def T423 (a b d e f:AV):A2:=N5 (Y14 u u u u u u u u a u u u b d) .nil .nil (Y15 u u u u u u u u u u u u u u e) .nil (Y8 u u u u u u u f)
def T424 (a b d e f:AV):A2:=N6 (Y14 u u u u u u u u a u u u b d) .nil .nil (Y15 u u u u u u u u u u u u u u e) .nil .nil (Y4 u u u f)
def T425 (a b d e:AV):A2:=N6 (Y14 u u u u u u u u a u u u b d) .nil .nil .nil .nil .nil (Y10 u u u u u u u u u e)
def T426 (a b d e:AV):A2:=N0 (Y15 u u u u u u u u a u u u b d e)
def T437 (a b:AV):A2:=N0 (Y10 u u u u u u u u a b)
def T439 (a b d e:AV):A2:=N0 (Y9 u u u u u a b d e)
def T440 (a b d e f g:AV):A2:=N2 (Y9 u a b u u u u u d) .nil (Y8 u u u u u e f g)
def T444 (a b d e f:AV):A2:=N0 (Y12 a u u u u b u u u d e f)
def T448 (a b d e f:AV):A2:=N3 (Y6 u u a u u b) .nil .nil (Y9 u u u u u u d e f)
def T449 (a:AV):A2:=N1 .nil (Y4 u u u a)
def T450 (a b d e f g:AV):A2:=N0 (Y10 a b u u d u e u f g)
def T451 (a b d e f g j:AV):A2:=N0 (Y12 a b u u d u u u e f g j)
def T452 (a b d:AV):A2:=N0 (Y13 a u u u b u u u u u u u d)
def T453 (a b d e:AV):A2:=N6 (Y13 a u u u b u u u u u u u d) .nil .nil .nil .nil .nil (Y4 u u u e)
def T454 (a b d e:AV):A2:=N8 (Y13 a u u u b u u u u u u u d) .nil .nil .nil .nil .nil .nil .nil (Y12 u u u u u u u u u u u e)
def T455 (a b d e:AV):A2:=N1 (Y13 a u u u b u u u u u u u d) (Y1 e)
def T456 (a b d e f g:AV):A2:=N0 (Y9 a b d u u u e f g)
def T457 (a b d e f:AV):A2:=N0 (Y11 u a b d u u e u u u f)
def T458 (a b d e f g:AV):A2:=N3 (Y11 u a b d u u e u u u f) .nil .nil (Y9 u u u u u u u u g)
def T459 (a b d e f g:AV):A2:=N0 (Y13 u a b d u u e u u u f u g)
def T460 (a b d e:AV):A2:=N0 (Y13 u u u a u u b u u u d u e)
def T461 (a b d e f:AV):A2:=N6 (Y13 u u u a u u b u u u d u e) .nil .nil .nil .nil .nil (Y2 u f)
def T462 (a b d e f g:AV):A2:=N6 (Y13 u u u a u u b u u u d u e) .nil .nil .nil .nil .nil (Y3 u f g)
def T463 (a b d e f g:AV):A2:=N6 (Y13 u u u a u u b u u u d u e) .nil .nil .nil .nil .nil (.mk u f u u u u u u u u u u u u u g)
def T464 (a b d e f g:AV):A2:=N7 (Y13 u u u a u u b u u u d u e) .nil .nil .nil .nil .nil (Y2 u f) (Y6 u u u u u g)
def T465 (a b d e f g:AV):A2:=N8 (Y13 u u u a u u b u u u d u e) .nil .nil .nil .nil .nil (Y2 u f) .nil (Y1 g)
def T466 (a b d e f g:AV):A2:=N8 (Y13 u u u a u u b u u u d u e) .nil .nil .nil .nil .nil (Y2 u f) .nil (Y12 u u u u u u u u u u u g)
def T471 (a b d e f g:AV):A2:=N2 (Y11 u a b d u u e u u u f) .nil (.mk u u u u u u u u u u u u u u u g)
def T472 (a b d e f g:AV):A2:=N0 (Y14 u a b d u u e u u u f u u g)
def T473 (a b d e f g j k:AV):A2:=N5 (Y14 u a b d u u e u u u u u u f) .nil .nil .nil .nil (Y5 u u g j k)
def T474 (a b d:AV):A2:=N0 (Y14 u u u a u u b u u u u u u d)
def T483 (a b d e:AV):A2:=N0 (Y10 u u a u u u u b d e)
def T484 (a b d:AV):A2:=N0 (Y11 u u u u u u u u a b d)
def T493 (a b d e f g:AV):A2:=N0 (Y9 u a b d u u e f g)
def T494 (a b d e f g:AV):A2:=N1 (Y10 a b d u u u u u e f) (Y10 u u u u u u u u u g)
def T495 (a b d e f g:AV):A2:=N0 (Y11 a b d u u u u u e f g)
def T496 (a b d e f g j k:AV):A2:=N0 (Y14 a b u u u u u u d e f g j k)
def T497 (a b d e f g j k l m:AV):A2:=N6 (Y14 u a u u u u u u b d e f g j) .nil .nil .nil .nil .nil (Y6 u u u k l m)
def T498 (a b d:AV):A2:=N0 (Y14 u u u u u u u u u a u u b d)
def T499 (a b d e f g j k l m n:AV):A2:=N6 (.mk u a u u u u u u b d e f g j u k) .nil .nil .nil .nil .nil (Y6 u u u l m n)
def T500 (a b d e f g j k l m n o:AV):A2:=N6 (.mk u a u u u u u u b d e f g j u k) .nil .nil .nil .nil .nil (Y11 u u u l m n u u u u o)
def T501 (a b d e f g j k l m n:AV):A2:=N6 (Y14 u a u u u u u u b d e f g j) (Y1 k) .nil .nil .nil .nil (Y6 u u u l m n)
def T502 (a b d e f g j k l m n o:AV):A2:=N7 (.mk u a u u u u u u b d e f g j u k) .nil .nil .nil .nil .nil (Y6 u u u l m n) (Y1 o)
def T503 (a b d e f g j k l m n:AV):A2:=N6 (Y14 u a u u u u u u b d e f g j) (Y2 u k) .nil .nil .nil .nil (Y6 u u u l m n)
def T504 (a b d e f g j k l m:AV):A2:=N6 (Y13 u a u u u u u u b d e f g) (Y2 u j) .nil .nil .nil .nil (Y6 u u u k l m)
def T506 (a b d e f:AV):A2:=N0 (Y8 u a b d u u e f)
def f367:AF:=.ext .zS
def f413:AF:=.ext .Eh
def f414:AF:=.ext (.Jg 5)
def f448:AF:=.ext (.fn vD)
def x4:AC:=b4
def f4:AF:=.mk x4 [.t .h0 .h0]
def x5:AC:=b5
def f5:AF:=.mk x5 [.t .h0 .h0]
def x6:AC:=b6
def f6:AF:=.mk x6 [.t .h0 .h0]
def x7:AC:=b7
def f7:AF:=.mk x7 [.agg 7 .h0 .h6]
def x8:AC:=b8
def f8:AF:=.mk x8 [.agg 3 .h0 .h4]
def x9:AC:=b9
def f9:AF:=.mk x9 [.agg 3 .h0 .h4]
def x10:AC:=b10
def f10:AF:=.mk x10 [.t .h0 .h4]
def x11:AC:=b11
def f11:AF:=.mk x11 [.t .h0 .h4]
def x12:AC:=b12
def f12:AF:=.mk x12 [.t .h0 .h4]
def x13:AC:=b13
def f13:AF:=.mk x13 [.t .h0 .h0]
def x14:AC:=b14
def f14:AF:=.mk x14 [.t .h0 .h0]
def x15:AC:=b15
def f15:AF:=.mk x15 [.t .h0 .h0]
def k16_0:KF:=K2 y0 y1 fun c i x h a b=>
 O 62 3 (.k1 (Y3 iS .ah (.bool false))) h fun d h=>
 U [iS,.ah,(.bool false)] [.mk 0 1 (.c a),.mk 1 1 (.c b)] h fun e h=>
 S 3 d e h fun f h=>
 .ret (T9 d) h
def x16:AC:=(.ag k16_0 .skip)
def f16:AF:=.mk x16 [.agg 3 .h0 .h4]
def k17_2:KF:=K3 y0 y3 y4 fun c i x h a b d=>
 G a h fun e h=>
 Y d e h fun f h=>
 I f (X 1 a d h fun g h=>
 L g h fun j h=>
 C c 47 [j] h fun k h=>
 tR (bs 100 3 1 [i0,i0,iS] [.mk 0 3 (.c k)] h) fun l h=>
 tR (cW 100 3 b l h) fun m h=>
 D d i1 h fun n h=>
 .nm (T25 a m n) h) (.ex 0 (T25 a b d) h)
def k17_1:KF:=K2 y0 y3 fun c i x h a b=>
 x (T25 a b i0) h
def k17_3:KF:=K1 y3 fun c i x h a=>
 .ret (T3 a) h
def k17_0:KF:=K1 y0 fun c i x h a=>
 x (T24 a .ah) h
def x17:AC:=(.ag k17_0 (.seq (.ag k17_1 (.block 0 (.loop (.ag k17_2 .skip)))) (.ag k17_3 .skip)))
def f17:AF:=.mk x17 [.t .h0 .h2]
def x18:AC:=b18
def f18:AF:=.mk x18 [.agg 7 .h0 .h4]
def x19:AC:=b19
def f19:AF:=.mk x19 [.t .h0 .h0]
def x20:AC:=b20
def f20:AF:=.mk x20 [.t .h0 .h0]
def x21:AC:=b21
def f21:AF:=.mk x21 [.agg 7 .h0 .h2]
def x22:AC:=b22
def f22:AF:=.mk x22 [.agg 7 .h0 .h4]
def x23:AC:=b23
def f23:AF:=.mk x23 [.agg 3 .h0 .h4]
def k24_1:KF:=K5 y0 y1 y2 y7 y8 fun c i x h a b d e f=>
 I f (U [i0,i0,iS] [] h fun g h=>
 S 3 e g h fun j h=>
 .ret (T27 i0 e) h) (J a h fun g h=>
 A 0 g h fun j h=>
 tR (AD 16 4 j b h) fun k h=>
 A 0 k h fun l h=>
 L l h fun m h=>
 tR (fH d m h) fun n h=>
 I n (U [i0,i0,iS] [] h fun o h=>
 S 3 e o h fun p h=>
 .ret (T27 i1 e) h) (J a h fun o h=>
 A 0 o h fun p h=>
 tR (AD 16 4 p b h) fun q h=>
 A 0 q h fun s h=>
 L s h fun t h=>
 Q d t h fun v h=>
 I v (tQ (nC a h) fun w=>
 tQ (fA 0 w h) fun y=>
 tQ (AD 16 4 y b h) fun z=>
 tQ (fA 1 z h) fun a0=>
 tQ (cV 3 a0 h) fun a1=>
 tX (RV.gh (gS 3 e a1 h)) fun a2 h=>
 .ret (T27 (pi 2) e) h) (.nm (T28 e) h)))
def k24_2:KF:=K1 y7 fun c i x h a=>
 U [i0,i0,iS] [] h fun b h=>
 S 3 a b h fun d h=>
 .ret (T27 (pi 3) a) h
def k24_0:KF:=K3 y0 y1 y2 fun c i x h a b d=>
 O 35 3 (.k1 (Y3 i0 i0 iS)) h fun e h=>
 x (T26 a b d e) h
def x24:AC:=(.ag k24_0 (.seq (.block 0 (.seq (.ops [m d9 r1,
 o d10 (.bin .lt r9 a0),
 m d11 r10,
 .g .h0 .hb false d12 (.op (.mv r1)),
 .g .h0 .hb false d13 (.op (.bin .ge r12 (.c (pi 16)))),
 o d14 (.pick r11 (.c (.bool true)) r13),
 m d15 r14,
 .g .h0 .hf false d16 (.op (.mv r2)),
 .g .h0 .hf false d17 (.op (.bin .lt r16 a1)),
 o d18 (.pick r15 (.c (.bool true)) r17),
 m d19 r18,
 .g .h1 .h3 false d20 (.op (.mv r2)),
 .g .h1 .h3 false d21 (.op (.bin .gt r20 (.c (pi 1073741824)))),
 o d22 (.pick r19 (.c (.bool true)) r21),
 m d8 r22]) (.ag k24_1 .skip))) (.ag k24_2 .skip)))
def f24:AF:=.mk x24 [.t .h0 .h6,.agg 3 .h0 .h7]
def x25:AC:=b25
def f25:AF:=.mk x25 [.agg 3 .h0 .h4]
def x26:AC:=b26
def f26:AF:=.mk x26 [.t .h0 .h8]
def k27_1:KF:=K5 y0 y1 y2 y7 y8 fun c i x h a b d e f=>
 I f (U [i0,i0,iS] [] h fun g h=>
 S 3 e g h fun j h=>
 .ret (T27 i0 e) h) (J a h fun g h=>
 A 0 g h fun j h=>
 tR (AD 16 1 j b h) fun k h=>
 L k h fun l h=>
 tR (fH d l h) fun m h=>
 I m (U [i0,i0,iS] [] h fun n h=>
 S 3 e n h fun o h=>
 .ret (T27 i1 e) h) (J a h fun n h=>
 A 0 n h fun o h=>
 tR (AD 16 1 o b h) fun p h=>
 L p h fun q h=>
 Q d q h fun s h=>
 I s (tQ (nC a h) fun t=>
 tQ (fA 16 t h) fun v=>
 tQ (AD 16 3 v b h) fun w=>
 tQ (cV 3 w h) fun y=>
 tX (RV.gh (gS 3 e y h)) fun z h=>
 .ret (T27 (pi 2) e) h) (.nm (T28 e) h)))
def k27_2:KF:=K1 y7 fun c i x h a=>
 U [i0,i0,iS] [] h fun b h=>
 S 3 a b h fun d h=>
 .ret (T27 (pi 3) a) h
def k27_0:KF:=K3 y0 y1 y2 fun c i x h a b d=>
 O 35 3 (.k1 (Y3 i0 i0 iS)) h fun e h=>
 x (T26 a b d e) h
def x27:AC:=(.ag k27_0 (.seq (.block 0 (.seq (.ops [m d9 r1,
 o d10 (.bin .lt r9 a0),
 m d11 r10,
 .g .h0 .hb false d12 (.op (.mv r1)),
 .g .h0 .hb false d13 (.op (.bin .ge r12 (.c (pi 16)))),
 o d14 (.pick r11 (.c (.bool true)) r13),
 m d15 r14,
 .g .h0 .hf false d16 (.op (.mv r2)),
 .g .h0 .hf false d17 (.op (.bin .lt r16 a1)),
 o d18 (.pick r15 (.c (.bool true)) r17),
 m d19 r18,
 .g .h1 .h3 false d20 (.op (.mv r2)),
 .g .h1 .h3 false d21 (.op (.bin .gt r20 (.c (pi 1073741824)))),
 o d22 (.pick r19 (.c (.bool true)) r21),
 m d8 r22]) (.ag k27_1 .skip))) (.ag k27_2 .skip)))
def f27:AF:=.mk x27 [.t .h0 .h6,.agg 3 .h0 .h7]
def x28:AC:=b28
def f28:AF:=.mk x28 [.agg 3 .h0 .h4]
def x29:AC:=b29
def f29:AF:=.mk x29 [.t .h0 .h8]
def x30:AC:=b30
def f30:AF:=.mk x30 [.t .h0 .h2]
def x31:AC:=b31
def f31:AF:=.mk x31 [.t .h0 .h2]
def k32_2:KF:=K3 y0 y1 y5 fun c i x h a b d=>
 G a h fun e h=>
 Y d e h fun f h=>
 I f (tQ (iX 1 a d h) fun g=>
 tQ (lD g h) fun j=>
 tQ (iX 1 b d h) fun k=>
 tQ (lD k h) fun l=>
 tQ (pG j l h) fun m=>
 I m (.ret (T9 (.bool false)) h) (D d i1 h fun n h=>
 .nm (T46 a b n) h)) (.ex 0 (T46 a b d) h)
def k32_1:KF:=K2 y0 y1 fun c i x h a b=>
 x (T46 a b i0) h
def k32_3:KF:=fun c i x r h=>
 .ret (T9 (.bool true)) h
def k32_0:KF:=K2 y0 y1 fun c i x h a b=>
 G a h fun d h=>
 G b h fun e h=>
 tR (bU d e h) fun f h=>
 I f (.ret (T9 (.bool false)) h) (x (T20 a b) h)
def x32:AC:=(.ag k32_0 (.seq (.ag k32_1 (.block 0 (.loop (.ag k32_2 .skip)))) (.ag k32_3 .skip)))
def f32:AF:=.mk x32 [.t .h0 .h4]
def x33:AC:=b33
def f33:AF:=.mk x33 [.t .h0 .h2]
def x34:AC:=b34
def f34:AF:=.mk x34 [.t .h0 .h2]
def k35_2:KF:=K4 y1 y11 y12 y13 fun c i x h a b d e=>
 Y e d h fun f h=>
 I f (X 3 b e h fun g h=>
 M 3 g h fun j h=>
 O 86 3 (.k1 (Y3 iS .ah .ah)) h fun k h=>
 S 3 k j h fun l h=>
 A 0 k h fun m h=>
 L m h fun n h=>
 tR (aC n a h) fun o h=>
 I o (A 2 k h fun p h=>
 L p h fun q h=>
 C c 65 [q] h fun s h=>
 .ret (T49 s (.bool true)) h) (D e i1 h fun p h=>
 .nm (T48 a b d p) h)) (.ex 0 (T48 a b d e) h)
def k35_1:KF:=K2 y0 y1 fun c i x h a b=>
 J a h fun d h=>
 A 1 d h fun e h=>
 L e h fun f h=>
 G f h fun g h=>
 x (T48 b f g i0) h
def k35_3:KF:=fun c i x r h=>
 .ret (T49 .ah (.bool false)) h
def k35_0:KF:=K2 y0 y1 fun c i x h a b=>
 x (T20 a b) h
def x35:AC:=(.ag k35_0 (.seq (.ag k35_1 (.block 0 (.loop (.ag k35_2 .skip)))) (.ag k35_3 .skip)))
def f35:AF:=.mk x35 [.t .h0 .h4,.t .h0 .h5]
def x36:AC:=b36
def f36:AF:=.mk x36 [.t .h0 .h4,.t .h0 .h5]
def k37_4:KF:=K5 y0 y1 y14 y15 y16 fun c i x h a b d e f=>
 D f i1 h fun g h=>
 .nm (T50 a b d e g) h
def k37_3:KF:=K5 y0 y1 y14 y15 y16 fun c i x h a b d e f=>
 X 11 d f h fun g h=>
 M 11 g h fun j h=>
 O 133 11 (.k1 (Y11 iS iS i0 iS .ah .ah .ah .ah .ah .ah .ah)) h fun k h=>
 S 11 k j h fun l h=>
 A 0 k h fun m h=>
 L m h fun n h=>
 tR (aC n b h) fun o h=>
 I o (tQ (fA 2 k h) fun p=>
 tQ (cV 8 p h) fun q=>
 tQ (nC a h) fun s=>
 tQ (fA 1 s h) fun t=>
 tQ (lD t h) fun v=>
 tX (c 66 [q,v] h) fun w h=>
 tQ (ext 0 w h) fun y=>
 tQ (ext 1 w h) fun z=>
 .ret (T49 y (.bool true)) h) (x (T50 a b d e f) h)
def k37_2:KF:=K5 y0 y1 y14 y15 y16 fun c i x h a b d e f=>
 Y f e h fun g h=>
 I g (x (T50 a b d e f) h) (.ex 0 T17 h)
def k37_1:KF:=K2 y0 y1 fun c i x h a b=>
 J a h fun d h=>
 A 0 d h fun e h=>
 L e h fun f h=>
 C c 64 [f] h fun g h=>
 G g h fun j h=>
 x (T50 a b g j i0) h
def k37_5:KF:=fun c i x r h=>
 .ret (T49 .ah (.bool false)) h
def k37_0:KF:=K2 y0 y1 fun c i x h a b=>
 x (T20 a b) h
def x37:AC:=(.ag k37_0 (.seq (.ag k37_1 (.block 0 (.loop (.ag k37_2 (.ag k37_3 (.ag k37_4 .skip)))))) (.ag k37_5 .skip)))
def f37:AF:=.mk x37 [.t .h0 .h4,.t .h0 .h5]
def k38_3:KF:=K4 y0 y1 y5 y41 fun c i x h a b d e=>
 I e (.ret (T9 (.bool false)) h) (.nm (T46 a b d) h)
def k38_4:KF:=K3 y0 y1 y5 fun c i x h a b d=>
 D d i1 h fun e h=>
 .nm (T46 a b e) h
def k38_2:KF:=K3 y0 y1 y5 fun c i x h a b d=>
 G a h fun e h=>
 Y d e h fun f h=>
 I f (x (T46 a b d) h) (.ex 0 T17 h)
def k38_1:KF:=K2 y0 y1 fun c i x h a b=>
 x (T46 a b i0) h
def k38_5:KF:=fun c i x r h=>
 .ret (T9 (.bool true)) h
def k38_0:KF:=K2 y0 y1 fun c i x h a b=>
 G a h fun d h=>
 G b h fun e h=>
 tR (bU d e h) fun f h=>
 I f (.ret (T9 (.bool false)) h) (x (T20 a b) h)
def x38:AC:=(.ag k38_0 (.seq (.ag k38_1 (.block 0 (.loop (.ag k38_2 (.seq (.block 1 (.seq (.da [q 0 (m d17 r0),
 q 0 (m d18 r5),
 q 0 (o d19 (.bF 2 r17 r18)),
 qf 0 d20 0 r19,
 ql 0 d21 r20,
 q 0 (m d22 r1),
 q 0 (m d23 r5),
 q 0 (o d24 (.bF 2 r22 r23)),
 qf 0 d25 0 r24,
 ql 0 d26 r25,
 w (oc d27 67 [r21,r26]),
 q 0 (o d28 (.un .not r27)),
 q 0 (m d29 r28),
 q 0 (.g .h1 .hd false d30 (.op (.mv r0))),
 q 0 (.g .h1 .hd false d31 (.op (.mv r5))),
 q 0 (.g .h1 .hd false d32 (.op (.bF 2 r30 r31))),
 q 0 (.g .h1 .hd false d33 (.op (.br 1 r32))),
 q 0 (.g .h1 .hd false d34 (.op (.bq r33))),
 q 0 (.g .h1 .hd false d35 (.op (.mv r1))),
 q 0 (.g .h1 .hd false d36 (.op (.mv r5))),
 q 0 (.g .h1 .hd false d37 (.op (.bF 2 r35 r36))),
 q 0 (.g .h1 .hd false d38 (.op (.br 1 r37))),
 q 0 (.g .h1 .hd false d39 (.op (.bq r38))),
 q 0 (.g .h1 .hd false d40 (.op (.bin (.NM .neq) r34 r39))),
 q 0 (o d41 (.pick r29 (.c (.bool true)) r40))]) (.ag k38_3 .skip))) (.ag k38_4 .skip)))))) (.ag k38_5 .skip)))
def f38:AF:=.mk x38 [.t .h0 .h4]
def x39:AC:=b39
def f39:AF:=.mk x39 [.t .h0 .h4,.t .h0 .h5]
def x45:AC:=b45
def f45:AF:=.mk x45 [.t .h0 .h4]
def x46:AC:=b46
def f46:AF:=.mk x46 [.t .h0 .h4]
def k47_0:KF:=K1 y0 fun c i x h a=>
 O 100 3 (.k1 (Y3 i0 i0 iS)) h fun b h=>
 U [i0,i0,iS] [.mk 0 1 (.c i1),.mk 1 1 (.c a)] h fun d h=>
 S 3 b d h fun e h=>
 .ret (T3 b) h
def x47:AC:=(.ag k47_0 .skip)
def f47:AF:=.mk x47 [.agg 3 .h0 .h2]
def x48:AC:=b48
def f48:AF:=.mk x48 [.t .h0 .h6]
def x49:AC:=b49
def f49:AF:=.mk x49 []
def x50:AC:=b50
def f50:AF:=.mk x50 [.t .h0 .h4,.t .h0 .h5]
def x51:AC:=b51
def f51:AF:=.mk x51 [.t .h0 .h4]
def x52:AC:=b52
def f52:AF:=.mk x52 [.t .h0 .h3]
def x53:AC:=b53
def f53:AF:=.mk x53 [.agg 3 .h0 .h4]
def x54:AC:=b54
def f54:AF:=.mk x54 [.t .h0 .h4]
def x55:AC:=b55
def f55:AF:=.mk x55 [.agg 3 .h0 .h4]
def x56:AC:=b56
def f56:AF:=.mk x56 [.t .h0 .h6]
def x57:AC:=b57
def f57:AF:=.mk x57 [.agg 3 .h0 .h6]
def x58:AC:=b58
def f58:AF:=.mk x58 [.t .h0 .h4,.t .h0 .h5]
def x59:AC:=b59
def f59:AF:=.mk x59 [.t .h0 .h6,.t .h0 .h7,.t .h0 .h8]
def k60_4:KF:=K3 y0 y1 y6 fun c i x h a b d=>
 D d i1 h fun e h=>
 .nm (T13 a b e) h
def k60_3:KF:=K3 y0 y1 y6 fun c i x h a b d=>
 J a h fun e h=>
 A 0 e h fun f h=>
 A 1 f h fun g h=>
 L g h fun j h=>
 X 11 j d h fun k h=>
 A 0 k h fun l h=>
 L l h fun m h=>
 tR (aC m b h) fun n h=>
 I n (tQ (nC a h) fun o=>
 tQ (fA 0 o h) fun p=>
 tQ (fA 1 p h) fun q=>
 tQ (lD q h) fun s=>
 tQ (iX 11 s d h) fun t=>
 tQ (fA 2 t h) fun v=>
 tQ (cV 8 v h) fun w=>
 tQ (nC a h) fun y=>
 tQ (fA 2 y h) fun z=>
 tQ (lD z h) fun a0=>
 tX (c 104 [w,a0] h) fun a1 h=>
 tQ (ext 0 a1 h) fun a2=>
 tQ (ext 1 a1 h) fun a3=>
 .ret (T49 a2 a3) h) (x (T13 a b d) h)
def k60_2:KF:=K3 y0 y1 y6 fun c i x h a b d=>
 J a h fun e h=>
 A 0 e h fun f h=>
 A 1 f h fun g h=>
 L g h fun j h=>
 G j h fun k h=>
 Y d k h fun l h=>
 I l (x (T13 a b d) h) (.ex 0 T17 h)
def k60_1:KF:=K2 y0 y1 fun c i x h a b=>
 x (T13 a b i0) h
def k60_5:KF:=fun c i x r h=>
 .ret (T49 .ah (pi 12)) h
def k60_0:KF:=K2 y0 y1 fun c i x h a b=>
 x (T20 a b) h
def x60:AC:=(.ag k60_0 (.seq (.ag k60_1 (.block 0 (.loop (.ag k60_2 (.ag k60_3 (.ag k60_4 .skip)))))) (.ag k60_5 .skip)))
def f60:AF:=.mk x60 [.t .h0 .h4,.t .h0 .h5]
def x61:AC:=b61
def f61:AF:=.mk x61 [.t .h0 .h4]
def x62:AC:=b62
def f62:AF:=.mk x62 [.agg 3 .h0 .h4]
def x63:AC:=b63
def f63:AF:=.mk x63 [.t .h0 .h2]
def k64_4:KF:=K4 y3 y9 y10 y11 fun c i x h a b d e=>
 D e i1 h fun f h=>
 .nm (T75 a b d f) h
def k64_3:KF:=K4 y3 y9 y10 y11 fun c i x h a b d e=>
 X 11 b e h fun f h=>
 M 11 f h fun g h=>
 O 133 11 (.k1 (Y11 iS iS i0 iS .ah .ah .ah .ah .ah .ah .ah)) h fun j h=>
 S 11 j g h fun k h=>
 A 1 j h fun l h=>
 L l h fun m h=>
 C c 91 [m] h fun n h=>
 E 0 n h fun o h=>
 E 1 n h fun p h=>
 E 2 n h fun q h=>
 A 2 j h fun s h=>
 S 8 s o h fun t h=>
 A 10 j h fun v h=>
 L v h fun w h=>
 C c 78 [w] h fun y h=>
 A 10 j h fun z h=>
 W z y h fun a0 h=>
 M 11 j h fun a1 h=>
 tR (bs 133 11 1 [iS,iS,i0,iS,.ah,.ah,.ah,.ah,.ah,.ah,.ah] [.mk 0 11 (.c a1)] h) fun a2 h=>
 tR (cW 133 11 a a2 h) fun a3 h=>
 x (T75 a3 b d e) h
def k64_2:KF:=K4 y3 y9 y10 y11 fun c i x h a b d e=>
 Y e d h fun f h=>
 I f (x (T75 a b d e) h) (.ex 0 (T47 a) h)
def k64_1:KF:=K2 y0 y3 fun c i x h a b=>
 J a h fun d h=>
 A 1 d h fun e h=>
 L e h fun f h=>
 G f h fun g h=>
 x (T75 b f g i0) h
def k64_5:KF:=K1 y3 fun c i x h a=>
 .ret (T3 a) h
def k64_0:KF:=K1 y0 fun c i x h a=>
 x (T24 a .ah) h
def x64:AC:=(.ag k64_0 (.seq (.ag k64_1 (.block 0 (.loop (.ag k64_2 (.ag k64_3 (.ag k64_4 .skip)))))) (.ag k64_5 .skip)))
def f64:AF:=.mk x64 [.t .h0 .h2]
def k65_2:KF:=K4 y3 y6 y7 y8 fun c i x h a b d e=>
 Y e d h fun f h=>
 I f (X 2 b e h fun g h=>
 M 2 g h fun j h=>
 O 142 2 (.k1 (Y2 .ah (.cG .f64 0 0))) h fun k h=>
 S 2 k j h fun l h=>
 A 0 k h fun m h=>
 L m h fun n h=>
 A 1 k h fun o h=>
 L o h fun p h=>
 C c 106 [n,p] h fun q h=>
 tR (bs 142 2 1 [.ah,(.cG .f64 0 0)] [.mk 0 2 (.c q)] h) fun s h=>
 tR (cW 142 2 a s h) fun t h=>
 D e i1 h fun v h=>
 .nm (T77 t b d v) h) (.ex 0 (T77 a b d e) h)
def k65_1:KF:=K2 y0 y3 fun c i x h a b=>
 G a h fun d h=>
 x (T77 b a d i0) h
def k65_3:KF:=K1 y3 fun c i x h a=>
 .ret (T3 a) h
def k65_0:KF:=K1 y0 fun c i x h a=>
 x (T24 a .ah) h
def x65:AC:=(.ag k65_0 (.seq (.ag k65_1 (.block 0 (.loop (.ag k65_2 .skip)))) (.ag k65_3 .skip)))
def f65:AF:=.mk x65 [.t .h0 .h2]
def k66_1:KF:=K3 y1 y2 y7 fun c i x h a b d=>
 tR (bU d i0 h) fun e h=>
 I e (.ret (T49 .ah d) h) (.nm (T21 a b) h)
def k66_2:KF:=K2 y1 y2 fun c i x h a b=>
 M 8 b h fun d h=>
 C c 110 [d,a] h fun e h=>
 E 0 e h fun f h=>
 E 1 e h fun g h=>
 O 190 2 (.k1 (Y2 .ah .ah)) h fun j h=>
 S 2 j f h fun k h=>
 tR (bU g i0 h) fun l h=>
 I l (.ret (T49 .ah g) h) (A 1 j h fun m h=>
 L m h fun n h=>
 C c 65 [n] h fun o h=>
 .ret (T49 o i0) h)
def k66_0:KF:=K2 y0 y1 fun c i x h a b=>
 B 131 a h fun d h=>
 C c 107 [b] h fun e h=>
 tR (bG e h) fun f h=>
 I f (.ret (T49 .ah i1) h) (x (T21 b d) h)
def x66:AC:=(.ag k66_0 (.seq (.seq (.da [q 0 (m d16 r1),
 w (oc d17 109 [r16]),
 q 1 (o d15 (.cV 8 r2)),
 w (oc d18 108 [r15,r17]),
 q 0 (m d14 r18),
 q 0 (oe d19 0 r14),
 q 0 (oe d20 1 r14),
 q 0 (oe d21 2 r14),
 q 0 (m d6 r19),
 q 0 (m d7 r20),
 q 0 (m d8 r21)]) (.ag k66_1 .skip)) (.ag k66_2 .skip)))
def f66:AF:=.mk x66 [.t .h0 .h4,.t .h0 .h5]
def k67_2:KF:=K3 y0 y1 y5 fun c i x h a b d=>
 G a h fun e h=>
 Y d e h fun f h=>
 I f (tQ (iX 3 a d h) fun g=>
 tQ (cV 3 g h) fun j=>
 tQ (iX 3 b d h) fun k=>
 tQ (cV 3 k h) fun l=>
 tQ (bK (.Ru [.i,.i,.s]) j l h) fun m=>
 I m (.ret (T9 (.bool false)) h) (D d i1 h fun n h=>
 .nm (T46 a b n) h)) (.ex 0 (T46 a b d) h)
def k67_1:KF:=K2 y0 y1 fun c i x h a b=>
 x (T46 a b i0) h
def k67_3:KF:=fun c i x r h=>
 .ret (T9 (.bool true)) h
def k67_0:KF:=K2 y0 y1 fun c i x h a b=>
 G a h fun d h=>
 G b h fun e h=>
 tR (bU d e h) fun f h=>
 I f (.ret (T9 (.bool false)) h) (x (T20 a b) h)
def x67:AC:=(.ag k67_0 (.seq (.ag k67_1 (.block 0 (.loop (.ag k67_2 .skip)))) (.ag k67_3 .skip)))
def f67:AF:=.mk x67 [.t .h0 .h4]
def k72_4:KF:=K5 y0 y5 y6 y7 y50 fun c i x h a b d e f=>
 I f (.ret (T3 (.bool false)) h) (.nm (T78 a b d e) h)
def k72_3:KF:=K4 y0 y5 y6 y7 fun c i x h a b d e=>
 X 2 b e h fun f h=>
 M 2 f h fun g h=>
 O 142 2 (.k1 (Y2 .ah (.cG .f64 0 0))) h fun j h=>
 S 2 j g h fun k h=>
 x (T79 a e j b d e) h
def k72_5:KF:=K4 y0 y5 y6 y7 fun c i x h a b d e=>
 D e i1 h fun f h=>
 .nm (T78 a b d f) h
def k72_2:KF:=K4 y0 y5 y6 y7 fun c i x h a b d e=>
 Y e d h fun f h=>
 I f (x (T78 a b d e) h) (.ex 0 T17 h)
def k72_1:KF:=K1 y0 fun c i x h a=>
 G a h fun b h=>
 x (T78 a a b i0) h
def k72_6:KF:=fun c i x r h=>
 .ret (T3 (.bool true)) h
def k72_0:KF:=K1 y0 fun c i x h a=>
 x (T0 a) h
def x72:AC:=(.ag k72_0 (.seq (.ag k72_1 (.block 0 (.loop (.ag k72_2 (.seq (.block 1 (.ag k72_3 (.seq (.da [qf 0 d12 0 r4,
 ql 0 d13 r12,
 w (oc d14 114 [r13]),
 q 0 (o d15 (.un .not r14)),
 q 0 (m d16 r15),
 q 0 (.g .h1 .h0 false d17 (.op (.br 1 r4))),
 q 0 (.g .h1 .h0 false d18 (.op (.bq r17))),
 w (.g .h1 .h0 false d19 (.call 115 [r18])),
 q 0 (.g .h1 .h0 false d20 (.op (.un .not r19))),
 q 0 (o d21 (.pick r16 (.c (.bool true)) r20)),
 q 0 (m d22 r21),
 q 0 (.g .h1 .h6 false d23 (.op (.br 1 r4))),
 q 0 (.g .h1 .h6 false d24 (.op (.bq r23))),
 q 0 (.g .h1 .h6 false d25 (.op (.bin (.NM .eql) r24 (.c (.cG .f64 0 0))))),
 q 0 (o d26 (.pick r22 (.c (.bool true)) r25)),
 q 0 (m d27 r26),
 q 0 (.g .h1 .hb false d28 (.op (.br 1 r4))),
 q 0 (.g .h1 .hb false d29 (.op (.bq r28))),
 w (.g .h1 .hb false d30 (.call 116 [r29])),
 q 1 (.g .h1 .hb false d31 (.op (.br 1 r4))),
 q 1 (.g .h1 .hb false d32 (.op (.bq r31))),
 q 0 (.g .h1 .hb false d33 (.op (.bin (.NM .neq) r30 r32))),
 q 0 (o d34 (.pick r27 (.c (.bool true)) r33)),
 q 0 (m d35 r34),
 q 0 (.g .h2 .h3 false d36 (.op (.mv r3))),
 q 0 (.g .h2 .h3 false d37 (.op (.bin .gt r36 a0))),
 q 0 (.g .h2 .h3 false d38 (.op (.mv r37))),
 q 0 (.g .h2 .h6 true d39 (.op (.mv r0))),
 q 0 (.g .h2 .h6 true d40 (.op (.mv r3))),
 q 0 (.g .h2 .h6 true d41 (.op (.bin .sub r40 a1))),
 q 0 (.g .h2 .h6 true d42 (.op (.bF 2 r39 r41))),
 q 0 (.g .h2 .h6 true d43 (.op (.br 0 r42))),
 q 0 (.g .h2 .h6 true d44 (.op (.bq r43))),
 q 0 (.g .h2 .h6 true d45 (.op (.br 0 r4))),
 q 0 (.g .h2 .h6 true d46 (.op (.bq r45))),
 w (.g .h2 .h6 true d47 (.call 117 [r44,r46])),
 q 0 (.g .h2 .h6 true d48 (.op (.un .not r47))),
 q 0 (.g .h2 .h3 false d49 (.op (.pick r38 r48 (.c (.bool false))))),
 q 0 (o d50 (.pick r35 (.c (.bool true)) r49))]) (.ag k72_4 .skip)))) (.ag k72_5 .skip)))))) (.ag k72_6 .skip)))
def f72:AF:=.mk x72 [.t .h0 .h2]
def k75_0:KF:=K2 y0 y1 fun c i x h a b=>
 x (T20 a b) h
def x75:AC:=(.ag k75_0 (.seq (.ops [m d5 r0,
 oc d6 114 [r5],
 m d7 r6,
 .g .h0 .h7 true d8 (.op (.mv r1)),
 .g .h0 .h7 true d9 (.call 114 [r8]),
 o d10 (.pick r7 r9 (.c (.bool false))),
 m d11 r10,
 .g .h0 .hb true d12 (.op (.mv r0)),
 .g .h0 .hb true d13 (.op (.mv r1)),
 .g .h0 .hb true d14 (.call 118 [r12,r13]),
 .g .h0 .hb true d15 (.op (.bin .eq r14 a0)),
 o d16 (.pick r11 r15 (.c (.bool false))),
 m d4 r16]) .ret))
def f75:AF:=.mk x75 [.t .h0 .h4]
def x76:AC:=b76
def f76:AF:=.mk x76 [.t .h0 .h4]
def k77_1:KF:=K2 y0 y14 fun c i x h a b=>
 I b (.ret (T3 (pi 23)) h) (.nm (T0 a) h)
def k77_5:KF:=K7 y0 y3 y4 y15 y16 y17 y35 fun c i x h a b d e f g j=>
 I j (.ret (T3 (pi 20)) h) (.nm (T81 a b d e f g) h)
def k77_6:KF:=K6 y0 y3 y4 y15 y16 y17 fun c i x h a b d e f g=>
 tQ (cq 2 (.c a) .none (.some (.c b)) .none .nil h) fun j=>
 tQ (fA 0 d h) fun k=>
 tQ (lD k h) fun l=>
 tX (c 120 [j,l] h) fun m h=>
 tQ (ext 0 m h) fun n=>
 tQ (ext 1 m h) fun o=>
 I o (.ret (T3 (pi 21)) h) (.nm (T80 a e f g) h)
def k77_4:KF:=K4 y0 y15 y16 y17 fun c i x h a b d e=>
 X 2 b e h fun f h=>
 M 2 f h fun g h=>
 O 103 2 (.k1 (Y2 iS i0)) h fun j h=>
 S 2 j g h fun k h=>
 x (T81 a e j b d e) h
def k77_7:KF:=K4 y0 y15 y16 y17 fun c i x h a b d e=>
 D e i1 h fun f h=>
 .nm (T80 a b d f) h
def k77_3:KF:=K4 y0 y15 y16 y17 fun c i x h a b d e=>
 Y e d h fun f h=>
 I f (x (T80 a b d e) h) (.ex 0 T17 h)
def k77_2:KF:=K1 y0 fun c i x h a=>
 G a h fun b h=>
 x (T80 a a b i0) h
def k77_8:KF:=fun c i x r h=>
 .ret (T3 i0) h
def k77_0:KF:=K1 y0 fun c i x h a=>
 x (T0 a) h
def x77:AC:=(.ag k77_0 (.seq (.seq (.ops [m d7 r0,
 o d8 (.len r7),
 o d9 (.bin .eq r8 a0),
 m d10 r9,
 .g .h0 .ha false d11 (.op (.mv r0)),
 .g .h0 .ha false d12 (.op (.len r11)),
 .g .h0 .ha false d13 (.op (.bin .gt r12 (.c (pi 6)))),
 o d14 (.pick r10 (.c (.bool true)) r13)]) (.ag k77_1 .skip)) (.seq (.ag k77_2 (.block 0 (.loop (.ag k77_3 (.seq (.block 1 (.ag k77_4 (.seq (.seq (.ops [of d22 0 r4,
 ol d23 r22,
 oc d24 119 [r23],
 o d25 (.un .not r24),
 m d26 r25,
 .g .h1 .ha false d27 (.op (.br 1 r4)),
 .g .h1 .ha false d28 (.op (.bq r27)),
 .g .h1 .ha false d29 (.op (.bin .ne r28 a1)),
 .g .h1 .ha false d30 (.op (.mv r29)),
 .g .h1 .he true d31 (.op (.br 1 r4)),
 .g .h1 .he true d32 (.op (.bq r31)),
 .g .h1 .he true d33 (.op (.bin .ne r32 a2)),
 .g .h1 .ha false d34 (.op (.pick r30 r33 (.c (.bool false)))),
 o d35 (.pick r26 (.c (.bool true)) r34)]) (.ag k77_5 .skip)) (.ag k77_6 .skip)))) (.ag k77_7 .skip)))))) (.ag k77_8 .skip))))
def f77:AF:=.mk x77 [.t .h0 .h2]
def k78_0:KF:=K1 y0 fun c i x h a=>
 tR (bK (.jO .s) a .ah h) fun b h=>
 I b (.ret (T3 .ah) h) (tR (bs 103 2 0 [] [] h) fun d h=>
 tR (cW 103 2 d a h) fun e h=>
 .ret (T3 e) h)
def x78:AC:=(.ag k78_0 .skip)
def f78:AF:=.mk x78 [.t .h0 .h2]
def x79:AC:=b79
def f79:AF:=.mk x79 []
def x80:AC:=b80
def f80:AF:=.mk x80 [.t .h0 .h4]
def x81:AC:=b81
def f81:AF:=.mk x81 [.t .h0 .h4]
def k82_2:KF:=K4 y0 y1 y7 y8 fun c i x h a b d e=>
 Y e d h fun f h=>
 I f (X 3 a e h fun g h=>
 M 3 g h fun j h=>
 tT (cd c b [j] h) fun k h=>
 I k (.ret (T9 e) h) (D e i1 h fun l h=>
 .nm (T62 a b d l) h)) (.ex 0 (T62 a b d e) h)
def k82_1:KF:=K2 y0 y1 fun c i x h a b=>
 G a h fun d h=>
 x (T62 a b d i0) h
def k82_3:KF:=fun c i x r h=>
 .ret (T9 (ni 0)) h
def k82_0:KF:=K2 y0 y1 fun c i x h a b=>
 x (T20 a b) h
def x82:AC:=(.ag k82_0 (.seq (.ag k82_1 (.block 0 (.loop (.ag k82_2 .skip)))) (.ag k82_3 .skip)))
def f82:AF:=.mk x82 [.t .h0 .h4]
def x83:AC:=b83
def f83:AF:=.mk x83 [.t .h0 .h3]
def k84_2:KF:=K5 y0 y1 y2 y7 y8 fun c i x h a b d e f=>
 D f e h fun g h=>
 tR (pE (.c a) .nil h) fun j h=>
 tR (fH g j h) fun k h=>
 x (T83 a b d e f k) h
def k84_5:KF:=K5 y0 y1 y2 y7 y8 fun c i x h a b d e f=>
 tR (cq 3 (.c a) (.some (.c f)) .none .none .nil h) fun g h=>
 tR (BD 3 g d h) fun j h=>
 tR (cq 3 (.c a) (.some (.c b)) .none .none .nil h) fun k h=>
 C c 125 [k,e] h fun l h=>
 .ret (T6 a) h
def k84_4:KF:=K5 y0 y1 y2 y7 y8 fun c i x h a b d e f=>
 D b e h fun g h=>
 tR (cq 3 (.c a) (.some (.c g)) .none .none .nil h) fun j h=>
 C c 124 [d,j] h fun k h=>
 tR (bG k h) fun l h=>
 I l (tQ (ja b e h) fun m=>
 tQ (cq 3 (.c a) (.some (.c m)) .none .none .nil h) fun n=>
 tQ (cq 3 (.c a) (.some (.c b)) .none .none .nil h) fun o=>
 tX (RV.gh (BD 3 n o h)) fun p h=>
 tR (cq 3 (.c a) (.some (.c b)) .none .none .nil h) fun q h=>
 tR (BD 3 q d h) fun s h=>
 .ret (T6 a) h) (x (T82 a b d e f) h)
def k84_3:KF:=K5 y0 y1 y2 y7 y8 fun c i x h a b d e f=>
 D f e h fun g h=>
 tR (cq 3 (.c a) .none (.some (.c g)) .none .nil h) fun j h=>
 x (T82 j b d e f) h
def k84_1:KF:=K5 y0 y1 y2 y7 y8 fun c i x h a b d e f=>
 Q b f h fun g h=>
 I g (tR (cW 86 3 a d h) fun j h=>
 .ret (T6 j) h) (x (T82 a b d e f) h)
def k84_0:KF:=K3 y0 y1 y2 fun c i x h a b d=>
 tR (cq 3 (.c a) (.some (.c b)) .none .none .nil h) fun e h=>
 G d h fun f h=>
 Q f i0 h fun g h=>
 I g (.ret (T6 a) h) (G a h fun j h=>
 x (T82 a b d f j) h)
def p84:PK:=(.ins 86 3)
def x84:AC:=(.ag k84_0 (.ag k84_1 (.seq (.ag k84_2 (.cond r31 (.bad 0) .skip)) (.ag k84_3 (.ag k84_4 (.ag k84_5 .skip))))))
def f84:AF:=.oO p84 x84 [.t .h0 .h6]
def x85:AC:=b85
def f85:AF:=.mk x85 [.t .h0 .h2]
def x86:AC:=b86
def f86:AF:=.mk x86 [.t .h0 .h4]
def x87:AC:=b87
def f87:AF:=.mk x87 [.t .h0 .h4]
def x88:AC:=b88
def f88:AF:=.mk x88 [.t .h0 .h6]
def x89:AC:=b89
def f89:AF:=.mk x89 [.t .h0 .h2]
def x90:AC:=b90
def f90:AF:=.mk x90 [.t .h0 .h6,.t .h0 .h7,.t .h0 .h8]
def k91_2:KF:=K4 y2 y8 y9 y37 fun c i x h a b d e=>
 I e (C c 139 [b,(pi 3),i0] h fun f h=>
 .nm (T90 a b d) h) (.nm (T90 a b d) h)
def k91_3:KF:=K3 y2 y8 y9 fun c i x h a b d=>
 J b h fun e h=>
 A 0 e h fun f h=>
 L f h fun g h=>
 tR (bU g i0 h) fun j h=>
 x (T91 a b d j) h
def k91_4:KF:=K2 y2 y9 fun c i x h a b=>
 M 8 b h fun d h=>
 S 8 a d h fun e h=>
 .ret (T4 a i0 i0) h
def k91_1:KF:=K2 y2 y5 fun c i x h a b=>
 U [i0,i0] [] h fun d h=>
 B 224 d h fun e h=>
 M 5 b h fun f h=>
 C c 136 [e,f] h fun g h=>
 O 131 8 (.k1 (Y8 i0 iS .ah .ah .ah .ah .ah .ah)) h fun j h=>
 S 8 j g h fun k h=>
 x (T90 a e j) h
def k91_0:KF:=K1 y0 fun c i x h a=>
 O 131 8 (.k1 (Y8 i0 iS .ah .ah .ah .ah .ah .ah)) h fun b h=>
 C c 135 [a] h fun d h=>
 E 0 d h fun e h=>
 E 1 d h fun f h=>
 E 2 d h fun g h=>
 O 219 5 (.k1 (Y5 i0 iS i0 .ah i0)) h fun j h=>
 S 5 j e h fun k h=>
 tR (bU f i0 h) fun l h=>
 I l (U [i0,iS,.ah,.ah,.ah,.ah,.ah,.ah] [] h fun m h=>
 S 8 b m h fun n h=>
 .ret (T4 b f g) h) (x (T89 b j) h)
def x91:AC:=(.ag k91_0 (.ag k91_1 (.seq (.seq (.ops [m d26 r8,
 oj d27 r26,
 of d28 0 r27,
 ol d29 r28,
 o d30 (.bin .eq r29 a0),
 m d31 r30,
 .g .h1 .hf true d32 (.op (.cV 8 r9)),
 .g .h1 .hf true d33 (.call 138 [r32]),
 .g .h1 .hf true d34 (.call 137 [r33]),
 .g .h1 .hf true d35 (.op (.dI r34)),
 .g .h1 .hf true d36 (.op (.bin .gt r35 (.c (pi 600)))),
 o d37 (.pick r31 r36 (.c (.bool false)))]) (.ag k91_2 .skip)) (.seq (.ag k91_3 (.cond r44 (.seq (.da [q 0 (o d45 (.build [i0,iS,.ah,.ah,.ah,.ah,.ah,.ah] [])),
 w (o .no (.gS 8 r2 r45)),
 q 1 (m d46 r8),
 qj 1 d47 r46,
 qf 1 d48 0 r47,
 ql 1 d49 r48,
 q 1 (m d50 r8),
 qj 1 d51 r50,
 qf 1 d52 1 r51,
 ql 1 d53 r52,
 q 0 (m d3 r49),
 q 0 (m d4 r53)]) .ret) .skip)) (.ag k91_4 .skip)))))
def f91:AF:=.mk x91 [.agg 8 .h0 .h2,.t .h0 .h3,.t .h0 .h4]
def x92:AC:=b92
def f92:AF:=.mk x92 [.t .h0 .h4]
def x93:AC:=b93
def f93:AF:=.mk x93 [.t .h0 .h6]
def x94:AC:=b94
def f94:AF:=.mk x94 [.t .h0 .h4,.t .h0 .h5,.t .h0 .h6,.t .h0 .h7]
def x95:AC:=b95
def f95:AF:=.mk x95 [.t .h0 .h4]
def k96_2:KF:=K3 y0 y3 y4 fun c i x h a b d=>
 G b h fun e h=>
 Y d e h fun f h=>
 I f (X 1 b d h fun g h=>
 L g h fun j h=>
 tR (aC j a h) fun k h=>
 I k (.ret (T3 (.bool false)) h) (D d i1 h fun l h=>
 .nm (T25 a b l) h)) (.ex 0 (T25 a b d) h)
def k96_1:KF:=K2 y0 y3 fun c i x h a b=>
 x (T25 a b i0) h
def k96_5:KF:=K3 y0 y5 y34 fun c i x h a b d=>
 I d (.ret (T3 (.bool false)) h) (.nm (T54 a b) h)
def k96_6:KF:=K2 y0 y5 fun c i x h a b=>
 D b i1 h fun d h=>
 .nm (T54 a d) h
def k96_4:KF:=K2 y0 y5 fun c i x h a b=>
 tR (dI a h) fun d h=>
 Y b d h fun e h=>
 I e (x (T54 a b) h) (.ex 2 (T0 a) h)
def k96_3:KF:=K1 y0 fun c i x h a=>
 x (T54 a i0) h
def k96_0:KF:=K1 y0 fun c i x h a=>
 tR (bs 9 1 23 [iS,iS,iS,iS,iS,iS,iS,iS,iS,iS,iS,iS,iS,iS,iS,iS,iS,iS,iS,iS,iS,iS,iS] [.mk 0 1 (.c (.str [116,97,98,108,101])),.mk 1 1 (.c (.str [102,105,108,116,101,114])),.mk 2 1 (.c (.str [112,114,111,106,101,99,116])),.mk 3 1 (.c (.str [106,111,105,110])),.mk 4 1 (.c (.str [117,110,105,111,110])),.mk 5 1 (.c (.str [100,105,115,116,105,110,99,116])),.mk 6 1 (.c (.str [103,114,111,117,112])),.mk 7 1 (.c (.str [99,111,117,110,116])),.mk 8 1 (.c (.str [115,117,109])),.mk 9 1 (.c (.str [109,105,110])),.mk 10 1 (.c (.str [109,97,120])),.mk 11 1 (.c (.str [97,100,100])),.mk 12 1 (.c (.str [115,117,98])),.mk 13 1 (.c (.str [109,117,108])),.mk 14 1 (.c (.str [110,101,103])),.mk 15 1 (.c (.str [101,113])),.mk 16 1 (.c (.str [108,116])),.mk 17 1 (.c (.str [97,110,100])),.mk 18 1 (.c (.str [111,114])),.mk 19 1 (.c (.str [110,111,116])),.mk 20 1 (.c (.str [99,97,116])),.mk 21 1 (.c (.str [108,101,110])),.mk 22 1 (.c (.str [105,102]))] h) fun b h=>
 x (T24 a b) h
def x96:AC:=(.ag k96_0 (.seq (.ag k96_1 (.block 0 (.loop (.ag k96_2 .skip)))) (.seq (.ag k96_3 (.block 2 (.loop (.ag k96_4 (.seq (.block 3 (.seq (.ops [m d25 r0,
 m d26 r5,
 o d27 (.idxs r25 r26),
 o d28 (.bin .lt r27 (.c (.int .u8 (.ofNat 97)))),
 m d29 r28,
 .g .h1 .hd false d30 (.op (.mv r0)),
 .g .h1 .hd false d31 (.op (.mv r5)),
 .g .h1 .hd false d32 (.op (.idxs r30 r31)),
 .g .h1 .hd false d33 (.op (.bin .gt r32 (.c (.int .u8 (.ofNat 122))))),
 o d34 (.pick r29 (.c (.bool true)) r33)]) (.ag k96_5 .skip))) (.ag k96_6 .skip)))))) (.seq (.ops [m d35 r0,
 o d36 (.dI r35),
 o d37 (.bin .ge r36 a1),
 m d38 r37,
 .g .h2 .h6 true d39 (.op (.mv r0)),
 .g .h2 .h6 true d40 (.op (.dI r39)),
 .g .h2 .h6 true d41 (.op (.bin .le r40 (.c (pi 12)))),
 o d42 (.pick r38 r41 (.c (.bool false))),
 m d2 r42]) .ret))))
def f96:AF:=.mk x96 [.t .h0 .h2]
def x97:AC:=b97
def f97:AF:=.mk x97 [.t .h0 .h4]
def x98:AC:=b98
def f98:AF:=.mk x98 [.t .h0 .h4]
def k99_1:KF:=K2 y0 y13 fun c i x h a b=>
 I b (.ret (T3 (pi 23)) h) (.nm (T0 a) h)
def k99_4:KF:=K3 y0 y3 y42 fun c i x h a b d=>
 I d (.ret (T3 (pi 20)) h) (.nm (T24 a b) h)
def k99_5:KF:=K2 y0 y3 fun c i x h a b=>
 tQ (cq 2 (.c a) .none (.some (.c b)) .none .nil h) fun d=>
 tQ (iX 2 a b h) fun e=>
 tQ (fA 0 e h) fun f=>
 tQ (lD f h) fun g=>
 tX (c 151 [d,g] h) fun j h=>
 tQ (ext 0 j h) fun k=>
 tQ (ext 1 j h) fun l=>
 I l (.ret (T3 (pi 21)) h) (.nm (T24 a b) h)
def k99_6:KF:=K2 y0 y3 fun c i x h a b=>
 D b i1 h fun d h=>
 .nm (T24 a d) h
def k99_3:KF:=K2 y0 y3 fun c i x h a b=>
 G a h fun d h=>
 Y b d h fun e h=>
 I e (x (T24 a b) h) (.ex 0 T17 h)
def k99_2:KF:=K1 y0 fun c i x h a=>
 x (T24 a i0) h
def k99_7:KF:=fun c i x r h=>
 .ret (T3 i0) h
def k99_0:KF:=K1 y0 fun c i x h a=>
 x (T0 a) h
def x99:AC:=(.ag k99_0 (.seq (.seq (.ops [m d6 r0,
 o d7 (.len r6),
 o d8 (.bin .eq r7 a0),
 m d9 r8,
 .g .h0 .h9 false d10 (.op (.mv r0)),
 .g .h0 .h9 false d11 (.op (.len r10)),
 .g .h0 .h9 false d12 (.op (.bin .gt r11 (.c (pi 6)))),
 o d13 (.pick r9 (.c (.bool true)) r12)]) (.ag k99_1 .skip)) (.seq (.ag k99_2 (.block 0 (.loop (.ag k99_3 (.seq (.block 1 (.seq (.seq (.ops [m d20 r0,
 m d21 r3,
 o d22 (.bF 2 r20 r21),
 of d23 0 r22,
 ol d24 r23,
 oc d25 96 [r24],
 o d26 (.un .not r25),
 m d27 r26,
 .g .h1 .hb false d28 (.op (.mv r0)),
 .g .h1 .hb false d29 (.op (.mv r3)),
 .g .h1 .hb false d30 (.op (.bF 2 r28 r29)),
 .g .h1 .hb false d31 (.op (.br 1 r30)),
 .g .h1 .hb false d32 (.op (.bq r31)),
 .g .h1 .hb false d33 (.op (.bin .ne r32 a1)),
 .g .h1 .hb false d34 (.op (.mv r33)),
 .g .h2 .h2 true d35 (.op (.mv r0)),
 .g .h2 .h2 true d36 (.op (.mv r3)),
 .g .h2 .h2 true d37 (.op (.bF 2 r35 r36)),
 .g .h2 .h2 true d38 (.op (.br 1 r37)),
 .g .h2 .h2 true d39 (.op (.bq r38)),
 .g .h2 .h2 true d40 (.op (.bin .ne r39 a2)),
 .g .h1 .hb false d41 (.op (.pick r34 r40 (.c (.bool false)))),
 o d42 (.pick r27 (.c (.bool true)) r41)]) (.ag k99_4 .skip)) (.ag k99_5 .skip))) (.ag k99_6 .skip)))))) (.ag k99_7 .skip))))
def f99:AF:=.mk x99 [.t .h0 .h2]
def x100:AC:=b100
def f100:AF:=.mk x100 [.t .h0 .h4]
def k101_2:KF:=K5 y2 y6 y7 y8 y33 fun c i x h a b d e f=>
 I f (U [i0,iS,.ah,.ah,.ah,.ah,.ah,.ah] [] h fun g h=>
 S 8 a g h fun j h=>
 .ret (T4 a (pi 3) i0) h) (.nm (T100 a b d e) h)
def k101_3:KF:=K4 y2 y6 y7 y8 fun c i x h a b d e=>
 M 8 e h fun f h=>
 S 8 a f h fun g h=>
 .ret (T4 a b d) h
def k101_1:KF:=K2 y2 y5 fun c i x h a b=>
 M 5 b h fun d h=>
 C c 154 [d] h fun e h=>
 E 0 e h fun f h=>
 E 1 e h fun g h=>
 E 2 e h fun j h=>
 O 131 8 (.k1 (Y8 i0 iS .ah .ah .ah .ah .ah .ah)) h fun k h=>
 S 8 k f h fun l h=>
 x (T100 a g j k) h
def k101_0:KF:=K1 y0 fun c i x h a=>
 O 131 8 (.k1 (Y8 i0 iS .ah .ah .ah .ah .ah .ah)) h fun b h=>
 C c 153 [a] h fun d h=>
 E 0 d h fun e h=>
 E 1 d h fun f h=>
 E 2 d h fun g h=>
 O 241 5 (.k1 (Y5 i0 iS i0 .ah i0)) h fun j h=>
 S 5 j e h fun k h=>
 tR (bU f i0 h) fun l h=>
 I l (U [i0,iS,.ah,.ah,.ah,.ah,.ah,.ah] [] h fun m h=>
 S 8 b m h fun n h=>
 .ret (T4 b f g) h) (x (T89 b j) h)
def x101:AC:=(.ag k101_0 (.ag k101_1 (.seq (.seq (.ops [m d26 r6,
 o d27 (.bin .eq r26 a0),
 m d28 r27,
 .g .h1 .hc true d29 (.op (.cV 8 r8)),
 .g .h1 .hc true d30 (.call 155 [r29]),
 .g .h1 .hc true d31 (.op (.dI r30)),
 .g .h1 .hc true d32 (.op (.bin .gt r31 (.c (pi 600)))),
 o d33 (.pick r28 r32 (.c (.bool false)))]) (.ag k101_2 .skip)) (.ag k101_3 .skip))))
def f101:AF:=.mk x101 [.agg 8 .h0 .h2,.t .h0 .h3,.t .h0 .h4]
def k102_1:KF:=K2 y1 y2 fun c i x h a b=>
 M 8 b h fun d h=>
 C c 157 [d,a] h fun e h=>
 E 0 e h fun f h=>
 E 1 e h fun g h=>
 E 2 e h fun j h=>
 .ret (T101 f g j) h
def k102_0:KF:=K2 y0 y1 fun c i x h a b=>
 B 131 a h fun d h=>
 C c 156 [b] h fun e h=>
 tR (bU e i0 h) fun f h=>
 I f (.ret (T101 .ah i1 iS) h) (M 8 d h fun g h=>
 C c 103 [g] h fun j h=>
 tR (aC j iS h) fun k h=>
 I k (.ret (T101 .ah (pi 12) iS) h) (x (T21 b d) h))
def x102:AC:=(.ag k102_0 (.ag k102_1 .skip))
def f102:AF:=.mk x102 [.t .h0 .h4,.t .h0 .h5,.t .h0 .h6]
def k103_1:KF:=K2 y3 y22 fun c i x h a b=>
 I b (.ret (T3 iS) h) (.nm (T47 a) h)
def k103_2:KF:=K1 y3 fun c i x h a=>
 .ret (T3 a) h
def k103_0:KF:=K1 y0 fun c i x h a=>
 B 131 a h fun b h=>
 M 8 b h fun d h=>
 C c 155 [d] h fun e h=>
 C c 101 [e] h fun f h=>
 E 0 f h fun g h=>
 E 1 f h fun j h=>
 E 2 f h fun k h=>
 O 131 8 (.k1 (Y8 i0 iS .ah .ah .ah .ah .ah .ah)) h fun l h=>
 S 8 l g h fun m h=>
 x (T102 b e l j) h
def x103:AC:=(.ag k103_0 (.seq (.seq (.ops [m d15 r5,
 o d16 (.bin .ne r15 a0),
 m d17 r16,
 .g .h1 .h1 false d18 (.op (.cV 8 r1)),
 .g .h1 .h1 false d19 (.op (.cV 8 r4)),
 .g .h1 .h1 false d20 (.call 158 [r18,r19]),
 .g .h1 .h1 false d21 (.op (.un .not r20)),
 o d22 (.pick r17 (.c (.bool true)) r21)]) (.ag k103_1 .skip)) (.ag k103_2 .skip)))
def f103:AF:=.mk x103 [.t .h0 .h2]
def k104_2:KF:=K1 y9 fun c i x h a=>
 .ret (T49 a i0) h
def k104_1:KF:=K3 y1 y2 y7 fun c i x h a b d=>
 tR (bU d i0 h) fun e h=>
 I e (.ret (T49 .ah d) h) (M 8 b h fun f h=>
 C c 161 [f,a] h fun g h=>
 E 0 g h fun j h=>
 E 1 g h fun k h=>
 E 2 g h fun l h=>
 tR (bU l i0 h) fun m h=>
 I m (.ret (T49 .ah l) h) (x (T103 j) h))
def k104_0:KF:=K2 y0 y1 fun c i x h a b=>
 B 131 a h fun d h=>
 C c 159 [b] h fun e h=>
 tR (bG e h) fun f h=>
 I f (.ret (T49 .ah i1) h) (x (T21 b d) h)
def x104:AC:=(.ag k104_0 (.seq (.da [q 0 (m d16 r1),
 w (oc d17 160 [r16]),
 q 1 (o d15 (.cV 8 r2)),
 w (oc d18 102 [r15,r17]),
 q 0 (m d14 r18),
 q 0 (oe d19 0 r14),
 q 0 (oe d20 1 r14),
 q 0 (oe d21 2 r14),
 q 0 (m d6 r19),
 q 0 (m d7 r20),
 q 0 (m d8 r21)]) (.ag k104_1 (.ag k104_2 .skip))))
def f104:AF:=.mk x104 [.t .h0 .h4,.t .h0 .h5]
def x105:AC:=b105
def f105:AF:=.mk x105 [.t .h0 .h4,.t .h0 .h5,.t .h0 .h6,.t .h0 .h7]
def k106_0:KF:=K2 y0 y1 fun c i x h a b=>
 O 142 2 (.k1 (Y2 .ah (.cG .f64 0 0))) h fun d h=>
 C c 169 [a] h fun e h=>
 U [.ah,(.cG .f64 0 0)] [.mk 0 1 (.c e),.mk 1 1 (.c b)] h fun f h=>
 S 2 d f h fun g h=>
 .ret (T9 d) h
def x106:AC:=(.ag k106_0 .skip)
def f106:AF:=.mk x106 [.agg 2 .h0 .h4]
def k107_4:KF:=K4 y9 y10 y11 y24 fun c i x h a b d e=>
 I e (.ret (T3 (.bool false)) h) (.nm (T114 a b d) h)
def k107_3:KF:=K3 y9 y10 y11 fun c i x h a b d=>
 X 3 a d h fun e h=>
 M 3 e h fun f h=>
 O 86 3 (.k1 (Y3 iS .ah .ah)) h fun g h=>
 S 3 g f h fun j h=>
 x (T115 g a b d) h
def k107_5:KF:=K3 y9 y10 y11 fun c i x h a b d=>
 D d i1 h fun e h=>
 .nm (T114 a b e) h
def k107_2:KF:=K3 y9 y10 y11 fun c i x h a b d=>
 Y d b h fun e h=>
 I e (x (T114 a b d) h) (.ex 0 T17 h)
def k107_1:KF:=K1 y0 fun c i x h a=>
 G a h fun b h=>
 x (T114 a b i0) h
def k107_6:KF:=fun c i x r h=>
 .ret (T3 (.bool true)) h
def k107_0:KF:=K1 y0 fun c i x h a=>
 C c 109 [a] h fun b h=>
 C c 170 [b] h fun d h=>
 tR (bU d i0 h) fun e h=>
 I e (.ret (T3 (.bool false)) h) (x (T0 a) h)
def x107:AC:=(.ag k107_0 (.seq (.ag k107_1 (.block 0 (.loop (.ag k107_2 (.seq (.block 1 (.ag k107_3 (.seq (.ops [of d15 2 r4,
 ol d16 r15,
 oc d17 171 [r16],
 o d18 (.un .not r17),
 m d19 r18,
 .g .h1 .h3 false d20 (.op (.br 2 r4)),
 .g .h1 .h3 false d21 (.op (.bq r20)),
 .g .h1 .h3 false d22 (.op (.TX 173 [r4])),
 .g .h1 .h3 false d23 (.call 172 [r21,r22]),
 o d24 (.pick r19 (.c (.bool true)) r23)]) (.ag k107_4 .skip)))) (.ag k107_5 .skip)))))) (.ag k107_6 .skip)))
def f107:AF:=.mk x107 [.t .h0 .h2]
def k108_2:KF:=K1 y7 fun c i x h a=>
 .ret (T101 a i0 iS) h
def k108_1:KF:=K2 y1 y2 fun c i x h a b=>
 M 8 b h fun d h=>
 C c 175 [d,a] h fun e h=>
 E 0 e h fun f h=>
 E 1 e h fun g h=>
 O 263 2 (.k1 (Y2 i0 iS)) h fun j h=>
 S 2 j g h fun k h=>
 A 0 j h fun l h=>
 L l h fun m h=>
 tR (bU m i0 h) fun n h=>
 I n (tQ (fA 0 j h) fun o=>
 tQ (lD o h) fun p=>
 tQ (fA 1 j h) fun q=>
 tQ (lD q h) fun s=>
 .ret (T101 .ah p s) h) (x (T28 f) h)
def k108_0:KF:=K2 y0 y1 fun c i x h a b=>
 B 131 a h fun d h=>
 C c 170 [b] h fun e h=>
 tR (bU e i0 h) fun f h=>
 I f (.ret (T101 .ah i1 iS) h) (M 8 d h fun g h=>
 C c 132 [g] h fun j h=>
 tR (aC j iS h) fun k h=>
 I k (.ret (T101 .ah (pi 12) iS) h) (x (T21 b d) h))
def x108:AC:=(.ag k108_0 (.ag k108_1 (.ag k108_2 .skip)))
def f108:AF:=.mk x108 [.t .h0 .h4,.t .h0 .h5,.t .h0 .h6]
def k109_3:KF:=K4 y3 y6 y7 y8 fun c i x h a b d e=>
 X 3 b e h fun f h=>
 M 3 f h fun g h=>
 O 86 3 (.k1 (Y3 iS .ah .ah)) h fun j h=>
 S 3 j g h fun k h=>
 x (T116 a j b d e) h
def k109_4:KF:=K4 y3 y6 y7 y8 fun c i x h a b d e=>
 D e i1 h fun f h=>
 .nm (T77 a b d f) h
def k109_2:KF:=K4 y3 y6 y7 y8 fun c i x h a b d e=>
 Y e d h fun f h=>
 I f (x (T77 a b d e) h) (.ex 0 (T47 a) h)
def k109_1:KF:=K2 y0 y3 fun c i x h a b=>
 G a h fun d h=>
 x (T77 b a d i0) h
def k109_5:KF:=K1 y3 fun c i x h a=>
 .ret (T3 a) h
def k109_0:KF:=K1 y0 fun c i x h a=>
 x (T24 a .ah) h
def x109:AC:=(.ag k109_0 (.seq (.ag k109_1 (.block 0 (.loop (.ag k109_2 (.seq (.block 1 (.ag k109_3 (.da [qf 0 d15 1 r5,
 ql 0 d16 r15,
 w (oc d17 78 [r16]),
 qf 1 d13 0 r5,
 ql 1 d14 r13,
 q 0 (o d18 (.build [iS,.ah] [.mk 0 1 r14,.mk 1 1 r17])),
 w (o d19 (.aU 125 2 1 [iS,.ah] [.mk 0 2 r18])),
 q 2 (m d12 r3),
 w (o d20 (.app 125 2 r12 r19)),
 q 0 (m d3 r20)]))) (.ag k109_4 .skip)))))) (.ag k109_5 .skip)))
def f109:AF:=.mk x109 [.t .h0 .h2]
def k110_4:KF:=K7 y1 y2 y4 y6 y14 y15 y16 fun c i x h a b d e f g j=>
 D j i1 h fun k h=>
 .nm (T118 a b d e f g k) h
def k110_3:KF:=K7 y1 y2 y4 y6 y14 y15 y16 fun c i x h a b d e f g j=>
 X 8 f j h fun k h=>
 M 8 k h fun l h=>
 O 131 8 (.k1 (Y8 i0 iS .ah .ah .ah .ah .ah .ah)) h fun m h=>
 S 8 m l h fun n h=>
 M 8 m h fun o h=>
 C c 110 [o,a] h fun p h=>
 E 0 p h fun q h=>
 E 1 p h fun s h=>
 O 190 2 (.k1 (Y2 .ah .ah)) h fun t h=>
 S 2 t q h fun v h=>
 tR (bU s i0 h) fun w h=>
 I w (U [.ah,.ah] [] h fun y h=>
 S 2 d y h fun z h=>
 .ret (T49 d s) h) (M 2 t h fun y h=>
 tR (bs 190 2 1 [.ah,.ah] [.mk 0 2 (.c y)] h) fun z h=>
 tR (cW 190 2 e z h) fun a0 h=>
 x (T118 a b d a0 f g j) h)
def k110_2:KF:=K7 y1 y2 y4 y6 y14 y15 y16 fun c i x h a b d e f g j=>
 Y j g h fun k h=>
 I k (x (T118 a b d e f g j) h) (.ex 0 (T117 a b d e) h)
def k110_1:KF:=K4 y1 y2 y4 y6 fun c i x h a b d e=>
 A 7 b h fun f h=>
 L f h fun g h=>
 G g h fun j h=>
 x (T118 a b d e g j i0) h
def k110_6:KF:=K4 y4 y11 y12 y48 fun c i x h a b d e=>
 I e (.nm (T119 a b (pi 13)) h) (.nm (T119 a b d) h)
def k110_7:KF:=K3 y4 y11 y12 fun c i x h a b d=>
 M 2 b h fun e h=>
 S 2 a e h fun f h=>
 .ret (T49 a d) h
def k110_5:KF:=K4 y1 y2 y4 y6 fun c i x h a b d e=>
 M 8 b h fun f h=>
 C c 176 [f,a,e] h fun g h=>
 E 0 g h fun j h=>
 E 1 g h fun k h=>
 O 190 2 (.k1 (Y2 .ah .ah)) h fun l h=>
 S 2 l j h fun m h=>
 x (T119 d l k) h
def k110_0:KF:=K2 y0 y1 fun c i x h a b=>
 B 131 a h fun d h=>
 O 190 2 (.k1 (Y2 .ah .ah)) h fun e h=>
 x (T117 b d e .ah) h
def x110:AC:=(.ag k110_0 (.seq (.ag k110_1 (.block 0 (.loop (.ag k110_2 (.ag k110_3 (.ag k110_4 .skip)))))) (.ag k110_5 (.seq (.seq (.ops [m d42 r12,
 o d43 (.bin .eq r42 a0),
 m d44 r43,
 .g .h2 .hc true d45 (.op (.br 1 r11)),
 .g .h2 .hc true d46 (.op (.bq r45)),
 .g .h2 .hc true d47 (.call 177 [r46]),
 o d48 (.pick r44 r47 (.c (.bool false)))]) (.ag k110_6 .skip)) (.ag k110_7 .skip)))))
def f110:AF:=.mk x110 [.agg 2 .h0 .h4,.t .h0 .h5]
def k114_0:KF:=K1 y0 fun c i x h a=>
 x (T0 a) h
def x114:AC:=(.ag k114_0 (.seq (.ops [m d3 r0,
 o d4 (.len r3),
 o d5 (.bin .gt r4 a0),
 m d6 r5,
 .g .h0 .h6 true d7 (.op (.mv r0)),
 .g .h0 .h6 true d8 (.op (.len r7)),
 .g .h0 .h6 true d9 (.op (.bin .le r8 (.c (pi 6)))),
 o d10 (.pick r6 r9 (.c (.bool false))),
 m d11 r10,
 .g .h0 .hb true d12 (.op (.mv r0)),
 .g .h0 .hb true d13 (.call 178 [r12,(.c (.fn 179 []))]),
 .g .h0 .hb true d14 (.op (.un .not r13)),
 o d15 (.pick r11 r14 (.c (.bool false))),
 m d2 r15]) .ret))
def f114:AF:=.mk x114 [.t .h0 .h2]
def k115_0:KF:=K1 y0 fun c i x h a=>
 x (T0 a) h
def x115:AC:=(.ag k115_0 (.seq (.ops [m d3 r0,
 o d4 (.real false r3),
 oc d5 181 [r4],
 m d6 r5,
 .g .h0 .h6 true d7 (.op (.mv r0)),
 .g .h0 .h6 true d8 (.op (.real true r7)),
 .g .h0 .h6 true d9 (.call 181 [r8]),
 o d10 (.pick r6 r9 (.c (.bool false))),
 m d2 r10]) .ret))
def f115:AF:=.mk x115 [.t .h0 .h2]
def k116_0:KF:=K1 y0 fun c i x h a=>
 C c 183 [a] h fun b h=>
 C c 182 [b] h fun d h=>
 .ret (T3 d) h
def x116:AC:=(.ag k116_0 .skip)
def f116:AF:=.mk x116 [.t .h0 .h2]
def x117:AC:=b117
def f117:AF:=.mk x117 [.t .h0 .h4]
def k118_0:KF:=K2 y0 y1 fun c i x h a b=>
 C c 184 [a,b,(.fn 185 [])] h fun d h=>
 .ret (T9 d) h
def x118:AC:=(.ag k118_0 .skip)
def f118:AF:=.mk x118 [.t .h0 .h4]
def k119_1:KF:=K2 y0 y14 fun c i x h a b=>
 I b (.ret (T3 (.bool false)) h) (.nm (T0 a) h)
def k119_5:KF:=K4 y0 y16 y17 y29 fun c i x h a b d e=>
 I e (.ret (T3 (.bool false)) h) (.nm (T120 a b d) h)
def k119_4:KF:=K3 y0 y16 y17 fun c i x h a b d=>
 x (T121 a d b d) h
def k119_6:KF:=K3 y0 y16 y17 fun c i x h a b d=>
 D d i1 h fun e h=>
 .nm (T120 a b e) h
def k119_3:KF:=K3 y0 y16 y17 fun c i x h a b d=>
 Y d b h fun e h=>
 I e (x (T120 a b d) h) (.ex 0 T17 h)
def k119_2:KF:=K1 y0 fun c i x h a=>
 tR (dI a h) fun b h=>
 x (T120 a b i0) h
def k119_7:KF:=fun c i x r h=>
 .ret (T3 (.bool true)) h
def k119_0:KF:=K1 y0 fun c i x h a=>
 x (T0 a) h
def x119:AC:=(.ag k119_0 (.seq (.seq (.ops [m d4 r0,
 o d5 (.bin .seq r4 (.c iS)),
 m d6 r5,
 .g .h0 .h6 false d7 (.op (.mv r0)),
 .g .h0 .h6 false d8 (.op (.dI r7)),
 .g .h0 .h6 false d9 (.op (.bin .gt r8 (.c (pi 12)))),
 o d10 (.pick r6 (.c (.bool true)) r9),
 m d11 r10,
 .g .h0 .hb false d12 (.op (.mv r0)),
 .g .h0 .hb false d13 (.call 187 [r12]),
 o d14 (.pick r11 (.c (.bool true)) r13)]) (.ag k119_1 .skip)) (.seq (.ag k119_2 (.block 0 (.loop (.ag k119_3 (.seq (.block 1 (.ag k119_4 (.seq (.ops [m d20 r0,
 m d21 r3,
 o d22 (.idxs r20 r21),
 o d23 (.bin .lt r22 (.c (.int .u8 (.ofNat 97)))),
 m d24 r23,
 .g .h1 .h8 false d25 (.op (.mv r0)),
 .g .h1 .h8 false d26 (.op (.mv r3)),
 .g .h1 .h8 false d27 (.op (.idxs r25 r26)),
 .g .h1 .h8 false d28 (.op (.bin .gt r27 (.c (.int .u8 (.ofNat 122))))),
 o d29 (.pick r24 (.c (.bool true)) r28)]) (.ag k119_5 .skip)))) (.ag k119_6 .skip)))))) (.ag k119_7 .skip))))
def f119:AF:=.mk x119 [.t .h0 .h2]
def k120_0:KF:=K2 y0 y1 fun c i x h a b=>
 B 9 b h fun d h=>
 C c 188 [a,(.fn 189 [d])] h fun e h=>
 tR (Bu false [e,i0] h) fun f h=>
 tR (fm e i0 h) fun g h=>
 .ret (T49 f g) h
def x120:AC:=(.ag k120_0 .skip)
def f120:AF:=.mk x120 [.t .h0 .h4,.t .h0 .h5]
def x121:AC:=b121
def f121:AF:=.mk x121 []
def x122:AC:=b122
def f122:AF:=.mk x122 [.t .h0 .h2]
def x123:AC:=b123
def f123:AF:=.mk x123 [.t .h0 .h2]
def k126_2:KF:=K4 y0 y1 y7 y8 fun c i x h a b d e=>
 Y e d h fun f h=>
 I f (X 2 a e h fun g h=>
 M 2 g h fun j h=>
 tT (cd c b [j] h) fun k h=>
 I k (.ret (T9 e) h) (D e i1 h fun l h=>
 .nm (T62 a b d l) h)) (.ex 0 (T62 a b d e) h)
def k126_1:KF:=K2 y0 y1 fun c i x h a b=>
 G a h fun d h=>
 x (T62 a b d i0) h
def k126_3:KF:=fun c i x r h=>
 .ret (T9 (ni 0)) h
def k126_0:KF:=K2 y0 y1 fun c i x h a b=>
 x (T20 a b) h
def x126:AC:=(.ag k126_0 (.seq (.ag k126_1 (.block 0 (.loop (.ag k126_2 .skip)))) (.ag k126_3 .skip)))
def f126:AF:=.mk x126 [.t .h0 .h4]
def x127:AC:=b127
def f127:AF:=.mk x127 [.t .h0 .h3]
def x128:AC:=b128
def f128:AF:=.mk x128 [.t .h0 .h4]
def x129:AC:=b129
def f129:AF:=.mk x129 [.t .h0 .h2]
def x130:AC:=b130
def f130:AF:=.mk x130 [.t .h0 .h2]
def x131:AC:=b131
def f131:AF:=.mk x131 [.t .h0 .h2]
def k132_1:KF:=K2 y3 y23 fun c i x h a b=>
 I b (.ret (T3 iS) h) (.nm (T47 a) h)
def k132_2:KF:=K1 y3 fun c i x h a=>
 .ret (T3 a) h
def k132_0:KF:=K1 y0 fun c i x h a=>
 B 131 a h fun b h=>
 M 8 b h fun d h=>
 C c 138 [d] h fun e h=>
 C c 137 [e] h fun f h=>
 C c 91 [f] h fun g h=>
 E 0 g h fun j h=>
 E 1 g h fun k h=>
 E 2 g h fun l h=>
 O 131 8 (.k1 (Y8 i0 iS .ah .ah .ah .ah .ah .ah)) h fun m h=>
 S 8 m j h fun n h=>
 x (T102 b f m k) h
def x132:AC:=(.ag k132_0 (.seq (.seq (.ops [m d16 r5,
 o d17 (.bin .ne r16 a0),
 m d18 r17,
 .g .h1 .h2 false d19 (.op (.cV 8 r1)),
 .g .h1 .h2 false d20 (.op (.cV 8 r4)),
 .g .h1 .h2 false d21 (.call 203 [r19,r20]),
 .g .h1 .h2 false d22 (.op (.un .not r21)),
 o d23 (.pick r18 (.c (.bool true)) r22)]) (.ag k132_1 .skip)) (.ag k132_2 .skip)))
def f132:AF:=.mk x132 [.t .h0 .h2]
def x133:AC:=b133
def f133:AF:=.mk x133 []
def x134:AC:=b134
def f134:AF:=.mk x134 [.t .h0 .h4]
def k135_9:KF:=K4 y0 y2 y5 y121 fun c i x h a b d e=>
 I e (U [i0,iS,i0,.ah,i0] [] h fun f h=>
 tR (dI a h) fun g h=>
 S 5 b f h fun j h=>
 .ret (T4 b (pi 10) g) h) (.nm (T89 b d) h)
def k135_10:KF:=K2 y2 y5 fun c i x h a b=>
 J b h fun d h=>
 A 2 d h fun e h=>
 L e h fun f h=>
 X 5 f i0 h fun g h=>
 M 5 g h fun j h=>
 S 5 a j h fun k h=>
 .ret (T4 a i0 i0) h
def k135_8:KF:=K2 y2 y6 fun c i x h a b=>
 U [i0,iS,i0,.ah,i0] [] h fun d h=>
 S 5 a d h fun e h=>
 .ret (T4 a (pi 12) b) h
def k135_7:KF:=K4 y0 y2 y5 y6 fun c i x h a b d e=>
 J d h fun f h=>
 A 1 f h fun g h=>
 L g h fun j h=>
 G j h fun k h=>
 tR (fH k i0 h) fun l h=>
 I l (J d h fun m h=>
 A 1 m h fun n h=>
 L n h fun o h=>
 Z k i1 h fun p h=>
 X 5 o p h fun q h=>
 M 5 q h fun s h=>
 O 219 5 (.k1 (Y5 i0 iS i0 .ah i0)) h fun t h=>
 S 5 t s h fun v h=>
 J d h fun w h=>
 A 1 w h fun y h=>
 L y h fun z h=>
 Z k i1 h fun a0 h=>
 tR (cq 5 (.c z) .none (.some (.c a0)) .none .nil h) fun a1 h=>
 J d h fun a2 h=>
 A 1 a2 h fun a3 h=>
 W a3 a1 h fun a4 h=>
 M 5 t h fun a5 h=>
 C c 206 [d,a5] h fun a6 h=>
 D e i1 h fun a7 h=>
 .go 1 (T129 a b d a7) h) (x (T131 b e) h)
def k135_6:KF:=K4 y0 y2 y5 y6 fun c i x h a b d e=>
 D e i1 h fun f h=>
 .go 1 (T129 a b d f) h
def k135_5:KF:=K4 y0 y2 y5 y6 fun c i x h a b d e=>
 J d h fun f h=>
 A 1 f h fun g h=>
 L g h fun j h=>
 G j h fun k h=>
 tR (fm k (pi 12) h) fun l h=>
 I l (U [i0,iS,i0,.ah,i0] [] h fun m h=>
 S 5 b m h fun n h=>
 .ret (T4 b (pi 14) e) h) (C c 207 [d] h fun m h=>
 I m (U [i0,iS,i0,.ah,i0] [] h fun n h=>
 S 5 b n h fun o h=>
 .ret (T4 b (pi 11) e) h) (x (T129 a b d e) h))
def k135_4:KF:=K4 y0 y2 y5 y6 fun c i x h a b d e=>
 C c 205 [d,e] h fun f h=>
 E 0 f h fun g h=>
 E 1 f h fun j h=>
 E 2 f h fun k h=>
 E 3 f h fun l h=>
 O 219 5 (.k1 (Y5 i0 iS i0 .ah i0)) h fun m h=>
 S 5 m g h fun n h=>
 tR (bU k i0 h) fun o h=>
 I o (U [i0,iS,i0,.ah,i0] [] h fun p h=>
 S 5 b p h fun q h=>
 .ret (T4 b k l) h) (M 5 m h fun p h=>
 C c 206 [d,p] h fun q h=>
 x (T129 a b d j) h)
def k135_3:KF:=K4 y0 y2 y5 y6 fun c i x h a b d e=>
 tR (eh (.c a) (.c e) .nil h) fun f h=>
 Q f (.int .u8 (.ofNat 32)) h fun g h=>
 I g (I g (D e i1 h fun j h=>
 .go 1 (T129 a b d j) h) (Q f (.int .u8 (.ofNat 40)) h fun j h=>
 I j (.go 2 (T129 a b d e) h) (Q f (.int .u8 (.ofNat 41)) h fun k h=>
 I k (.go 3 (T129 a b d e) h) (x (T129 a b d e) h)))) (Q f (.int .u8 (.ofNat 10)) h fun j h=>
 I j (D e i1 h fun k h=>
 .go 1 (T129 a b d k) h) (Q f (.int .u8 (.ofNat 40)) h fun k h=>
 I k (.go 2 (T129 a b d e) h) (Q f (.int .u8 (.ofNat 41)) h fun l h=>
 I l (.go 3 (T129 a b d e) h) (x (T129 a b d e) h))))
def k135_2:KF:=K4 y0 y2 y5 y6 fun c i x h a b d e=>
 tR (dI a h) fun f h=>
 tR (fm e f h) fun g h=>
 I g (.go 0 (T130 a b d) h) (x (T129 a b d e) h)
def k135_1:KF:=K2 y0 y2 fun c i x h a b=>
 tR (dI a h) fun d h=>
 tR (fH d (pi 600) h) fun e h=>
 I e (U [i0,iS,i0,.ah,i0] [] h fun f h=>
 S 5 b f h fun g h=>
 .ret (T4 b (pi 3) i0) h) (U [iS,.ah,.ah] [.mk 0 1 (.c a)] h fun f h=>
 B 293 f h fun g h=>
 x (T129 a b g i0) h)
def k135_0:KF:=K1 y0 fun c i x h a=>
 O 219 5 (.k1 (Y5 i0 iS i0 .ah i0)) h fun b h=>
 x (T128 a b) h
def x135:AC:=(.ag k135_0 (.scope (.ag k135_1 (.seq (.label 1) (.ag k135_2 (.ag k135_3 (.ag k135_4 (.seq (.goto 1) (.seq (.label 2) (.ag k135_5 (.seq (.alt (.da [w (o d72 (.aU 219 5 1 [i0,iS,i0,.ah,i0] [.mk 0 5 (.c (.agg [i0,iS,i0,.ah,i0]))])),
 q 1 (m d65 r5),
 qj 1 d66 r65,
 qf 1 d67 1 r66,
 ql 1 d68 r67,
 q 1 (m d69 r6),
 q 1 (o d70 (.build [i0,iS,i0,.ah,i0] [.mk 0 1 a1,.mk 4 1 r69])),
 q 1 (o d71 (.len r68)),
 w (o d73 (.app 219 5 r68 r72)),
 q 0 (o d74 (.bF 5 r73 r71)),
 w (o .no (.gS 5 r74 r70)),
 qj 1 d75 r65,
 qf 1 d76 1 r75,
 w (os r76 r73)])
 (.da [w (o d72 (.aU 219 5 1 [i0,iS,i0,.ah,i0] [.mk 0 5 (.c (.agg [i0,iS,i0,.ah,i0]))])),
 q 1 (m d65 r5),
 qj 1 d66 r65,
 qf 1 d67 1 r66,
 ql 1 d68 r67,
 q 1 (m d69 r6),
 q 1 (o d70 (.build [i0,iS,i0,.ah,i0] [.mk 0 1 a1,.mk 4 1 r69])),
 q 1 (o d71 (.len r68)),
 w (o d73 (.app 219 5 r68 r72)),
 qj 0 d75 r65,
 qf 0 d76 1 r75,
 w (os r76 r73),
 q 1 (o d74 (.bF 5 r73 r71)),
 w (o .no (.gS 5 r74 r70))])) (.ag k135_6 (.seq (.label 3) (.ag k135_7 (.ag k135_8 (.seq (.label 0) (.seq (.seq (.ops [m d111 r5,
 oj d112 r111,
 of d113 1 r112,
 ol d114 r113,
 o d115 (.len r114),
 o d116 (.bin .gt r115 a0),
 m d117 r116,
 .g .h7 .h5 false d118 (.op (.mv r5)),
 .g .h7 .h5 false d119 (.call 207 [r118]),
 .g .h7 .h5 false d120 (.op (.un .not r119)),
 o d121 (.pick r117 (.c (.bool true)) r120)]) (.ag k135_9 .skip)) (.ag k135_10 .skip))))))))))))))))))
def f135:AF:=.Dy x135 [.agg 5 .h0 .h2,.t .h0 .h3,.t .h0 .h4]
def k136_3:KF:=K4 y0 y3 y4 y5 fun c i x h a b d e=>
 A 3 b h fun f h=>
 L f h fun g h=>
 X 5 g i1 h fun j h=>
 M 5 j h fun k h=>
 C c 209 [a,k] h fun l h=>
 A 1 e h fun m h=>
 W m l h fun n h=>
 M 8 e h fun o h=>
 S 8 d o h fun p h=>
 .ret (T9 d) h
def k136_5:KF:=K6 y0 y3 y4 y5 y6 y7 fun c i x h a b d e f g=>
 A 3 b h fun j h=>
 L j h fun k h=>
 X 5 k i1 h fun l h=>
 M 5 l h fun m h=>
 C c 210 [a,m] h fun n h=>
 tR (bs 299 4 1 [i0,iS,i0,.ah] [.mk 0 4 (.c n)] h) fun o h=>
 A 2 e h fun p h=>
 W p o h fun q h=>
 .nm (T79 a b d e f g) h
def k136_9:KF:=K9 y0 y3 y4 y5 y6 y7 y53 y54 y55 fun c i x h a b d e f g j k l=>
 X 5 j l h fun m h=>
 M 5 m h fun n h=>
 O 219 5 (.k1 (Y5 i0 iS i0 .ah i0)) h fun o h=>
 S 5 o n h fun p h=>
 x (T137 a b d e f g o j k l) h
def k136_10:KF:=K9 y0 y3 y4 y5 y6 y7 y53 y54 y55 fun c i x h a b d e f g j k l=>
 D l i1 h fun m h=>
 .nm (T136 a b d e f g j k m) h
def k136_8:KF:=K9 y0 y3 y4 y5 y6 y7 y53 y54 y55 fun c i x h a b d e f g j k l=>
 Y l k h fun m h=>
 I m (x (T136 a b d e f g j k l) h) (.ex 1 (T79 a b d e f g) h)
def k136_7:KF:=K6 y0 y3 y4 y5 y6 y7 fun c i x h a b d e f g=>
 A 3 b h fun j h=>
 L j h fun k h=>
 Z f i1 h fun l h=>
 tR (cq 5 (.c k) (.some (.c i1)) (.some (.c l)) .none .nil h) fun m h=>
 G m h fun n h=>
 x (T136 a b d e f g m n i0) h
def k136_12:KF:=K5 y0 y3 y4 y5 y6 fun c i x h a b d e f=>
 .nm (T79 a b d e f (pi 2)) h
def k136_14:KF:=K5 y0 y3 y4 y5 y6 fun c i x h a b d e f=>
 .nm (T79 a b d e f (pi 2)) h
def k136_19:KF:=K9 y0 y3 y4 y5 y6 y7 y118 y119 y120 fun c i x h a b d e f g j k l=>
 X 5 j l h fun m h=>
 M 5 m h fun n h=>
 O 219 5 (.k1 (Y5 i0 iS i0 .ah i0)) h fun o h=>
 S 5 o n h fun p h=>
 x (T143 a b d e f g o j k l) h
def k136_20:KF:=K9 y0 y3 y4 y5 y6 y7 y118 y119 y120 fun c i x h a b d e f g j k l=>
 D l i1 h fun m h=>
 .nm (T142 a b d e f g j k m) h
def k136_18:KF:=K9 y0 y3 y4 y5 y6 y7 y118 y119 y120 fun c i x h a b d e f g j k l=>
 Y l k h fun m h=>
 I m (x (T142 a b d e f g j k l) h) (.ex 3 (T79 a b d e f g) h)
def k136_17:KF:=K6 y0 y3 y4 y5 y6 y7 fun c i x h a b d e f g=>
 A 3 b h fun j h=>
 L j h fun k h=>
 X 5 k i1 h fun l h=>
 A 3 l h fun m h=>
 L m h fun n h=>
 C c 211 [a,n] h fun o h=>
 A 4 e h fun p h=>
 W p o h fun q h=>
 A 3 b h fun s h=>
 L s h fun t h=>
 Z f i1 h fun v h=>
 tR (cq 5 (.c t) (.some (.c (pi 2))) (.some (.c v)) .none .nil h) fun w h=>
 G w h fun y h=>
 x (T142 a b d e f g w y i0) h
def k136_21:KF:=K4 y0 y3 y4 y5 fun c i x h a b d e=>
 A 4 b h fun f h=>
 L f h fun g h=>
 C c 139 [a,(pi 12),g] h fun j h=>
 M 8 e h fun k h=>
 S 8 d k h fun l h=>
 .ret (T9 d) h
def k136_16:KF:=K7 y0 y3 y4 y5 y6 y7 y21 fun c i x h a b d e f g j=>
 Q j (pi 7) h fun k h=>
 x (T141 a b d e f g k) h
def k136_15:KF:=K7 y0 y3 y4 y5 y6 y7 y21 fun c i x h a b d e f g j=>
 Q j (pi 6) h fun k h=>
 x (T140 a b d e f g j k) h
def k136_13:KF:=K7 y0 y3 y4 y5 y6 y7 y21 fun c i x h a b d e f g j=>
 Q j (pi 5) h fun k h=>
 x (T139 a b d e f g j k) h
def k136_11:KF:=K7 y0 y3 y4 y5 y6 y7 y21 fun c i x h a b d e f g j=>
 Q j (pi 4) h fun k h=>
 x (T138 a b d e f g j k) h
def k136_6:KF:=K7 y0 y3 y4 y5 y6 y7 y21 fun c i x h a b d e f g j=>
 Q j (pi 3) h fun k h=>
 x (T135 a b d e f g j k) h
def k136_4:KF:=K7 y0 y3 y4 y5 y6 y7 y21 fun c i x h a b d e f g j=>
 Q j (pi 2) h fun k h=>
 x (T134 a b d e f g j k) h
def k136_2:KF:=K7 y0 y3 y4 y5 y6 y7 y21 fun c i x h a b d e f g j=>
 Q j i1 h fun k h=>
 x (T133 a b d e f g j k) h
def k136_1:KF:=K6 y0 y3 y4 y5 y6 y7 fun c i x h a b d e f g=>
 A 0 e h fun j h=>
 L j h fun k h=>
 x (T132 a b d e f g k) h
def k136_24:KF:=K6 y0 y4 y5 y138 y139 y140 fun c i x h a b d e f g=>
 X 5 e g h fun j h=>
 M 5 j h fun k h=>
 O 219 5 (.k1 (Y5 i0 iS i0 .ah i0)) h fun l h=>
 S 5 l k h fun m h=>
 x (T145 a b d l e f g) h
def k136_25:KF:=K6 y0 y4 y5 y138 y139 y140 fun c i x h a b d e f g=>
 D g i1 h fun j h=>
 .nm (T144 a b d e f j) h
def k136_23:KF:=K6 y0 y4 y5 y138 y139 y140 fun c i x h a b d e f g=>
 Y g f h fun j h=>
 I j (x (T144 a b d e f g) h) (.ex 5 (T49 b d) h)
def k136_22:KF:=K6 y0 y3 y4 y5 y6 y7 fun c i x h a b d e f g=>
 A 3 b h fun j h=>
 L j h fun k h=>
 Z f g h fun l h=>
 tR (cq 5 (.c k) (.some (.c l)) .none .none .nil h) fun m h=>
 G m h fun n h=>
 x (T144 a d e m n i0) h
def k136_26:KF:=K2 y4 y5 fun c i x h a b=>
 M 8 b h fun d h=>
 S 8 a d h fun e h=>
 .ret (T9 a) h
def k136_0:KF:=K2 y0 y1 fun c i x h a b=>
 B 219 b h fun d h=>
 O 131 8 (.k1 (Y8 i0 iS .ah .ah .ah .ah .ah .ah)) h fun e h=>
 M 5 d h fun f h=>
 C c 208 [f] h fun g h=>
 U [i0,iS,.ah,.ah,.ah,.ah,.ah,.ah] [.mk 0 1 (.c g)] h fun j h=>
 O 131 8 (.k1 (Y8 i0 iS .ah .ah .ah .ah .ah .ah)) h fun k h=>
 S 8 k j h fun l h=>
 A 3 d h fun m h=>
 L m h fun n h=>
 G n h fun o h=>
 x (T79 a d e k o i1) h
def x136:AC:=(.ag k136_0 (.seq (.ag k136_1 (.block 0 (.ag k136_2 (.cond r27 (.ag k136_3 .skip) (.ag k136_4 (.cond r37 (.ag k136_5 .skip) (.ag k136_6 (.cond r47 (.ag k136_7 (.block 1 (.loop (.ag k136_8 (.seq (.block 2 (.ag k136_9 (.seq (.da [q 0 (m d61 r0),
 qf 0 d62 3 r9,
 ql 0 d63 r62,
 q 0 (o d64 (.bF 5 r63 a0)),
 q 0 (o d65 (.cV 5 r64)),
 w (oc d66 209 [r61,r65]),
 w (o d67 (.aU 9 1 1 [iS] [.mk 0 1 r66])),
 qf 2 d59 3 r5,
 ql 2 d60 r59,
 w (o d68 (.app 9 1 r60 r67)),
 qf 0 d69 3 r5,
 w (os r69 r68)]) (.da [q 0 (m d72 r0),
 qf 0 d73 3 r9,
 ql 0 d74 r73,
 q 0 (o d75 (.bF 5 r74 a1)),
 q 0 (o d76 (.cV 5 r75)),
 w (oc d77 210 [r72,r76]),
 w (o d78 (.aU 299 4 1 [i0,iS,i0,.ah] [.mk 0 4 r77])),
 qf 2 d70 2 r5,
 ql 2 d71 r70,
 w (o d79 (.app 299 4 r71 r78)),
 qf 0 d80 2 r5,
 w (os r80 r79)])))) (.ag k136_10 .skip)))))) (.ag k136_11 (.cond r82 (.seq (.da [q 0 (m d84 r0),
 qf 0 d85 3 r3,
 ql 0 d86 r85,
 q 0 (o d87 (.bF 5 r86 a1)),
 qf 0 d88 3 r87,
 ql 0 d89 r88,
 w (oc d90 211 [r84,r89]),
 q 1 (m d91 r0),
 qf 1 d92 3 r3,
 ql 1 d93 r92,
 q 1 (o d94 (.bF 5 r93 a2)),
 qf 1 d95 3 r94,
 ql 1 d96 r95,
 w (oc d97 211 [r91,r96]),
 qf 1 d98 4 r5,
 w (os r98 r90),
 qf 0 d99 5 r5,
 w (os r99 r97)]) (.ag k136_12 .skip)) (.ag k136_13 (.cond r100 (.ag k136_14 .skip) (.ag k136_15 (.cond r102 .skip (.ag k136_16 (.cond r104 (.ag k136_17 (.block 3 (.loop (.ag k136_18 (.seq (.block 4 (.ag k136_19 (.da [q 0 (m d126 r0),
 q 0 (o d127 (.cV 5 r11)),
 w (oc d128 212 [r126,r127]),
 w (o d129 (.aU 303 3 1 [iS,iS,iS] [.mk 0 3 r128])),
 qf 2 d124 6 r5,
 ql 2 d125 r124,
 w (o d130 (.app 303 3 r125 r129)),
 qf 0 d131 6 r5,
 w (os r131 r130)]))) (.ag k136_20 .skip)))))) (.ag k136_21 .skip))))))))))))))))) (.seq (.ag k136_22 (.block 5 (.loop (.ag k136_23 (.seq (.block 6 (.ag k136_24 (.da [q 0 (m d146 r0),
 q 0 (o d147 (.cV 5 r13)),
 w (oc d148 136 [r146,r147]),
 w (o d149 (.aU 131 8 1 [i0,iS,.ah,.ah,.ah,.ah,.ah,.ah] [.mk 0 8 r148])),
 qf 2 d144 7 r5,
 ql 2 d145 r144,
 w (o d150 (.app 131 8 r145 r149)),
 qf 0 d151 7 r5,
 w (os r151 r150)]))) (.ag k136_25 .skip)))))) (.ag k136_26 .skip))))
def f136:AF:=.mk x136 [.agg 8 .h0 .h4]
def k137_5:KF:=K4 y3 y11 y12 y13 fun c i x h a b d e=>
 Y e d h fun f h=>
 I f (X 5 b e h fun g h=>
 M 5 g h fun j h=>
 O 219 5 (.k1 (Y5 i0 iS i0 .ah i0)) h fun k h=>
 S 5 k j h fun l h=>
 M 5 k h fun m h=>
 C c 137 [m] h fun n h=>
 tR (bs 9 1 1 [iS] [.mk 0 1 (.c n)] h) fun o h=>
 tR (cW 9 1 a o h) fun p h=>
 D e i1 h fun q h=>
 .nm (T149 p b d q) h) (.ex 1 (T149 a b d e) h)
def k137_4:KF:=K2 y1 y3 fun c i x h a b=>
 A 3 a h fun d h=>
 L d h fun e h=>
 G e h fun f h=>
 x (T149 b e f i0) h
def k137_6:KF:=K1 y3 fun c i x h a=>
 C c 213 [a,(.str [32])] h fun b h=>
 tR (cA (.str [40]) b h) fun d h=>
 tR (cA d (.str [41]) h) fun e h=>
 .ret (T3 e) h
def k137_3:KF:=K1 y1 fun c i x h a=>
 x (T148 a .ah) h
def k137_7:KF:=K2 y1 y7 fun c i x h a b=>
 Q b (pi 2) h fun d h=>
 I d (A 1 a h fun e h=>
 L e h fun f h=>
 .ret (T3 f) h) (Q b (pi 3) h fun e h=>
 I e (A 2 a h fun f h=>
 L f h fun g h=>
 C c 214 [g,(pi 10)] h fun j h=>
 .ret (T3 j) h) (Q b (pi 4) h fun f h=>
 I f (A 1 a h fun g h=>
 L g h fun j h=>
 C c 216 [j] h fun k h=>
 C c 215 [k] h fun l h=>
 .ret (T3 l) h) (.nm T17 h)))
def k137_2:KF:=K2 y1 y7 fun c i x h a b=>
 Q b i1 h fun d h=>
 x (T147 a b d) h
def k137_1:KF:=K1 y1 fun c i x h a=>
 A 0 a h fun b h=>
 L b h fun d h=>
 x (T146 a d) h
def k137_8:KF:=fun c i x r h=>
 .ret (T3 iS) h
def k137_0:KF:=K1 y0 fun c i x h a=>
 B 219 a h fun b h=>
 x (T1 b) h
def x137:AC:=(.ag k137_0 (.seq (.ag k137_1 (.block 0 (.ag k137_2 (.cond r8 (.ag k137_3 (.seq (.ag k137_4 (.block 1 (.loop (.ag k137_5 .skip)))) (.ag k137_6 .skip))) (.ag k137_7 .skip))))) (.ag k137_8 .skip)))
def f137:AF:=.mk x137 [.t .h0 .h2]
def k138_1:KF:=K4 y1 y2 y3 y22 fun c i x h a b d e=>
 I e (U [i0,iS,i0,.ah,i0] [] h fun f h=>
 S 5 b f h fun g h=>
 .ret (T3 b) h) (.nm (T150 a b d) h)
def k138_8:KF:=K6 y1 y2 y4 y47 y48 y49 fun c i x h a b d e f g=>
 X 4 e g h fun j h=>
 M 4 j h fun k h=>
 O 299 4 (.k1 (Y4 i0 iS i0 .ah)) h fun l h=>
 S 4 l k h fun m h=>
 x (T156 a b d l e f g) h
def k138_9:KF:=K6 y1 y2 y4 y47 y48 y49 fun c i x h a b d e f g=>
 D g i1 h fun j h=>
 .nm (T155 a b d e f j) h
def k138_7:KF:=K6 y1 y2 y4 y47 y48 y49 fun c i x h a b d e f g=>
 Y g f h fun j h=>
 I j (x (T155 a b d e f g) h) (.ex 1 (T151 a b d) h)
def k138_6:KF:=K3 y1 y2 y4 fun c i x h a b d=>
 A 2 a h fun e h=>
 L e h fun f h=>
 G f h fun g h=>
 x (T155 a b d f g i0) h
def k138_13:KF:=K6 y1 y2 y4 y64 y65 y66 fun c i x h a b d e f g=>
 X 1 e g h fun j h=>
 L j h fun k h=>
 A 2 a h fun l h=>
 L l h fun m h=>
 G m h fun n h=>
 Y g n h fun o h=>
 x (T159 a b d g k e f g o) h
def k138_14:KF:=K6 y1 y2 y4 y64 y65 y66 fun c i x h a b d e f g=>
 D g i1 h fun j h=>
 .nm (T158 a b d e f j) h
def k138_12:KF:=K6 y1 y2 y4 y64 y65 y66 fun c i x h a b d e f g=>
 Y g f h fun j h=>
 I j (x (T158 a b d e f g) h) (.ex 3 (T151 a b d) h)
def k138_11:KF:=K3 y1 y2 y4 fun c i x h a b d=>
 A 3 a h fun e h=>
 L e h fun f h=>
 G f h fun g h=>
 x (T158 a b d f g i0) h
def k138_19:KF:=K6 y1 y2 y4 y116 y117 y118 fun c i x h a b d e f g=>
 X 3 e g h fun j h=>
 M 3 j h fun k h=>
 O 303 3 (.k1 (Y3 iS iS iS)) h fun l h=>
 S 3 l k h fun m h=>
 A 0 l h fun n h=>
 L n h fun o h=>
 A 1 l h fun p h=>
 L p h fun q h=>
 tR (bs 9 1 2 [iS,iS] [.mk 0 1 (.c o),.mk 1 1 (.c q)] h) fun s h=>
 A 1 l h fun t h=>
 L t h fun v h=>
 tR (pG v (.str [99,111,117,110,116]) h) fun w h=>
 I w (A 2 l h fun y h=>
 L y h fun z h=>
 tR (bs 9 1 1 [iS] [.mk 0 1 (.c z)] h) fun a0 h=>
 tR (cW 9 1 s a0 h) fun a1 h=>
 x (T163 a b d a1 e f g) h) (x (T163 a b d s e f g) h)
def k138_20:KF:=K6 y1 y2 y4 y116 y117 y118 fun c i x h a b d e f g=>
 D g i1 h fun j h=>
 .nm (T162 a b d e f j) h
def k138_18:KF:=K6 y1 y2 y4 y116 y117 y118 fun c i x h a b d e f g=>
 Y g f h fun j h=>
 I j (x (T162 a b d e f g) h) (.ex 5 (T151 a b d) h)
def k138_17:KF:=K3 y1 y2 y4 fun c i x h a b d=>
 A 6 a h fun e h=>
 L e h fun f h=>
 G f h fun g h=>
 x (T162 a b d f g i0) h
def k138_16:KF:=K4 y1 y2 y4 y33 fun c i x h a b d e=>
 Q e (pi 7) h fun f h=>
 x (T161 a b d f) h
def k138_15:KF:=K4 y1 y2 y4 y33 fun c i x h a b d e=>
 Q e (pi 4) h fun f h=>
 x (T160 a b d e f) h
def k138_10:KF:=K4 y1 y2 y4 y33 fun c i x h a b d e=>
 Q e (pi 3) h fun f h=>
 x (T157 a b d e f) h
def k138_5:KF:=K4 y1 y2 y4 y33 fun c i x h a b d e=>
 Q e (pi 2) h fun f h=>
 x (T154 a b d e f) h
def k138_4:KF:=K4 y1 y2 y4 y33 fun c i x h a b d e=>
 Q e i1 h fun f h=>
 x (T153 a b d e f) h
def k138_3:KF:=K3 y1 y2 y4 fun c i x h a b d=>
 A 0 a h fun e h=>
 L e h fun f h=>
 x (T152 a b d f) h
def k138_23:KF:=K5 y2 y4 y144 y145 y146 fun c i x h a b d e f=>
 X 8 d f h fun g h=>
 M 8 g h fun j h=>
 O 131 8 (.k1 (Y8 i0 iS .ah .ah .ah .ah .ah .ah)) h fun k h=>
 S 8 k j h fun l h=>
 x (T166 a b k d e f) h
def k138_24:KF:=K5 y2 y4 y144 y145 y146 fun c i x h a b d e f=>
 D f i1 h fun g h=>
 .nm (T164 a b d e g) h
def k138_22:KF:=K5 y2 y4 y144 y145 y146 fun c i x h a b d e f=>
 Y f e h fun g h=>
 I g (x (T164 a b d e f) h) (.ex 7 (T165 a b) h)
def k138_21:KF:=K3 y1 y2 y4 fun c i x h a b d=>
 A 7 a h fun e h=>
 L e h fun f h=>
 G f h fun g h=>
 x (T164 b d f g i0) h
def k138_25:KF:=K2 y2 y4 fun c i x h a b=>
 M 5 b h fun d h=>
 S 5 a d h fun e h=>
 .ret (T3 a) h
def k138_2:KF:=K3 y1 y2 y3 fun c i x h a b d=>
 A 0 a h fun e h=>
 L e h fun f h=>
 X 1 d f h fun g h=>
 L g h fun j h=>
 C c 218 [j] h fun k h=>
 tR (bs 219 5 1 [i0,iS,i0,.ah,i0] [.mk 0 5 (.c k)] h) fun l h=>
 C c 217 [l] h fun m h=>
 O 219 5 (.k1 (Y5 i0 iS i0 .ah i0)) h fun n h=>
 S 5 n m h fun o h=>
 x (T151 a b n) h
def k138_0:KF:=K1 y0 fun c i x h a=>
 B 131 a h fun b h=>
 O 219 5 (.k1 (Y5 i0 iS i0 .ah i0)) h fun d h=>
 tR (bs 9 1 8 [iS,iS,iS,iS,iS,iS,iS,iS] [.mk 0 1 (.c iS),.mk 1 1 (.c (.str [116,97,98,108,101])),.mk 2 1 (.c (.str [102,105,108,116,101,114])),.mk 3 1 (.c (.str [112,114,111,106,101,99,116])),.mk 4 1 (.c (.str [106,111,105,110])),.mk 5 1 (.c (.str [117,110,105,111,110])),.mk 6 1 (.c (.str [100,105,115,116,105,110,99,116])),.mk 7 1 (.c (.str [103,114,111,117,112]))] h) fun e h=>
 x (T150 b d e) h
def x138:AC:=(.ag k138_0 (.seq (.seq (.ops [of d15 0 r1,
 ol d16 r15,
 o d17 (.bin .lt r16 a1),
 m d18 r17,
 .g .h1 .h2 false d19 (.op (.br 0 r1)),
 .g .h1 .h2 false d20 (.op (.bq r19)),
 .g .h1 .h2 false d21 (.op (.bin .gt r20 (.c (pi 7)))),
 o d22 (.pick r18 (.c (.bool true)) r21)]) (.ag k138_1 .skip)) (.ag k138_2 (.seq (.ag k138_3 (.block 0 (.ag k138_4 (.cond r34 (.da [qf 0 d38 1 r1,
 ql 0 d39 r38,
 w (oc d40 218 [r39]),
 w (o d41 (.aU 219 5 1 [i0,iS,i0,.ah,i0] [.mk 0 5 r40])),
 qf 2 d36 3 r4,
 ql 2 d37 r36,
 w (o d42 (.app 219 5 r37 r41)),
 qf 0 d43 3 r4,
 w (os r43 r42)]) (.ag k138_5 (.cond r44 (.ag k138_6 (.block 1 (.loop (.ag k138_7 (.seq (.block 2 (.ag k138_8 (.da [q 0 (o d55 (.cV 4 r6)),
 w (oc d56 219 [r55]),
 w (o d57 (.aU 219 5 1 [i0,iS,i0,.ah,i0] [.mk 0 5 r56])),
 qf 2 d53 3 r4,
 ql 2 d54 r53,
 w (o d58 (.app 219 5 r54 r57)),
 qf 0 d59 3 r4,
 w (os r59 r58)]))) (.ag k138_9 .skip)))))) (.ag k138_10 (.cond r61 (.ag k138_11 (.block 3 (.loop (.ag k138_12 (.seq (.block 4 (.ag k138_13 (.cond r75 (.da [q 0 (m d78 r8),
 w (oc d79 218 [r78]),
 qf 1 d80 2 r1,
 ql 1 d81 r80,
 q 1 (m d82 r7),
 q 1 (o d83 (.bF 4 r81 r82)),
 q 1 (o d84 (.cV 4 r83)),
 w (oc d85 219 [r84]),
 w (o d86 (.aU 219 5 2 [i0,iS,i0,.ah,i0,i0,iS,i0,.ah,i0] [.mk 0 5 r79,.mk 5 5 r85])),
 w (oc d87 217 [r86]),
 w (o d88 (.aU 219 5 1 [i0,iS,i0,.ah,i0] [.mk 0 5 r87])),
 qf 5 d76 3 r4,
 ql 5 d77 r76,
 w (o d89 (.app 219 5 r77 r88)),
 qf 0 d90 3 r4,
 w (os r90 r89)]) .skip))) (.ag k138_14 .skip)))))) (.ag k138_15 (.cond r92 (.da [qf 0 d96 4 r1,
 ql 0 d97 r96,
 w (oc d98 220 [r97]),
 qf 1 d99 5 r1,
 ql 1 d100 r99,
 w (oc d101 220 [r100]),
 w (o d102 (.aU 219 5 2 [i0,iS,i0,.ah,i0,i0,iS,i0,.ah,i0] [.mk 0 5 r98,.mk 5 5 r101])),
 qf 3 d94 3 r4,
 ql 3 d95 r94,
 w (o d103 (.app 219 5 r95 r102)),
 qf 0 d104 3 r4,
 w (os r104 r103)]) (.ag k138_16 (.cond r105 (.seq (.da [qf 0 d109 4 r1,
 ql 0 d110 r109,
 w (oc d111 220 [r110]),
 w (o d112 (.aU 219 5 1 [i0,iS,i0,.ah,i0] [.mk 0 5 r111])),
 qf 2 d107 3 r4,
 ql 2 d108 r107,
 w (o d113 (.app 219 5 r108 r112)),
 qf 0 d114 3 r4,
 w (os r114 r113)]) (.ag k138_17 (.block 5 (.loop (.ag k138_18 (.seq (.block 6 (.ag k138_19 (.da [q 0 (m d137 r11),
 w (oc d138 220 [r137]),
 w (o d139 (.aU 219 5 1 [i0,iS,i0,.ah,i0] [.mk 0 5 r138])),
 qf 2 d135 3 r4,
 ql 2 d136 r135,
 w (o d140 (.app 219 5 r136 r139)),
 qf 0 d141 3 r4,
 w (os r141 r140)]))) (.ag k138_20 .skip))))))) .skip)))))))))))) (.seq (.ag k138_21 (.block 7 (.loop (.ag k138_22 (.seq (.block 8 (.ag k138_23 (.da [q 0 (o d152 (.cV 8 r13)),
 w (oc d153 138 [r152]),
 w (o d154 (.aU 219 5 1 [i0,iS,i0,.ah,i0] [.mk 0 5 r153])),
 qf 2 d150 3 r4,
 ql 2 d151 r150,
 w (o d155 (.app 219 5 r151 r154)),
 qf 0 d156 3 r4,
 w (os r156 r155)]))) (.ag k138_24 .skip)))))) (.ag k138_25 .skip))))))
def f138:AF:=.mk x138 [.agg 5 .h0 .h2]
def x140:AC:=b140
def f140:AF:=.mk x140 [.t .h0 .h4]
def x141:AC:=b141
def f141:AF:=.mk x141 [.t .h0 .h3]
def x142:AC:=b142
def f142:AF:=.mk x142 [.t .h0 .h2]
def x143:AC:=b143
def f143:AF:=.mk x143 [.t .h0 .h4]
def x144:AC:=b144
def f144:AF:=.mk x144 []
def x145:AC:=b145
def f145:AF:=.mk x145 [.t .h0 .h2]
def x146:AC:=b146
def f146:AF:=.mk x146 [.t .h0 .h4]
def x147:AC:=b147
def f147:AF:=.mk x147 [.t .h0 .h4,.t .h0 .h5]
def x148:AC:=b148
def f148:AF:=.mk x148 [.t .h0 .h2]
def x149:AC:=b149
def f149:AF:=.mk x149 [.t .h0 .h4]
def x150:AC:=b150
def f150:AF:=.mk x150 [.t .h0 .h3]
def k151_2:KF:=K3 y0 y1 y6 fun c i x h a b d=>
 G a h fun e h=>
 Y d e h fun f h=>
 I f (X 2 a d h fun g h=>
 A 0 g h fun j h=>
 L j h fun k h=>
 tR (aC k b h) fun l h=>
 I l (.ret (T49 d (.bool true)) h) (D d i1 h fun m h=>
 .nm (T13 a b m) h)) (.ex 0 (T13 a b d) h)
def k151_1:KF:=K2 y0 y1 fun c i x h a b=>
 x (T13 a b i0) h
def k151_3:KF:=fun c i x r h=>
 .ret (T49 i0 (.bool false)) h
def k151_0:KF:=K2 y0 y1 fun c i x h a b=>
 x (T20 a b) h
def x151:AC:=(.ag k151_0 (.seq (.ag k151_1 (.block 0 (.loop (.ag k151_2 .skip)))) (.ag k151_3 .skip)))
def f151:AF:=.mk x151 [.t .h0 .h4,.t .h0 .h5]
def x152:AC:=b152
def f152:AF:=.mk x152 [.t .h0 .h2]
def k153_7:KF:=K5 y0 y2 y5 y6 y8 fun c i x h a b d e f=>
 tR (cq 5 (.c d) .none (.some (.c f)) .none .nil h) fun g h=>
 D e i1 h fun j h=>
 .ex 1 (T173 a b g j u f) h
def k153_6:KF:=K5 y0 y2 y5 y6 y8 fun c i x h a b d e f=>
 Q f i0 h fun g h=>
 I g (U [i0,iS,i0,.ah,i0] [] h fun j h=>
 S 5 b j h fun k h=>
 .ret (T4 b (pi 12) e) h) (x (T175 a b d e f) h)
def k153_5:KF:=K6 y0 y2 y5 y6 y7 y8 fun c i x h a b d e f g=>
 Q f (.int .u8 (.ofNat 41)) h fun j h=>
 x (T174 a b d e f g j) h
def k153_8:KF:=K7 y0 y2 y5 y6 y7 y8 y86 fun c i x h a b d e f g j=>
 I j (U [i0,iS,i0,.ah,i0] [] h fun k h=>
 S 5 b k h fun l h=>
 .ret (T4 b (pi 12) e) h) (.nm (T173 a b d e f g) h)
def k153_9:KF:=K7 y0 y2 y5 y6 y7 y8 y98 fun c i x h a b d e f g j=>
 I j (U [i0,iS,i0,.ah,i0] [] h fun k h=>
 S 5 b k h fun l h=>
 .ret (T4 b (pi 11) e) h) (.nm (T173 a b d e f g) h)
def k153_12:KF:=K4 y0 y2 y5 y10 fun c i x h a b d e=>
 .nm (T129 a b d e) h
def k153_11:KF:=K5 y0 y2 y5 y6 y8 fun c i x h a b d e f=>
 C c 232 [a,e] h fun g h=>
 E 0 g h fun j h=>
 E 1 g h fun k h=>
 E 2 g h fun l h=>
 E 3 g h fun m h=>
 O 241 5 (.k1 (Y5 i0 iS i0 .ah i0)) h fun n h=>
 S 5 n j h fun o h=>
 tR (bU l i0 h) fun p h=>
 I p (U [i0,iS,i0,.ah,i0] [] h fun q h=>
 S 5 b q h fun s h=>
 .ret (T4 b l m) h) (x (T176 a b d f n k) h)
def k153_10:KF:=K6 y0 y2 y5 y6 y7 y8 fun c i x h a b d e f g=>
 Q f (.int .u8 (.ofNat 40)) h fun j h=>
 I j (tR (fm g (pi 12) h) fun k h=>
 I k (U [i0,iS,i0,.ah,i0] [] h fun l h=>
 S 5 b l h fun m h=>
 .ret (T4 b (pi 14) e) h) (tR (bs 241 5 0 [] [] h) fun l h=>
 tR (cW 241 5 l d h) fun m h=>
 U [i0,iS,i0,.ah,i0] [.mk 0 1 (.c i1),.mk 4 1 (.c e)] h fun n h=>
 tR (bs 241 5 1 [i0,iS,i0,.ah,i0] [.mk 0 5 (.c n)] h) fun o h=>
 tR (cW 241 5 m o h) fun p h=>
 D e i1 h fun q h=>
 .ex 1 (T129 a b p q) h)) (x (T175 a b d e g) h)
def k153_4:KF:=K5 y0 y2 y5 y6 y7 fun c i x h a b d e f=>
 G d h fun g h=>
 Z g i1 h fun j h=>
 x (T173 a b d e f j) h
def k153_3:KF:=K5 y0 y2 y5 y6 y7 fun c i x h a b d e f=>
 Q f (.int .u8 (.ofNat 32)) h fun g h=>
 gD g false (fun j=>j f h) h fun j h=>
 gD g false (fun k=>Q j (.int .u8 (.ofNat 10)) h fun l h=>
 k l h) h fun k h=>
 tR (bQ (.c g) (.c (.bool true)) (.c k) .nil h) fun l h=>
 I l (D e i1 h fun m h=>
 .ex 1 (T129 a b d m) h) (x (T172 a b d e f) h)
def k153_2:KF:=K4 y0 y2 y5 y6 fun c i x h a b d e=>
 tR (eh (.c a) (.c e) .nil h) fun f h=>
 x (T172 a b d e f) h
def k153_1:KF:=K4 y0 y2 y5 y6 fun c i x h a b d e=>
 tR (dI a h) fun f h=>
 Y e f h fun g h=>
 I g (x (T129 a b d e) h) (.ex 0 (T130 a b d) h)
def k153_13:KF:=K4 y0 y2 y5 y154 fun c i x h a b d e=>
 I e (U [i0,iS,i0,.ah,i0] [] h fun f h=>
 tR (dI a h) fun g h=>
 S 5 b f h fun j h=>
 .ret (T4 b (pi 10) g) h) (.nm (T89 b d) h)
def k153_14:KF:=K2 y2 y5 fun c i x h a b=>
 X 5 b i0 h fun d h=>
 A 3 d h fun e h=>
 L e h fun f h=>
 X 5 f i0 h fun g h=>
 M 5 g h fun j h=>
 S 5 a j h fun k h=>
 .ret (T4 a i0 i0) h
def k153_0:KF:=K1 y0 fun c i x h a=>
 O 241 5 (.k1 (Y5 i0 iS i0 .ah i0)) h fun b h=>
 tR (dI a h) fun d h=>
 tR (fH d (pi 600) h) fun e h=>
 I e (U [i0,iS,i0,.ah,i0] [] h fun f h=>
 S 5 b f h fun g h=>
 .ret (T4 b (pi 3) i0) h) (U [i0,iS,i0,.ah,i0] [] h fun f h=>
 tR (bs 241 5 1 [i0,iS,i0,.ah,i0] [.mk 0 5 (.c f)] h) fun g h=>
 x (T129 a b g i0) h)
def x153:AC:=(.ag k153_0 (.seq (.block 0 (.loop (.ag k153_1 (.block 1 (.ag k153_2 (.ag k153_3 (.ag k153_4 (.seq (.ag k153_5 (.cond r38 (.ag k153_6 (.seq (.da [w (o d46 (.aU 241 5 0 [] [])),
 q 1 (m d47 r5),
 q 1 (m d48 r8),
 q 1 (o d49 (.bin .sub r48 a1)),
 q 1 (o d50 (.bF 5 r47 r49)),
 qf 1 d51 3 r50,
 ql 1 d52 r51,
 w (o d53 (.app 241 5 r46 r52)),
 q 2 (m d54 r5),
 q 2 (m d55 r8),
 q 2 (o d56 (.bF 5 r54 r55)),
 q 2 (o d57 (.cV 5 r56)),
 n (o d58 (.aU 241 5 1 [i0,iS,i0,.ah,i0] [.mk 0 5 r57])),
 w (o d59 (.app 241 5 r53 r58)),
 q 3 (m d43 r5),
 q 3 (m d44 r8),
 q 3 (o d45 (.bin .sub r44 a1)),
 q 0 (o d60 (.bF 5 r43 r45)),
 qf 0 d61 3 r60,
 w (os r61 r59)]) (.ag k153_7 .skip))) .skip)) (.seq (.seq (.ops [m d67 r7,
 o d68 (.bin .ne r67 (.c (.int .u8 (.ofNat 40)))),
 m d69 r68,
 .g .h4 .h5 true d70 (.op (.mv r7)),
 .g .h4 .h5 true d71 (.op (.bin .ne r70 (.c (.int .u8 (.ofNat 34))))),
 o d72 (.pick r69 r71 (.c (.bool false))),
 m d73 r72,
 .g .h4 .h9 true d74 (.op (.mv r7)),
 .g .h4 .h9 true d75 (.op (.bin .ne r74 (.c (.int .u8 (.ofNat 45))))),
 o d76 (.pick r73 r75 (.c (.bool false))),
 m d77 r76,
 .g .h4 .hd true d78 (.op (.mv r7)),
 .g .h4 .hd true d79 (.call 230 [r78]),
 .g .h4 .hd true d80 (.op (.un .not r79)),
 o d81 (.pick r77 r80 (.c (.bool false))),
 m d82 r81,
 .g .h5 .h2 true d83 (.op (.mv r7)),
 .g .h5 .h2 true d84 (.call 231 [r83]),
 .g .h5 .h2 true d85 (.op (.un .not r84)),
 o d86 (.pick r82 r85 (.c (.bool false)))]) (.ag k153_8 .skip)) (.seq (.seq (.ops [m d89 r8,
 o d90 (.bin .eq r89 a0),
 m d91 r90,
 .g .h5 .hb true d92 (.op (.mv r5)),
 .g .h5 .hb true d93 (.op (.bF 5 r92 a0)),
 .g .h5 .hb true d94 (.op (.br 3 r93)),
 .g .h5 .hb true d95 (.op (.bq r94)),
 .g .h5 .hb true d96 (.op (.len r95)),
 .g .h5 .hb true d97 (.op (.bin .gt r96 a0)),
 o d98 (.pick r91 r97 (.c (.bool false)))]) (.ag k153_9 .skip)) (.ag k153_10 (.ag k153_11 (.seq (.da [w (o d131 (.aU 241 5 0 [] [])),
 q 1 (m d132 r5),
 q 1 (m d133 r8),
 q 1 (o d134 (.bF 5 r132 r133)),
 qf 1 d135 3 r134,
 ql 1 d136 r135,
 w (o d137 (.app 241 5 r131 r136)),
 q 2 (o d138 (.cV 5 r9)),
 n (o d139 (.aU 241 5 1 [i0,iS,i0,.ah,i0] [.mk 0 5 r138])),
 w (o d140 (.app 241 5 r137 r139)),
 q 3 (m d129 r5),
 q 3 (m d130 r8),
 q 0 (o d141 (.bF 5 r129 r130)),
 qf 0 d142 3 r141,
 w (os r142 r140)]) (.ag k153_12 .skip)))))))))))))) (.seq (.seq (.ops [m d144 r5,
 o d145 (.len r144),
 o d146 (.bin .gt r145 a1),
 m d147 r146,
 .g .h9 .h3 false d148 (.op (.mv r5)),
 .g .h9 .h3 false d149 (.op (.bF 5 r148 a0)),
 .g .h9 .h3 false d150 (.op (.br 3 r149)),
 .g .h9 .h3 false d151 (.op (.bq r150)),
 .g .h9 .h3 false d152 (.op (.len r151)),
 .g .h9 .h3 false d153 (.op (.bin .eq r152 a0)),
 o d154 (.pick r147 (.c (.bool true)) r153)]) (.ag k153_13 .skip)) (.ag k153_14 .skip))))
def f153:AF:=.mk x153 [.agg 5 .h0 .h2,.t .h0 .h3,.t .h0 .h4]
def k154_1:KF:=K2 y1 y2 fun c i x h a b=>
 M 5 a h fun d h=>
 C c 233 [d] h fun e h=>
 tR (bG e h) fun f h=>
 x (T177 a b f) h
def k154_5:KF:=K4 y2 y5 y6 y9 fun c i x h a b d e=>
 A 0 b h fun f h=>
 W f i1 h fun g h=>
 X 5 d i1 h fun j h=>
 M 5 j h fun k h=>
 C c 235 [k] h fun l h=>
 E 0 l h fun m h=>
 E 1 l h fun n h=>
 E 2 l h fun o h=>
 A 1 b h fun p h=>
 W p m h fun q h=>
 .nm (T181 a b n o e) h
def k154_7:KF:=K3 y2 y5 y6 fun c i x h a b d=>
 A 0 b h fun e h=>
 W e (pi 2) h fun f h=>
 O 299 4 (.k1 (Y4 i0 iS i0 .ah)) h fun g h=>
 X 5 d i1 h fun j h=>
 M 5 j h fun k h=>
 C c 236 [k] h fun l h=>
 E 0 l h fun m h=>
 E 1 l h fun n h=>
 E 2 l h fun o h=>
 S 4 g m h fun p h=>
 M 4 g h fun q h=>
 tR (bs 299 4 1 [i0,iS,i0,.ah] [.mk 0 4 (.c q)] h) fun s h=>
 A 2 b h fun t h=>
 W t s h fun v h=>
 tR (cq 5 (.c d) (.some (.c (pi 2))) .none .none .nil h) fun w h=>
 .nm (T181 a b n o w) h
def k154_13:KF:=K6 y2 y5 y6 y7 y8 y11 fun c i x h a b d e f g=>
 D g i1 h fun j h=>
 .nm (T185 a b d e f j) h
def k154_12:KF:=K4 y2 y5 y6 y11 fun c i x h a b d e=>
 X 5 d e h fun f h=>
 A 3 f h fun g h=>
 L g h fun j h=>
 X 5 j i0 h fun k h=>
 M 5 k h fun l h=>
 C c 235 [l] h fun m h=>
 E 0 m h fun n h=>
 E 1 m h fun o h=>
 E 2 m h fun p h=>
 tR (bU o i0 h) fun q h=>
 I q (.ex 1 (T184 a b d o p) h) (O 299 4 (.k1 (Y4 i0 iS i0 .ah)) h fun s h=>
 X 5 d e h fun t h=>
 A 3 t h fun v h=>
 L v h fun w h=>
 X 5 w i1 h fun y h=>
 M 5 y h fun z h=>
 C c 236 [z] h fun a0 h=>
 E 0 a0 h fun a1 h=>
 E 1 a0 h fun a2 h=>
 E 2 a0 h fun a3 h=>
 S 4 s a1 h fun a4 h=>
 A 3 b h fun a5 h=>
 L a5 h fun a6 h=>
 tR (bs 9 1 1 [iS] [.mk 0 1 (.c n)] h) fun a7 h=>
 tR (cW 9 1 a6 a7 h) fun a8 h=>
 A 3 b h fun a9 h=>
 W a9 a8 h fun b0 h=>
 A 2 b h fun b1 h=>
 L b1 h fun b2 h=>
 M 4 s h fun b3 h=>
 tR (bs 299 4 1 [i0,iS,i0,.ah] [.mk 0 4 (.c b3)] h) fun b4 h=>
 tR (cW 299 4 b2 b4 h) fun b5 h=>
 A 2 b h fun b6 h=>
 W b6 b5 h fun b7 h=>
 x (T185 a b d a2 a3 e) h)
def k154_11:KF:=K6 y2 y5 y6 y7 y8 y11 fun c i x h a b d e f g=>
 G d h fun j h=>
 Z j i1 h fun k h=>
 Y g k h fun l h=>
 gD l true (fun m=>m e h) h fun m h=>
 gD l true (fun n=>Q m i0 h fun o h=>
 n o h) h fun n h=>
 tR (bQ (.c l) (.c n) (.c (.bool false)) .nil h) fun o h=>
 I o (x (T186 a b d g) h) (.ex 1 (T184 a b d e f) h)
def k154_10:KF:=K5 y2 y5 y6 y7 y8 fun c i x h a b d e f=>
 x (T185 a b d e f i1) h
def k154_14:KF:=K5 y2 y5 y6 y7 y8 fun c i x h a b d e f=>
 G d h fun g h=>
 Z g i1 h fun j h=>
 tR (cq 5 (.c d) (.some (.c j)) .none .none .nil h) fun k h=>
 .nm (T181 a b e f k) h
def k154_9:KF:=K5 y2 y5 y6 y7 y8 fun c i x h a b d e f=>
 A 0 b h fun g h=>
 W g (pi 3) h fun j h=>
 x (T184 a b d e f) h
def k154_17:KF:=K5 y2 y5 y6 y7 y8 fun c i x h a b d e f=>
 Q e i0 h fun g h=>
 I g (X 5 d (pi 2) h fun j h=>
 A 3 j h fun k h=>
 L k h fun l h=>
 C c 237 [l] h fun m h=>
 E 0 m h fun n h=>
 E 1 m h fun o h=>
 E 2 m h fun p h=>
 A 5 b h fun q h=>
 W q n h fun s h=>
 tR (cq 5 (.c d) (.some (.c (pi 3))) .none .none .nil h) fun t h=>
 .nm (T181 a b o p t) h) (tR (cq 5 (.c d) (.some (.c (pi 3))) .none .none .nil h) fun j h=>
 .nm (T181 a b e f j) h)
def k154_16:KF:=K3 y2 y5 y6 fun c i x h a b d=>
 A 0 b h fun e h=>
 W e (pi 4) h fun f h=>
 X 5 d i1 h fun g h=>
 A 3 g h fun j h=>
 L j h fun k h=>
 C c 237 [k] h fun l h=>
 E 0 l h fun m h=>
 E 1 l h fun n h=>
 E 2 l h fun o h=>
 A 4 b h fun p h=>
 W p m h fun q h=>
 x (T184 a b d n o) h
def k154_19:KF:=K5 y2 y5 y6 y7 y8 fun c i x h a b d e f=>
 A 0 b h fun g h=>
 W g (pi 5) h fun j h=>
 tR (cq 5 (.c d) (.some (.c i1)) .none .none .nil h) fun k h=>
 .nm (T181 a b e f k) h
def k154_21:KF:=K5 y2 y5 y6 y7 y8 fun c i x h a b d e f=>
 A 0 b h fun g h=>
 W g (pi 6) h fun j h=>
 tR (cq 5 (.c d) (.some (.c i1)) .none .none .nil h) fun k h=>
 .nm (T181 a b e f k) h
def k154_27:KF:=K6 y2 y5 y6 y7 y8 y14 fun c i x h a b d e f g=>
 D g i1 h fun j h=>
 .nm (T191 a b d e f j) h
def k154_26:KF:=K4 y2 y5 y6 y14 fun c i x h a b d e=>
 O 303 3 (.k1 (Y3 iS iS iS)) h fun f h=>
 X 5 d e h fun g h=>
 A 3 g h fun j h=>
 L j h fun k h=>
 C c 238 [k] h fun l h=>
 E 0 l h fun m h=>
 E 1 l h fun n h=>
 E 2 l h fun o h=>
 S 3 f m h fun p h=>
 A 6 b h fun q h=>
 L q h fun s h=>
 M 3 f h fun t h=>
 tR (bs 303 3 1 [iS,iS,iS] [.mk 0 3 (.c t)] h) fun v h=>
 tR (cW 303 3 s v h) fun w h=>
 A 6 b h fun y h=>
 W y w h fun z h=>
 x (T191 a b d n o e) h
def k154_25:KF:=K6 y2 y5 y6 y7 y8 y14 fun c i x h a b d e f g=>
 G d h fun j h=>
 Z j i1 h fun k h=>
 Y g k h fun l h=>
 gD l true (fun m=>m e h) h fun m h=>
 gD l true (fun n=>Q m i0 h fun o h=>
 n o h) h fun n h=>
 tR (bQ (.c l) (.c n) (.c (.bool false)) .nil h) fun o h=>
 I o (x (T192 a b d g) h) (.ex 3 (T184 a b d e f) h)
def k154_24:KF:=K5 y2 y5 y6 y7 y8 fun c i x h a b d e f=>
 x (T191 a b d e f (pi 2)) h
def k154_28:KF:=K5 y2 y5 y6 y7 y8 fun c i x h a b d e f=>
 G d h fun g h=>
 Z g i1 h fun j h=>
 tR (cq 5 (.c d) (.some (.c j)) .none .none .nil h) fun k h=>
 .nm (T181 a b e f k) h
def k154_23:KF:=K3 y2 y5 y6 fun c i x h a b d=>
 A 0 b h fun e h=>
 W e (pi 7) h fun f h=>
 X 5 d i1 h fun g h=>
 A 3 g h fun j h=>
 L j h fun k h=>
 C c 237 [k] h fun l h=>
 E 0 l h fun m h=>
 E 1 l h fun n h=>
 E 2 l h fun o h=>
 A 4 b h fun p h=>
 W p m h fun q h=>
 x (T184 a b d n o) h
def k154_22:KF:=K7 y2 y5 y6 y7 y8 y9 y28 fun c i x h a b d e f g j=>
 tR (aC j (.str [103,114,111,117,112]) h) fun k h=>
 x (T190 a b d e f g k) h
def k154_20:KF:=K7 y2 y5 y6 y7 y8 y9 y28 fun c i x h a b d e f g j=>
 tR (aC j (.str [100,105,115,116,105,110,99,116]) h) fun k h=>
 x (T189 a b d e f g j k) h
def k154_18:KF:=K7 y2 y5 y6 y7 y8 y9 y28 fun c i x h a b d e f g j=>
 tR (aC j (.str [117,110,105,111,110]) h) fun k h=>
 x (T188 a b d e f g j k) h
def k154_15:KF:=K7 y2 y5 y6 y7 y8 y9 y28 fun c i x h a b d e f g j=>
 tR (aC j (.str [106,111,105,110]) h) fun k h=>
 x (T187 a b d e f g j k) h
def k154_8:KF:=K7 y2 y5 y6 y7 y8 y9 y28 fun c i x h a b d e f g j=>
 tR (aC j (.str [112,114,111,106,101,99,116]) h) fun k h=>
 x (T183 a b d e f g j k) h
def k154_6:KF:=K7 y2 y5 y6 y7 y8 y9 y28 fun c i x h a b d e f g j=>
 tR (aC j (.str [102,105,108,116,101,114]) h) fun k h=>
 x (T182 a b d e f g j k) h
def k154_4:KF:=K7 y2 y5 y6 y7 y8 y9 y28 fun c i x h a b d e f g j=>
 tR (aC j (.str [116,97,98,108,101]) h) fun k h=>
 x (T180 a b d e f g j k) h
def k154_3:KF:=K7 y1 y2 y5 y6 y7 y8 y9 fun c i x h a b d e f g j=>
 M 5 a h fun k h=>
 C c 234 [k] h fun l h=>
 x (T179 b d e f g j l) h
def k154_32:KF:=K6 y2 y5 y7 y8 y9 y16 fun c i x h a b d e f g=>
 D g i1 h fun j h=>
 .nm (T193 a b d e f j) h
def k154_31:KF:=K4 y2 y5 y9 y16 fun c i x h a b d e=>
 O 131 8 (.k1 (Y8 i0 iS .ah .ah .ah .ah .ah .ah)) h fun f h=>
 X 5 d e h fun g h=>
 M 5 g h fun j h=>
 C c 154 [j] h fun k h=>
 E 0 k h fun l h=>
 E 1 k h fun m h=>
 E 2 k h fun n h=>
 S 8 f l h fun o h=>
 A 7 b h fun p h=>
 L p h fun q h=>
 M 8 f h fun s h=>
 tR (bs 131 8 1 [i0,iS,.ah,.ah,.ah,.ah,.ah,.ah] [.mk 0 8 (.c s)] h) fun t h=>
 tR (cW 131 8 q t h) fun v h=>
 A 7 b h fun w h=>
 W w v h fun y h=>
 x (T193 a b m n d e) h
def k154_30:KF:=K6 y2 y5 y7 y8 y9 y16 fun c i x h a b d e f g=>
 G f h fun j h=>
 Y g j h fun k h=>
 gD k true (fun l=>l d h) h fun l h=>
 gD k true (fun m=>Q l i0 h fun n h=>
 m n h) h fun m h=>
 tR (bQ (.c k) (.c m) (.c (.bool false)) .nil h) fun n h=>
 I n (x (T194 a b f g) h) (.ex 5 (T195 a b d e) h)
def k154_29:KF:=K5 y2 y5 y7 y8 y9 fun c i x h a b d e f=>
 x (T193 a b d e f i0) h
def k154_33:KF:=K4 y2 y5 y7 y8 fun c i x h a b d e=>
 tR (bU d i0 h) fun f h=>
 I f (U [i0,iS,.ah,.ah,.ah,.ah,.ah,.ah] [] h fun g h=>
 S 8 a g h fun j h=>
 .ret (T4 a d e) h) (M 8 b h fun g h=>
 S 8 a g h fun j h=>
 .ret (T4 a i0 i0) h)
def k154_2:KF:=K2 y1 y2 fun c i x h a b=>
 U [i0,iS,.ah,.ah,.ah,.ah,.ah,.ah] [] h fun d h=>
 O 131 8 (.k1 (Y8 i0 iS .ah .ah .ah .ah .ah .ah)) h fun e h=>
 S 8 e d h fun f h=>
 A 3 a h fun g h=>
 L g h fun j h=>
 x (T178 a b e j i0 i0 .ah) h
def k154_0:KF:=K1 y0 fun c i x h a=>
 B 241 a h fun b h=>
 O 131 8 (.k1 (Y8 i0 iS .ah .ah .ah .ah .ah .ah)) h fun d h=>
 x (T21 b d) h
def x154:AC:=(.ag k154_0 (.seq (.ag k154_1 (.cond r20 (.seq (.da [q 0 (o d21 (.build [i0,iS,.ah,.ah,.ah,.ah,.ah,.ah] [])),
 w (o .no (.gS 8 r2 r21)),
 qf 1 d22 4 r1,
 ql 1 d23 r22,
 q 0 (m d3 (.c (pi 12))),
 q 0 (m d4 r23)]) .ret) .skip)) (.ag k154_2 (.seq (.ag k154_3 (.block 0 (.ag k154_4 (.cond r29 (.ag k154_5 .skip) (.ag k154_6 (.cond r41 (.ag k154_7 .skip) (.ag k154_8 (.cond r57 (.ag k154_9 (.seq (.ag k154_10 (.block 1 (.loop (.ag k154_11 (.ag k154_12 (.ag k154_13 .skip)))))) (.ag k154_14 .skip))) (.ag k154_15 (.cond r114 (.ag k154_16 (.ag k154_17 .skip)) (.ag k154_18 (.cond r141 (.ag k154_19 .skip) (.ag k154_20 (.cond r146 (.ag k154_21 .skip) (.ag k154_22 (.cond r151 (.ag k154_23 (.seq (.ag k154_24 (.block 3 (.loop (.ag k154_25 (.ag k154_26 (.ag k154_27 .skip)))))) (.ag k154_28 .skip))) .skip)))))))))))))))) (.seq (.ag k154_29 (.block 5 (.loop (.ag k154_30 (.ag k154_31 (.ag k154_32 .skip)))))) (.ag k154_33 .skip))))))
def f154:AF:=.mk x154 [.agg 8 .h0 .h2,.t .h0 .h3,.t .h0 .h4]
def k155_3:KF:=K1 y1 fun c i x h a=>
 A 1 a h fun b h=>
 L b h fun d h=>
 tR (cA (.str [40,116,97,98,108,101,32]) d h) fun e h=>
 tR (cA e (.str [41]) h) fun f h=>
 .ret (T3 f) h
def k155_5:KF:=K1 y1 fun c i x h a=>
 A 2 a h fun b h=>
 L b h fun d h=>
 G d h fun e h=>
 Q e i1 h fun f h=>
 I f (tR (cA (.str [40,102,105,108,116,101,114]) (.str [32]) h) fun g h=>
 A 2 a h fun j h=>
 L j h fun k h=>
 X 4 k i0 h fun l h=>
 M 4 l h fun m h=>
 C c 240 [m] h fun n h=>
 C c 239 [n] h fun o h=>
 tR (cA g o h) fun p h=>
 .nm (T148 a p) h) (.nm (T148 a (.str [40,102,105,108,116,101,114])) h)
def k155_8:KF:=K4 y1 y3 y4 y44 fun c i x h a b d e=>
 I e (.nm (T170 a b d) h) (.ex 1 (T170 a b d) h)
def k155_9:KF:=K3 y1 y3 y4 fun c i x h a b d=>
 D d i1 h fun e h=>
 .nm (T170 a b e) h
def k155_7:KF:=K1 y1 fun c i x h a=>
 x (T170 a (.str [40,112,114,111,106,101,99,116]) i0) h
def k155_12:KF:=K1 y1 fun c i x h a=>
 .nm (T148 a (.str [40,117,110,105,111,110])) h
def k155_14:KF:=K1 y1 fun c i x h a=>
 .nm (T148 a (.str [40,100,105,115,116,105,110,99,116])) h
def k155_19:KF:=K3 y1 y3 y5 fun c i x h a b d=>
 D d i1 h fun e h=>
 .nm (T204 a b e) h
def k155_18:KF:=K3 y1 y3 y5 fun c i x h a b d=>
 A 6 a h fun e h=>
 L e h fun f h=>
 X 3 f d h fun g h=>
 M 3 g h fun j h=>
 O 303 3 (.k1 (Y3 iS iS iS)) h fun k h=>
 S 3 k j h fun l h=>
 tR (cA b (.str [32,40]) h) fun m h=>
 A 0 k h fun n h=>
 L n h fun o h=>
 tR (cA m o h) fun p h=>
 tR (cA p (.str [32]) h) fun q h=>
 A 1 k h fun s h=>
 L s h fun t h=>
 tR (cA q t h) fun v h=>
 A 1 k h fun w h=>
 L w h fun y h=>
 tR (pG y (.str [99,111,117,110,116]) h) fun z h=>
 I z (tR (cA v (.str [32]) h) fun a0 h=>
 A 2 k h fun a1 h=>
 L a1 h fun a2 h=>
 tR (cA a0 a2 h) fun a3 h=>
 tR (cA a3 (.str [41]) h) fun a4 h=>
 x (T204 a a4 d) h) (tR (cA v (.str [41]) h) fun a0 h=>
 x (T204 a a0 d) h)
def k155_17:KF:=K3 y1 y3 y5 fun c i x h a b d=>
 A 6 a h fun e h=>
 L e h fun f h=>
 G f h fun g h=>
 Y d g h fun j h=>
 I j (x (T204 a b d) h) (.ex 3 (T148 a b) h)
def k155_16:KF:=K1 y1 fun c i x h a=>
 A 4 a h fun b h=>
 L b h fun d h=>
 C c 241 [d] h fun e h=>
 tR (cA (.str [40,103,114,111,117,112,32]) e h) fun f h=>
 x (T204 a f i0) h
def k155_20:KF:=fun c i x r h=>
 .ret (T3 iS) h
def k155_15:KF:=K2 y1 y9 fun c i x h a b=>
 Q b (pi 7) h fun d h=>
 x (T203 a d) h
def k155_13:KF:=K2 y1 y9 fun c i x h a b=>
 Q b (pi 6) h fun d h=>
 x (T202 a b d) h
def k155_11:KF:=K2 y1 y9 fun c i x h a b=>
 Q b (pi 5) h fun d h=>
 x (T201 a b d) h
def k155_10:KF:=K2 y1 y9 fun c i x h a b=>
 Q b (pi 4) h fun d h=>
 x (T200 a b d) h
def k155_6:KF:=K2 y1 y9 fun c i x h a b=>
 Q b (pi 3) h fun d h=>
 x (T199 a b d) h
def k155_4:KF:=K2 y1 y9 fun c i x h a b=>
 Q b (pi 2) h fun d h=>
 x (T198 a b d) h
def k155_2:KF:=K2 y1 y9 fun c i x h a b=>
 Q b i1 h fun d h=>
 x (T197 a b d) h
def k155_1:KF:=K1 y1 fun c i x h a=>
 A 0 a h fun b h=>
 L b h fun d h=>
 x (T196 a d) h
def k155_22:KF:=K3 y1 y3 y7 fun c i x h a b d=>
 A 7 a h fun e h=>
 L e h fun f h=>
 G f h fun g h=>
 Y d g h fun j h=>
 I j (tR (cA b (.str [32]) h) fun k h=>
 A 7 a h fun l h=>
 L l h fun m h=>
 X 8 m d h fun n h=>
 M 8 n h fun o h=>
 C c 155 [o] h fun p h=>
 tR (cA k p h) fun q h=>
 D d i1 h fun s h=>
 .nm (T205 a q s) h) (.ex 5 (T205 a b d) h)
def k155_21:KF:=K2 y1 y3 fun c i x h a b=>
 x (T205 a b i0) h
def k155_23:KF:=K1 y3 fun c i x h a=>
 tR (cA a (.str [41]) h) fun b h=>
 .ret (T3 b) h
def k155_0:KF:=K1 y0 fun c i x h a=>
 B 131 a h fun b h=>
 x (T1 b) h
def x155:AC:=(.ag k155_0 (.seq (.ag k155_1 (.block 0 (.ag k155_2 (.cond r10 (.ag k155_3 .skip) (.ag k155_4 (.cond r16 (.ag k155_5 .skip) (.ag k155_6 (.cond r31 (.ag k155_7 (.block 1 (.loop (.seq (.seq (.ops [m d33 r4,
 of d34 3 r1,
 ol d35 r34,
 o d36 (.len r35),
 o d37 (.bin .lt r33 r36),
 m d38 r37,
 .g .h2 .h6 true d39 (.op (.mv r4)),
 .g .h2 .h6 true d40 (.op (.br 2 r1)),
 .g .h2 .h6 true d41 (.op (.bq r40)),
 .g .h2 .h6 true d42 (.op (.len r41)),
 .g .h2 .h6 true d43 (.op (.bin .lt r39 r42)),
 o d44 (.pick r38 r43 (.c (.bool false)))]) (.ag k155_8 .skip)) (.seq (.block 2 (.da [qf 0 d56 2 r1,
 ql 0 d57 r56,
 q 0 (m d58 r4),
 q 0 (o d59 (.bF 4 r57 r58)),
 q 0 (o d60 (.cV 4 r59)),
 w (oc d61 240 [r60]),
 w (oc d62 239 [r61]),
 q 2 (m d47 r3),
 q 2 (o d48 (.bin .cat r47 (.c (.str [32,40])))),
 qf 2 d49 3 r1,
 ql 2 d50 r49,
 q 2 (m d51 r4),
 q 2 (o d52 (.bF 1 r50 r51)),
 ql 2 d53 r52,
 q 2 (o d54 (.bin .cat r48 r53)),
 q 2 (o d55 (.bin .cat r54 (.c (.str [32])))),
 q 0 (o d63 (.bin .cat r55 r62)),
 q 0 (o d64 (.bin .cat r63 (.c (.str [41])))),
 q 0 (m d3 r64)])) (.ag k155_9 .skip)))))) (.ag k155_10 (.cond r65 (.da [qf 0 d67 4 r1,
 ql 0 d68 r67,
 w (oc d69 241 [r68]),
 qf 1 d72 5 r1,
 ql 1 d73 r72,
 w (oc d74 241 [r73]),
 q 1 (o d70 (.bin .cat (.c (.str [40,106,111,105,110,32])) r69)),
 q 1 (o d71 (.bin .cat r70 (.c (.str [32])))),
 q 0 (o d75 (.bin .cat r71 r74)),
 q 0 (m d3 r75)]) (.ag k155_11 (.cond r76 (.ag k155_12 .skip) (.ag k155_13 (.cond r78 (.ag k155_14 .skip) (.ag k155_15 (.cond r80 (.ag k155_16 (.block 3 (.loop (.ag k155_17 (.ag k155_18 (.ag k155_19 .skip)))))) (.ag k155_20 .skip))))))))))))))))) (.seq (.ag k155_21 (.block 5 (.loop (.ag k155_22 .skip)))) (.ag k155_23 .skip))))
def f155:AF:=.mk x155 [.t .h0 .h2]
def k156_6:KF:=K3 y0 y3 y4 fun c i x h a b d=>
 D d i1 h fun e h=>
 .nm (T25 a b e) h
def k156_5:KF:=K3 y0 y3 y4 fun c i x h a b d=>
 Y d b h fun e h=>
 I e (tQ (iX 2 a d h) fun f=>
 tQ (fA 0 f h) fun g=>
 tQ (lD g h) fun j=>
 tQ (iX 2 a b h) fun k=>
 tQ (fA 0 k h) fun l=>
 tQ (lD l h) fun m=>
 tQ (aC j m h) fun n=>
 I n (.ret (T3 (pi 21)) h) (x (T25 a b d) h)) (.ex 2 (T24 a b) h)
def k156_4:KF:=K2 y0 y3 fun c i x h a b=>
 x (T25 a b i0) h
def k156_7:KF:=K2 y0 y3 fun c i x h a b=>
 X 2 a b h fun d h=>
 A 1 d h fun e h=>
 L e h fun f h=>
 C c 99 [f] h fun g h=>
 tR (bU g i0 h) fun j h=>
 I j (.ret (T3 g) h) (.nm (T24 a b) h)
def k156_3:KF:=K2 y0 y3 fun c i x h a b=>
 X 2 a b h fun d h=>
 A 0 d h fun e h=>
 L e h fun f h=>
 C c 96 [f] h fun g h=>
 tR (bG g h) fun j h=>
 I j (.ret (T3 (pi 20)) h) (x (T24 a b) h)
def k156_8:KF:=K2 y0 y3 fun c i x h a b=>
 D b i1 h fun d h=>
 .nm (T24 a d) h
def k156_2:KF:=K2 y0 y3 fun c i x h a b=>
 G a h fun d h=>
 Y b d h fun e h=>
 I e (x (T24 a b) h) (.ex 0 T17 h)
def k156_1:KF:=K1 y0 fun c i x h a=>
 x (T24 a i0) h
def k156_9:KF:=fun c i x r h=>
 .ret (T3 i0) h
def k156_0:KF:=K1 y0 fun c i x h a=>
 x (T0 a) h
def x156:AC:=(.ag k156_0 (.seq (.ag k156_1 (.block 0 (.loop (.ag k156_2 (.seq (.block 1 (.ag k156_3 (.seq (.ag k156_4 (.block 2 (.loop (.ag k156_5 (.ag k156_6 .skip))))) (.ag k156_7 .skip)))) (.ag k156_8 .skip)))))) (.ag k156_9 .skip)))
def f156:AF:=.mk x156 [.t .h0 .h2]
def k157_4:KF:=K4 y1 y2 y7 y8 fun c i x h a b d e=>
 D e i1 h fun f h=>
 .nm (T207 a b d f) h
def k157_3:KF:=K4 y1 y2 y7 y8 fun c i x h a b d e=>
 A 7 b h fun f h=>
 L f h fun g h=>
 X 8 g e h fun j h=>
 M 8 j h fun k h=>
 C c 157 [k,a] h fun l h=>
 E 0 l h fun m h=>
 E 1 l h fun n h=>
 E 2 l h fun o h=>
 tR (bU n i0 h) fun p h=>
 I p (.ret (T101 .ah n o) h) (tR (bs 28 1 1 [.ah] [.mk 0 1 (.c m)] h) fun q h=>
 tR (cW 28 1 d q h) fun s h=>
 x (T207 a b s e) h)
def k157_2:KF:=K4 y1 y2 y7 y8 fun c i x h a b d e=>
 A 7 b h fun f h=>
 L f h fun g h=>
 G g h fun j h=>
 Y e j h fun k h=>
 I k (x (T207 a b d e) h) (.ex 0 (T206 a b d) h)
def k157_1:KF:=K3 y1 y2 y7 fun c i x h a b d=>
 x (T207 a b d i0) h
def k157_10:KF:=K3 y1 y2 y12 fun c i x h a b d=>
 D d i1 h fun e h=>
 .nm (T210 a b e) h
def k157_9:KF:=K3 y1 y2 y12 fun c i x h a b d=>
 tQ (iX 2 a d h) fun e=>
 tQ (fA 0 e h) fun f=>
 tQ (lD f h) fun g=>
 tQ (fA 1 b h) fun j=>
 tQ (lD j h) fun k=>
 tQ (aC g k h) fun l=>
 I l (tR (bs 103 2 0 [] [] h) fun m h=>
 X 2 a d h fun n h=>
 A 1 n h fun o h=>
 L o h fun p h=>
 tR (cW 103 2 m p h) fun q h=>
 .ret (T101 q i0 iS) h) (x (T210 a b d) h)
def k157_8:KF:=K3 y1 y2 y12 fun c i x h a b d=>
 G a h fun e h=>
 Y d e h fun f h=>
 I f (x (T210 a b d) h) (.ex 3 (T3 b) h)
def k157_7:KF:=K2 y1 y2 fun c i x h a b=>
 x (T210 a b i0) h
def k157_11:KF:=K1 y2 fun c i x h a=>
 tQ (fA 1 a h) fun b=>
 tQ (lD b h) fun d=>
 .ret (T101 .ah (pi 20) d) h
def k157_14:KF:=K2 y2 y7 fun c i x h a b=>
 tQ (cV 8 a h) fun d=>
 tQ (iX 1 b i0 h) fun e=>
 tQ (lD e h) fun f=>
 tX (c 243 [d,f] h) fun g h=>
 tQ (ext 0 g h) fun j=>
 tQ (ext 1 g h) fun k=>
 tQ (ext 2 g h) fun l=>
 .ret (T101 j k l) h
def k157_16:KF:=K2 y2 y7 fun c i x h a b=>
 tQ (cV 8 a h) fun d=>
 tQ (iX 1 b i0 h) fun e=>
 tQ (lD e h) fun f=>
 tQ (iX 1 b i1 h) fun g=>
 tQ (lD g h) fun j=>
 tX (c 244 [d,f,j] h) fun k h=>
 tQ (ext 0 k h) fun l=>
 tQ (ext 1 k h) fun m=>
 tQ (ext 2 k h) fun n=>
 .ret (T101 l m n) h
def k157_18:KF:=K3 y2 y7 y43 fun c i x h a b d=>
 Q d (pi 7) h fun e h=>
 I e (tQ (cV 8 a h) fun f=>
 tQ (iX 1 b i0 h) fun g=>
 tQ (lD g h) fun j=>
 tX (c 245 [f,j] h) fun k h=>
 tQ (ext 0 k h) fun l=>
 tQ (ext 1 k h) fun m=>
 tQ (ext 2 k h) fun n=>
 .ret (T101 l m n) h) (.nm (T28 b) h)
def k157_17:KF:=K3 y2 y7 y43 fun c i x h a b d=>
 Q d (pi 5) h fun e h=>
 x (T214 a b d e) h
def k157_15:KF:=K3 y2 y7 y43 fun c i x h a b d=>
 Q d (pi 4) h fun e h=>
 x (T213 a b d e) h
def k157_13:KF:=K3 y2 y7 y43 fun c i x h a b d=>
 Q d (pi 3) h fun e h=>
 x (T212 a b d e) h
def k157_12:KF:=K3 y2 y7 y43 fun c i x h a b d=>
 Q d (pi 2) h fun e h=>
 x (T211 a b d e) h
def k157_6:KF:=K4 y1 y2 y7 y43 fun c i x h a b d e=>
 Q e i1 h fun f h=>
 x (T209 a b d e f) h
def k157_5:KF:=K3 y1 y2 y7 fun c i x h a b d=>
 A 0 b h fun e h=>
 L e h fun f h=>
 x (T208 a b d f) h
def k157_19:KF:=K1 y7 fun c i x h a=>
 X 1 a i0 h fun b h=>
 L b h fun d h=>
 .ret (T101 d i0 iS) h
def k157_0:KF:=K2 y0 y1 fun c i x h a b=>
 B 131 a h fun d h=>
 x (T206 b d .ah) h
def x157:AC:=(.ag k157_0 (.seq (.ag k157_1 (.block 0 (.loop (.ag k157_2 (.ag k157_3 (.ag k157_4 .skip)))))) (.seq (.ag k157_5 (.block 2 (.ag k157_6 (.cond r44 (.seq (.ag k157_7 (.block 3 (.loop (.ag k157_8 (.ag k157_9 (.ag k157_10 .skip)))))) (.ag k157_11 .skip)) (.ag k157_12 (.cond r69 (.bad 0) (.ag k157_13 (.cond r90 (.ag k157_14 .skip) (.ag k157_15 (.cond r100 (.ag k157_16 .skip) (.ag k157_17 (.cond r113 (.bad 0) (.ag k157_18 .skip))))))))))))) (.ag k157_19 .skip))))
def f157:AF:=.mk x157 [.t .h0 .h4,.t .h0 .h5,.t .h0 .h6]
def k158_1:KF:=K3 y2 y3 y68 fun c i x h a b d=>
 I d (.ret (T9 (.bool false)) h) (.nm (T2 a b) h)
def k158_4:KF:=K3 y2 y3 y5 fun c i x h a b d=>
 D d i1 h fun e h=>
 .nm (T215 a b e) h
def k158_3:KF:=K3 y2 y3 y5 fun c i x h a b d=>
 A 6 a h fun e h=>
 L e h fun f h=>
 G f h fun g h=>
 Y d g h fun j h=>
 I j (tQ (fA 6 a h) fun k=>
 tQ (lD k h) fun l=>
 tQ (iX 3 l d h) fun m=>
 tQ (cV 3 m h) fun n=>
 tQ (fA 6 b h) fun o=>
 tQ (lD o h) fun p=>
 tQ (iX 3 p d h) fun q=>
 tQ (cV 3 q h) fun s=>
 tQ (bK (.Ru [.s,.s,.s]) n s h) fun t=>
 I t (.ret (T9 (.bool false)) h) (x (T215 a b d) h)) (.ex 0 (T2 a b) h)
def k158_2:KF:=K2 y2 y3 fun c i x h a b=>
 x (T215 a b i0) h
def k158_7:KF:=K3 y2 y3 y6 fun c i x h a b d=>
 D d i1 h fun e h=>
 .nm (T216 a b e) h
def k158_6:KF:=K3 y2 y3 y6 fun c i x h a b d=>
 A 7 a h fun e h=>
 L e h fun f h=>
 G f h fun g h=>
 Y d g h fun j h=>
 I j (tQ (fA 7 a h) fun k=>
 tQ (lD k h) fun l=>
 tQ (iX 8 l d h) fun m=>
 tQ (cV 8 m h) fun n=>
 tQ (fA 7 b h) fun o=>
 tQ (lD o h) fun p=>
 tQ (iX 8 p d h) fun q=>
 tQ (cV 8 q h) fun s=>
 tX (c 158 [n,s] h) fun t h=>
 tQ (bG t h) fun v=>
 I v (.ret (T9 (.bool false)) h) (x (T216 a b d) h)) (.ex 2 T17 h)
def k158_5:KF:=K2 y2 y3 fun c i x h a b=>
 x (T216 a b i0) h
def k158_8:KF:=fun c i x r h=>
 .ret (T9 (.bool true)) h
def k158_0:KF:=K2 y0 y1 fun c i x h a b=>
 B 131 a h fun d h=>
 B 131 b h fun e h=>
 x (T2 d e) h
def x158:AC:=(.ag k158_0 (.seq (.seq (.ops [of d7 0 r2,
 ol d8 r7,
 of d9 0 r3,
 ol d10 r9,
 o d11 (.bin .ne r8 r10),
 m d12 r11,
 .g .h0 .hc false d13 (.op (.br 1 r2)),
 .g .h0 .hc false d14 (.op (.bq r13)),
 .g .h0 .hc false d15 (.op (.br 1 r3)),
 .g .h0 .hc false d16 (.op (.bq r15)),
 .g .h0 .hc false d17 (.op (.bin .Kd r14 r16)),
 o d18 (.pick r12 (.c (.bool true)) r17),
 m d19 r18,
 .g .h1 .h3 false d20 (.op (.br 2 r2)),
 .g .h1 .h3 false d21 (.op (.bq r20)),
 .g .h1 .h3 false d22 (.op (.br 2 r3)),
 .g .h1 .h3 false d23 (.op (.bq r22)),
 .g .h1 .h3 false d24 (.call 246 [r21,r23]),
 .g .h1 .h3 false d25 (.op (.un .not r24)),
 o d26 (.pick r19 (.c (.bool true)) r25),
 m d27 r26,
 .g .h1 .hb false d28 (.op (.br 3 r2)),
 .g .h1 .hb false d29 (.op (.bq r28)),
 .g .h1 .hb false d30 (.op (.br 3 r3)),
 .g .h1 .hb false d31 (.op (.bq r30)),
 .g .h1 .hb false d32 (.call 247 [r29,r31]),
 .g .h1 .hb false d33 (.op (.un .not r32)),
 o d34 (.pick r27 (.c (.bool true)) r33),
 m d35 r34,
 .g .h2 .h3 false d36 (.op (.br 4 r2)),
 .g .h2 .h3 false d37 (.op (.bq r36)),
 .g .h2 .h3 false d38 (.op (.br 4 r3)),
 .g .h2 .h3 false d39 (.op (.bq r38)),
 .g .h2 .h3 false d40 (.call 247 [r37,r39]),
 .g .h2 .h3 false d41 (.op (.un .not r40)),
 o d42 (.pick r35 (.c (.bool true)) r41),
 m d43 r42,
 .g .h2 .hb false d44 (.op (.br 5 r2)),
 .g .h2 .hb false d45 (.op (.bq r44)),
 .g .h2 .hb false d46 (.op (.br 5 r3)),
 .g .h2 .hb false d47 (.op (.bq r46)),
 .g .h2 .hb false d48 (.call 247 [r45,r47]),
 .g .h2 .hb false d49 (.op (.un .not r48)),
 o d50 (.pick r43 (.c (.bool true)) r49),
 m d51 r50,
 .g .h3 .h3 false d52 (.op (.br 6 r2)),
 .g .h3 .h3 false d53 (.op (.bq r52)),
 .g .h3 .h3 false d54 (.op (.len r53)),
 .g .h3 .h3 false d55 (.op (.br 6 r3)),
 .g .h3 .h3 false d56 (.op (.bq r55)),
 .g .h3 .h3 false d57 (.op (.len r56)),
 .g .h3 .h3 false d58 (.op (.bin .ne r54 r57)),
 o d59 (.pick r51 (.c (.bool true)) r58),
 m d60 r59,
 .g .h3 .hc false d61 (.op (.br 7 r2)),
 .g .h3 .hc false d62 (.op (.bq r61)),
 .g .h3 .hc false d63 (.op (.len r62)),
 .g .h3 .hc false d64 (.op (.br 7 r3)),
 .g .h3 .hc false d65 (.op (.bq r64)),
 .g .h3 .hc false d66 (.op (.len r65)),
 .g .h3 .hc false d67 (.op (.bin .ne r63 r66)),
 o d68 (.pick r60 (.c (.bool true)) r67)]) (.ag k158_1 .skip)) (.seq (.ag k158_2 (.block 0 (.loop (.ag k158_3 (.ag k158_4 .skip))))) (.seq (.ag k158_5 (.block 2 (.loop (.ag k158_6 (.ag k158_7 .skip))))) (.ag k158_8 .skip)))))
def f158:AF:=.mk x158 [.t .h0 .h4]
def k159_6:KF:=K3 y0 y3 y4 fun c i x h a b d=>
 D d i1 h fun e h=>
 .nm (T25 a b e) h
def k159_5:KF:=K3 y0 y3 y4 fun c i x h a b d=>
 tQ (iX 3 a b h) fun e=>
 tQ (fA 1 e h) fun f=>
 tQ (lD f h) fun g=>
 tQ (iX 3 a b h) fun j=>
 tQ (fA 2 j h) fun k=>
 tQ (lD k h) fun l=>
 tQ (iX 2 l d h) fun m=>
 tQ (fA 0 m h) fun n=>
 tQ (lD n h) fun o=>
 tX (c 162 [g,o] h) fun p h=>
 tQ (bG p h) fun q=>
 I q (.ret (T3 (.bool false)) h) (x (T25 a b d) h)
def k159_4:KF:=K3 y0 y3 y4 fun c i x h a b d=>
 X 3 a b h fun e h=>
 A 2 e h fun f h=>
 L f h fun g h=>
 G g h fun j h=>
 Y d j h fun k h=>
 I k (x (T25 a b d) h) (.ex 2 (T24 a b) h)
def k159_3:KF:=K2 y0 y3 fun c i x h a b=>
 X 3 a b h fun d h=>
 A 2 d h fun e h=>
 L e h fun f h=>
 C c 248 [f] h fun g h=>
 tR (bG g h) fun j h=>
 I j (.ret (T3 (.bool false)) h) (x (T25 a b i0) h)
def k159_7:KF:=K2 y0 y3 fun c i x h a b=>
 D b i1 h fun d h=>
 .nm (T24 a d) h
def k159_2:KF:=K2 y0 y3 fun c i x h a b=>
 G a h fun d h=>
 Y b d h fun e h=>
 I e (x (T24 a b) h) (.ex 0 T17 h)
def k159_1:KF:=K1 y0 fun c i x h a=>
 x (T24 a i0) h
def k159_8:KF:=fun c i x r h=>
 .ret (T3 (.bool true)) h
def k159_0:KF:=K1 y0 fun c i x h a=>
 C c 160 [a] h fun b h=>
 C c 156 [b] h fun d h=>
 tR (bU d i0 h) fun e h=>
 I e (.ret (T3 (.bool false)) h) (x (T0 a) h)
def x159:AC:=(.ag k159_0 (.seq (.ag k159_1 (.block 0 (.loop (.ag k159_2 (.seq (.block 1 (.ag k159_3 (.block 2 (.loop (.ag k159_4 (.ag k159_5 (.ag k159_6 .skip))))))) (.ag k159_7 .skip)))))) (.ag k159_8 .skip)))
def f159:AF:=.mk x159 [.t .h0 .h2]
def k160_3:KF:=K3 y0 y3 y4 fun c i x h a b d=>
 D d i1 h fun e h=>
 .nm (T25 a b e) h
def k160_2:KF:=K3 y0 y3 y4 fun c i x h a b d=>
 G a h fun e h=>
 Y d e h fun f h=>
 I f (x (T25 a b d) h) (.ex 0 (T47 b) h)
def k160_1:KF:=K2 y0 y3 fun c i x h a b=>
 x (T25 a b i0) h
def k160_4:KF:=K1 y3 fun c i x h a=>
 .ret (T3 a) h
def k160_0:KF:=K1 y0 fun c i x h a=>
 x (T24 a .ah) h
def x160:AC:=(.ag k160_0 (.seq (.ag k160_1 (.block 0 (.loop (.ag k160_2 (.seq (.block 1 (.da [q 0 (m d12 r0),
 q 0 (m d13 r4),
 q 0 (o d14 (.bF 3 r12 r13)),
 qf 0 d15 0 r14,
 ql 0 d16 r15,
 q 0 (m d17 r0),
 q 0 (m d18 r4),
 q 0 (o d19 (.bF 3 r17 r18)),
 qf 0 d20 1 r19,
 ql 0 d21 r20,
 q 0 (o d22 (.build [iS,.ah] [.mk 0 1 r16,.mk 1 1 r21])),
 w (o d23 (.aU 134 2 1 [iS,.ah] [.mk 0 2 r22])),
 q 1 (m d11 r3),
 w (o d24 (.app 134 2 r11 r23)),
 q 0 (m d3 r24)])) (.ag k160_3 .skip)))))) (.ag k160_4 .skip)))
def f160:AF:=.mk x160 [.t .h0 .h2]
def k161_5:KF:=K6 y1 y2 y7 y10 y11 y12 fun c i x h a b d e f g=>
 D g i1 h fun j h=>
 .nm (T218 a b d e f j) h
def k161_4:KF:=K6 y1 y2 y7 y10 y11 y12 fun c i x h a b d e f g=>
 A 7 b h fun j h=>
 L j h fun k h=>
 X 8 k g h fun l h=>
 M 8 l h fun m h=>
 C c 161 [m,a] h fun n h=>
 E 0 n h fun o h=>
 E 1 n h fun p h=>
 E 2 n h fun q h=>
 tR (bU q i0 h) fun s h=>
 I s (.ret (T101 .ah .ah q) h) (tR (bs 77 1 1 [.ah] [.mk 0 1 (.c o)] h) fun t h=>
 tR (cW 77 1 e t h) fun v h=>
 tR (bs 28 1 1 [.ah] [.mk 0 1 (.c p)] h) fun w h=>
 tR (cW 28 1 f w h) fun y h=>
 x (T218 a b d v y g) h)
def k161_3:KF:=K6 y1 y2 y7 y10 y11 y12 fun c i x h a b d e f g=>
 A 7 b h fun j h=>
 L j h fun k h=>
 G k h fun l h=>
 Y g l h fun m h=>
 I m (x (T218 a b d e f g) h) (.ex 0 (T217 a b d e f) h)
def k161_2:KF:=K5 y1 y2 y7 y10 y11 fun c i x h a b d e f=>
 x (T218 a b d e f i0) h
def k161_11:KF:=K6 y1 y2 y7 y16 y17 y18 fun c i x h a b d e f g=>
 D g i1 h fun j h=>
 .nm (T222 a b d e f j) h
def k161_10:KF:=K6 y1 y2 y7 y16 y17 y18 fun c i x h a b d e f g=>
 G a h fun j h=>
 Y g j h fun k h=>
 I k (tQ (iX 3 a g h) fun l=>
 tQ (fA 0 l h) fun m=>
 tQ (lD m h) fun n=>
 tQ (fA 1 b h) fun o=>
 tQ (lD o h) fun p=>
 tQ (aC n p h) fun q=>
 I q (X 3 a g h fun s h=>
 A 2 s h fun t h=>
 L t h fun v h=>
 x (T222 a b d v f g) h) (x (T222 a b d e f g) h)) (.ex 3 (T223 d e f) h)
def k161_9:KF:=K5 y1 y2 y7 y16 y17 fun c i x h a b d e f=>
 x (T222 a b d e f i0) h
def k161_16:KF:=K7 y2 y7 y10 y11 y16 y17 y19 fun c i x h a b d e f g j=>
 D j i1 h fun k h=>
 .nm (T225 a b d e f g k) h
def k161_15:KF:=K6 y2 y7 y10 y11 y16 y19 fun c i x h a b d e f g=>
 tQ (cV 8 a h) fun j=>
 tQ (iX 1 e i0 h) fun k=>
 tQ (lD k h) fun l=>
 tQ (iX 1 d i0 h) fun m=>
 tQ (lD m h) fun n=>
 tQ (iX 2 n g h) fun o=>
 tQ (fA 0 o h) fun p=>
 tQ (lD p h) fun q=>
 tX (c 249 [j,l,q] h) fun s h=>
 tQ (ext 0 s h) fun t=>
 tQ (ext 1 s h) fun v=>
 tQ (ext 2 s h) fun w=>
 gD v true (fun y=>y w h) h fun y h=>
 gD v true (fun z=>Q y i0 h fun a0 h=>
 z a0 h) h fun z h=>
 tR (bQ (.c v) (.c z) (.c (.bool false)) .nil h) fun a0 h=>
 I a0 (X 1 d i0 h fun a1 h=>
 L a1 h fun a2 h=>
 X 2 a2 g h fun a3 h=>
 A 1 a3 h fun a4 h=>
 L a4 h fun a5 h=>
 U [.ah,(.cG .f64 0 0)] [.mk 0 1 (.c t),.mk 1 1 (.c a5)] h fun a6 h=>
 tR (bs 142 2 1 [.ah,(.cG .f64 0 0)] [.mk 0 2 (.c a6)] h) fun a7 h=>
 tR (cW 142 2 f a7 h) fun a8 h=>
 x (T225 a b d e a8 w g) h) (x (T225 a b d e f w g) h)
def k161_14:KF:=K7 y2 y7 y10 y11 y16 y17 y19 fun c i x h a b d e f g j=>
 X 1 d i0 h fun k h=>
 L k h fun l h=>
 G l h fun m h=>
 Y j m h fun n h=>
 gD n true (fun o=>o g h) h fun o h=>
 gD n true (fun p=>Q o i0 h fun q h=>
 p q h) h fun p h=>
 tR (bQ (.c n) (.c p) (.c (.bool false)) .nil h) fun q h=>
 I q (x (T226 a b d e f j) h) (.ex 5 (T223 b f g) h)
def k161_13:KF:=K6 y2 y7 y10 y11 y16 y17 fun c i x h a b d e f g=>
 x (T225 a b d e f g i0) h
def k161_21:KF:=K5 y7 y10 y16 y17 y22 fun c i x h a b d e f=>
 D f i1 h fun g h=>
 .nm (T229 a b d e g) h
def k161_20:KF:=K5 y7 y10 y16 y17 y22 fun c i x h a b d e f=>
 X 1 b i0 h fun g h=>
 L g h fun j h=>
 G j h fun k h=>
 Y f k h fun l h=>
 I l (X 1 b i0 h fun m h=>
 L m h fun n h=>
 X 2 n f h fun o h=>
 A 0 o h fun p h=>
 L p h fun q h=>
 U [.ah,(.cG .f64 0 0)] [.mk 0 1 (.c q),.mk 1 1 (.c (.cG .f64 4607182418800017408 0))] h fun s h=>
 tR (bs 142 2 1 [.ah,(.cG .f64 0 0)] [.mk 0 2 (.c s)] h) fun t h=>
 tR (cW 142 2 d t h) fun v h=>
 x (T229 a b v e f) h) (.ex 7 (T223 a d e) h)
def k161_19:KF:=K4 y7 y10 y16 y17 fun c i x h a b d e=>
 x (T229 a b d e i0) h
def k161_23:KF:=K4 y2 y7 y10 y11 fun c i x h a b d e=>
 tQ (cV 8 a h) fun f=>
 tQ (iX 1 e i0 h) fun g=>
 tQ (lD g h) fun j=>
 tQ (iX 1 e i1 h) fun k=>
 tQ (lD k h) fun l=>
 tQ (iX 1 d i0 h) fun m=>
 tQ (lD m h) fun n=>
 tQ (iX 1 d i1 h) fun o=>
 tQ (lD o h) fun p=>
 tX (c 250 [f,j,l,n,p] h) fun q h=>
 tQ (ext 0 q h) fun s=>
 tQ (ext 1 q h) fun t=>
 .nm (T223 b s t) h
def k161_24:KF:=K7 y2 y7 y10 y11 y16 y17 y65 fun c i x h a b d e f g j=>
 Q j (pi 7) h fun k h=>
 x (T231 a b d e f g k) h
def k161_22:KF:=K7 y2 y7 y10 y11 y16 y17 y65 fun c i x h a b d e f g j=>
 Q j (pi 4) h fun k h=>
 x (T230 a b d e f g j k) h
def k161_18:KF:=K7 y2 y7 y10 y11 y16 y17 y65 fun c i x h a b d e f g j=>
 Q j (pi 6) h fun k h=>
 x (T228 a b d e f g j k) h
def k161_17:KF:=K7 y2 y7 y10 y11 y16 y17 y65 fun c i x h a b d e f g j=>
 Q j (pi 5) h fun k h=>
 x (T227 a b d e f g j k) h
def k161_12:KF:=K7 y2 y7 y10 y11 y16 y17 y65 fun c i x h a b d e f g j=>
 Q j (pi 2) h fun k h=>
 I k (x (T224 a b d e f g j k) h) (Q j (pi 3) h fun l h=>
 x (T224 a b d e f g j l) h)
def k161_8:KF:=K8 y1 y2 y7 y10 y11 y16 y17 y65 fun c i x h a b d e f g j k=>
 Q k i1 h fun l h=>
 x (T221 a b d e f g j k l) h
def k161_7:KF:=K7 y1 y2 y7 y10 y11 y16 y17 fun c i x h a b d e f g j=>
 A 0 b h fun k h=>
 L k h fun l h=>
 x (T220 a b d e f g j l) h
def k161_26:KF:=K3 y7 y23 y229 fun c i x h a b d=>
 I d (.ret (T101 .ah .ah (pi 13)) h) (.nm (T233 a b) h)
def k161_27:KF:=K2 y7 y23 fun c i x h a b=>
 .ret (T101 b a i0) h
def k161_25:KF:=K3 y7 y16 y17 fun c i x h a b d=>
 tR (bU d i0 h) fun e h=>
 I e (.ret (T101 .ah .ah d) h) (C c 254 [b] h fun f h=>
 E 0 f h fun g h=>
 E 1 f h fun j h=>
 C c 164 [g] h fun k h=>
 E 0 k h fun l h=>
 E 1 k h fun m h=>
 x (T232 a g j l m) h)
def k161_6:KF:=K5 y1 y2 y7 y10 y11 fun c i x h a b d e f=>
 x (T219 a b d e f .ah i0) h
def k161_1:KF:=K3 y1 y2 y7 fun c i x h a b d=>
 x (T217 a b d .ah .ah) h
def k161_0:KF:=K2 y0 y1 fun c i x h a b=>
 B 131 a h fun d h=>
 x (T21 b d) h
def x161:AC:=(.ag k161_0 (.seq (.da [q 0 (m d29 r1),
 w (oc d30 160 [r29]),
 q 1 (o d28 (.cV 8 r2)),
 w (oc d31 102 [r28,r30]),
 q 0 (m d27 r31),
 q 0 (oe d32 0 r27),
 q 0 (oe d33 1 r27),
 q 0 (oe d34 2 r27),
 q 0 (m d7 r32),
 q 0 (m d8 r33),
 q 0 (m d9 r34)]) (.ag k161_1 (.seq (.ag k161_2 (.block 0 (.loop (.ag k161_3 (.ag k161_4 (.ag k161_5 .skip)))))) (.ag k161_6 (.seq (.ag k161_7 (.block 2 (.ag k161_8 (.cond r66 (.ag k161_9 (.block 3 (.loop (.ag k161_10 (.ag k161_11 .skip))))) (.ag k161_12 (.cond r87 (.ag k161_13 (.block 5 (.loop (.ag k161_14 (.ag k161_15 (.ag k161_16 .skip)))))) (.ag k161_17 (.cond r135 (.da [w (o d137 (.aU 142 2 0 [] [])),
 q 1 (m d138 r10),
 q 1 (o d139 (.bF 1 r138 a0)),
 ql 1 d140 r139,
 w (o d141 (.app 142 2 r137 r140)),
 q 2 (m d142 r10),
 q 2 (o d143 (.bF 1 r142 a1)),
 ql 2 d144 r143,
 w (o d145 (.app 142 2 r141 r144)),
 q 0 (m d16 r145)]) (.ag k161_18 (.cond r146 (.ag k161_19 (.block 7 (.loop (.ag k161_20 (.ag k161_21 .skip))))) (.ag k161_22 (.cond r167 (.ag k161_23 .skip) (.ag k161_24 (.cond r186 (.da [q 0 (m d189 r11),
 q 0 (o d190 (.bF 1 r189 a0)),
 ql 0 d191 r190,
 qf 0 d192 4 r2,
 ql 0 d193 r192,
 w (oc d194 252 [r191,r193]),
 q 1 (m d195 r11),
 q 1 (o d196 (.bF 1 r195 a0)),
 ql 1 d197 r196,
 qf 1 d198 6 r2,
 ql 1 d199 r198,
 w (oc d200 253 [r197,r199]),
 q 2 (m d201 r10),
 q 2 (o d202 (.bF 1 r201 a0)),
 ql 2 d203 r202,
 w (oc d204 251 [r194,r200,r203]),
 q 0 (m d188 r204),
 q 0 (oe d205 0 r188),
 q 0 (oe d206 1 r188),
 q 0 (m d16 r205),
 q 0 (m d17 r206)]) .skip)))))))))))))) (.ag k161_25 (.seq (.seq (.ops [m d220 r24,
 o d221 (.bin .ne r220 a0),
 m d222 r221,
 .g .hd .he false d223 (.op (.mv r26)),
 .g .hd .he false d224 (.op (.un .not r223)),
 o d225 (.pick r222 (.c (.bool true)) r224),
 m d226 r225,
 .g .he .h2 false d227 (.op (.mv r25)),
 .g .he .h2 false d228 (.op (.bin .gt r227 (.c (pi 512)))),
 o d229 (.pick r226 (.c (.bool true)) r228)]) (.ag k161_26 .skip)) (.ag k161_27 .skip)))))))))
def f161:AF:=.mk x161 [.t .h0 .h4,.t .h0 .h5,.t .h0 .h6]
def k162_3:KF:=K4 y0 y1 y5 y35 fun c i x h a b d e=>
 I e (.ret (T9 (.bool false)) h) (.nm (T46 a b d) h)
def k162_4:KF:=K3 y0 y1 y5 fun c i x h a b d=>
 D d i1 h fun e h=>
 .nm (T46 a b e) h
def k162_2:KF:=K3 y0 y1 y5 fun c i x h a b d=>
 G b h fun e h=>
 Y d e h fun f h=>
 I f (x (T46 a b d) h) (.ex 0 T17 h)
def k162_1:KF:=K2 y0 y1 fun c i x h a b=>
 x (T46 a b i0) h
def k162_5:KF:=fun c i x r h=>
 .ret (T9 (.bool true)) h
def k162_0:KF:=K2 y0 y1 fun c i x h a b=>
 G a h fun d h=>
 G b h fun e h=>
 tR (bU d e h) fun f h=>
 I f (.ret (T9 (.bool false)) h) (x (T20 a b) h)
def x162:AC:=(.ag k162_0 (.seq (.ag k162_1 (.block 0 (.loop (.ag k162_2 (.seq (.block 1 (.seq (.da [q 0 (m d17 r1),
 q 0 (m d18 r5),
 q 0 (o d19 (.bF 3 r17 r18)),
 q 0 (o d20 (.cV 3 r19)),
 w (oc d21 255 [r20]),
 q 0 (o d22 (.un .not r21)),
 q 0 (m d23 r22),
 q 0 (.g .h1 .h7 false d24 (.op (.mv r1))),
 q 0 (.g .h1 .h7 false d25 (.op (.mv r5))),
 q 0 (.g .h1 .h7 false d26 (.op (.bF 3 r24 r25))),
 q 0 (.g .h1 .h7 false d27 (.op (.br 0 r26))),
 q 0 (.g .h1 .h7 false d28 (.op (.bq r27))),
 q 0 (.g .h1 .h7 false d29 (.op (.mv r0))),
 q 0 (.g .h1 .h7 false d30 (.op (.mv r5))),
 q 0 (.g .h1 .h7 false d31 (.op (.bF 2 r29 r30))),
 q 0 (.g .h1 .h7 false d32 (.op (.br 1 r31))),
 q 0 (.g .h1 .h7 false d33 (.op (.bq r32))),
 q 0 (.g .h1 .h7 false d34 (.op (.bin .ne r28 r33))),
 q 0 (o d35 (.pick r23 (.c (.bool true)) r34))]) (.ag k162_3 .skip))) (.ag k162_4 .skip)))))) (.ag k162_5 .skip)))
def f162:AF:=.mk x162 [.t .h0 .h4]
def k163_0:KF:=K2 y0 y1 fun c i x h a b=>
 tR (cK (.Om .f64) a h) fun d h=>
 tR (cK (.Om .f64) b h) fun e h=>
 tR (jN .f64 (.c d) (.c e) .nil h) fun f h=>
 .ret (T9 f) h
def x163:AC:=(.ag k163_0 .skip)
def f163:AF:=.mk x163 [.t .h0 .h4]
def k164_4:KF:=K3 y0 y4 y5 fun c i x h a b d=>
 D d i1 h fun e h=>
 .nm (T57 a b e) h
def k164_3:KF:=K3 y0 y4 y5 fun c i x h a b d=>
 X 2 a d h fun e h=>
 A 1 e h fun f h=>
 L f h fun g h=>
 C c 257 [g] h fun j h=>
 D b j h fun k h=>
 tR (fH k (pi 1125899906842624) h) fun l h=>
 gD l false (fun m=>m k h) h fun m h=>
 gD l false (fun n=>Y m (ni 1125899906842623) h fun o h=>
 n o h) h fun n h=>
 tR (bQ (.c l) (.c (.bool true)) (.c n) .nil h) fun o h=>
 I o (.ret (T2 i0 (.bool false)) h) (x (T57 a k d) h)
def k164_2:KF:=K3 y0 y4 y5 fun c i x h a b d=>
 G a h fun e h=>
 Y d e h fun f h=>
 I f (x (T57 a b d) h) (.ex 0 (T9 b) h)
def k164_1:KF:=K2 y0 y4 fun c i x h a b=>
 x (T57 a b i0) h
def k164_5:KF:=K1 y4 fun c i x h a=>
 .ret (T2 a (.bool true)) h
def k164_0:KF:=K1 y0 fun c i x h a=>
 C c 256 [a] h fun b h=>
 tR (bG b h) fun d h=>
 I d (.ret (T2 i0 (.bool false)) h) (x (T234 a i0) h)
def x164:AC:=(.ag k164_0 (.seq (.ag k164_1 (.block 0 (.loop (.ag k164_2 (.ag k164_3 (.ag k164_4 .skip)))))) (.ag k164_5 .skip)))
def f164:AF:=.mk x164 [.t .h0 .h2,.t .h0 .h3]
def x165:AC:=b165
def f165:AF:=.mk x165 [.t .h0 .h4]
def x166:AC:=b166
def f166:AF:=.mk x166 [.t .h0 .h4,.t .h0 .h5]
end
end Go.Am.Seat
