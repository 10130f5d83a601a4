/- The program's code in a form that runs fast, written by program. Nothing is asked. -/
import Derived.Test.YtphjcbegmaekbaaGreatDoorCode0
set_option linter.all false
namespace Go.Am.Seat
set_option maxRecDepth 20000
noncomputable section
def T0 (a:AV):A2:=N0 (Y1 a)
def T1 (a:AV):A2:=N0 (Y3 u u a)
def T2 (a:AV):A2:=N0 (Y5 u u u u a)
def T3 (a b:AV):A2:=N0 (Y4 a u u b)
def T4 (a b d:AV):A2:=N0 (Y5 a u u b d)
def T5 (a:AV):A2:=N0 (Y7 u u u u u u a)
def T6 (a b d e f:AV):A2:=N0 (Y7 a u u b d e f)
def T9 (a b d e:AV):A2:=N0 (Y7 a b u u u d e)
def T11 (a b d:AV):A2:=N0 (Y7 a b u u u u d)
def T13 (a b:AV):A2:=N0 (Y2 a b)
def T15:A2:=.nil
def T18 (a b:AV):A2:=N0 (Y4 u u a b)
def T19 (a b d:AV):A2:=N0 (Y6 a u u u b d)
def T20 (a b:AV):A2:=N0 (Y6 a u u u u b)
def T26 (a b:AV):A2:=N0 (Y6 u u a u u b)
def T28 (a b d:AV):A2:=N0 (Y4 u a b d)
def T31 (a b:AV):A2:=N0 (Y8 u u u u u u a b)
def T32 (a:AV):A2:=N0 (Y8 u u u u u u u a)
def T35 (a b:AV):A2:=N0 (Y6 u u u u a b)
def T37 (a:AV):A2:=N0 (Y9 u u u u u u u u a)
def T48 (a b d:AV):A2:=N0 (Y6 a b u u u d)
def T49 (a:AV):A2:=N0 (Y4 u u u a)
def T55 (a:AV):A2:=N0 (Y6 u u u u u a)
def T63 (a b d e:AV):A2:=N0 (Y12 u u u a u u u u u b d e)
def T64 (a b:AV):A2:=N0 (Y7 a u u u u u b)
def T81 (a b d:AV):A2:=N0 (Y10 a u u u u u u u b d)
def T82 (a b d e:AV):A2:=N0 (Y9 a b u u u u u d e)
def T84 (a b d:AV):A2:=N0 (Y9 u u u u u u a b d)
def T94 (a b d e f:AV):A2:=N0 (Y12 u u u a u b u u u d e f)
def T95 (a b d e:AV):A2:=N0 (Y9 u u u a u u b d e)
def T101 (a b d:AV):A2:=N0 (Y5 u u a b d)
def T104 (a b:AV):A2:=N0 (Y3 u a b)
def T107 (a:AV):A2:=N0 (Y10 u u u u u u u u u a)
def T109 (a b d:AV):A2:=N0 (Y8 a u u u u u b d)
def T110 (a b d e:AV):A2:=N0 (Y11 a u u u u u b u u d e)
def T112 (a b d e:AV):A2:=N0 (Y8 u u u u a b d e)
def T115 (a b d e f:AV):A2:=N0 (Y9 a b d u u u u e f)
def T116 (a b d e f g:AV):A2:=N1 (Y9 a b d u u u u e f) (.mk u u u u u u u u u u u u u u u g)
def T125 (a b d e:AV):A2:=N0 (Y9 u u a u u u b d e)
def T126 (a b d:AV):A2:=N0 (Y7 u u u u a b d)
def T127 (a b d e:AV):A2:=N0 (Y6 u a u b d e)
def T138 (a b d e:AV):A2:=N0 (Y8 a u u u u b d e)
def T139 (a b d e f g:AV):A2:=N0 (Y8 a u u b d e f g)
def T144 (a b:AV):A2:=N0 (Y3 a u b)
def T145 (a b d e:AV):A2:=N0 (Y7 a u b u u d e)
def T146 (a b d:AV):A2:=N0 (Y6 a u b u u d)
def T147 (a b:AV):A2:=N0 (Y7 u u a u u u b)
def T162 (a:AV):A2:=N0 (Y2 u a)
def T165 (a b:AV):A2:=N0 (Y4 u a u b)
def T183 (a b d:AV):A2:=N0 (Y6 u a b u u d)
def T208 (a b d:AV):A2:=N1 (Y1 a) (Y2 b d)
def T209 (a b d e:AV):A2:=N1 (Y4 a u u b) (Y2 d e)
def T220 (a b d:AV):A2:=N0 (Y5 u a u b d)
def T222 (a b d e f:AV):A2:=N0 (Y8 a u b u u d e f)
def T223 (a b d e f g:AV):A2:=N0 (Y9 a u b u u d e f g)
def T224 (a b d e f g j:AV):A2:=N2 (Y9 a u b u u d e f g) .nil (Y7 u u u u u u j)
def T225 (a b d e f:AV):A2:=N0 (Y9 a u b u u d e u f)
def T226 (a b d e f g:AV):A2:=N0 (Y11 a u b u u d u u e f g)
def T227 (a b d:AV):A2:=N1 (Y3 u a b) (Y5 u u u u d)
def T228 (a b d e f g j:AV):A2:=N0 (Y10 u a b u u d e f g j)
def T229 (a b d e f g j:AV):A2:=N1 (Y10 u u a u u b d e f g) (Y13 u u u u u u u u u u u u j)
def T230 (a b d e f g j k:AV):A2:=N1 (Y10 u u a u u b d e f g) (Y14 u u u u u u u u u u u u j k)
def T231 (a b d e f:AV):A2:=N0 (Y10 u u a u u b u d e f)
def T232 (a b d e f g j k:AV):A2:=N2 (Y10 u u a u u b d e f g) (Y13 u u u u u u u u u u u u j) (Y10 u u u u u u u u u k)
def T233 (a b d e f g j k:AV):A2:=N3 (Y10 u u a u u b d e f g) (Y13 u u u u u u u u u u u u j) .nil (Y10 u u u u u u u u u k)
def T234 (a b d e f:AV):A2:=N0 (Y9 u u a u u b d e f)
def T235 (a b d e f g:AV):A2:=N0 (Y12 u u a u u b d e f u u g)
def T236 (a b d e:AV):A2:=N0 (Y12 u u a u u b d u u u u e)
def T237 (a b d e f g j k:AV):A2:=N7 (Y10 u u a u u b d e f g) (Y13 u u u u u u u u u u u u j) .nil .nil .nil .nil .nil (Y3 u u k)
def T238 (a b d e f g j k:AV):A2:=N8 (Y10 u u a u u b d e f g) (Y13 u u u u u u u u u u u u j) .nil .nil .nil .nil .nil .nil (Y14 u u u u u u u u u u u u u k)
def T239 (a b d e f g j k:AV):A2:=N9 (Y10 u u a u u b d e f g) (Y13 u u u u u u u u u u u u j) .nil .nil .nil .nil .nil .nil .nil (Y3 u u k)
def T240 (a b d e f g j:AV):A2:=N9 (Y10 u u a u u b d e f g) .nil .nil .nil .nil .nil .nil .nil .nil (Y8 u u u u u u u j)
def T241 (a b d e f g:AV):A2:=N0 (Y15 u u a u u b d e f u u u u u g)
def T242 (a b d e:AV):A2:=N0 (Y15 u u a u u b d u u u u u u u e)
def T243 (a b d e f g:AV):A2:=N1 (Y10 u u a u u b u d e f) (Y1 g)
def T244 (a b d e:AV):A2:=N1 (Y10 u u a u u b u u u d) (Y1 e)
def T245 (a b d e:AV):A2:=N0 (Y9 u u a u u b u d e)
def T246 (a b:AV):A2:=N0 (Y10 u a u u u u u u u b)
def T247 (a b d:AV):A2:=N0 (Y11 u a u u u u u u u b d)
def T248 (a b d:AV):A2:=N1 (Y10 u a u u u u u u u b) (Y1 d)
def T249 (a b d:AV):A2:=N1 (Y10 u a u u u u u u u b) (.mk u u u u u u u u u u u u u u u d)
def T250 (a b d:AV):A2:=N4 (Y10 u a u u u u u u u b) .nil .nil .nil (Y2 u d)
def T251 (a b d:AV):A2:=N4 (Y10 u a u u u u u u u b) .nil .nil .nil (Y13 u u u u u u u u u u u u d)
def T252 (a b d:AV):A2:=N4 (Y10 u a u u u u u u u b) .nil .nil .nil (Y15 u u u u u u u u u u u u u u d)
def T253 (a b:AV):A2:=N5 (Y2 u a) .nil .nil .nil .nil (Y1 b)
def T254 (a b d:AV):A2:=N0 (Y6 u a u b u d)
def T255 (a b d:AV):A2:=N0 (Y8 u a u b u u u d)
def T256 (a b d:AV):A2:=N0 (Y8 u a b u u u u d)
def T257 (a b d e:AV):A2:=N0 (Y9 u a b u u u u d e)
def T258 (a b d e:AV):A2:=N2 (Y8 u a b u u u u d) .nil (Y12 u u u u u u u u u u u e)
def T259 (a b d e f:AV):A2:=N2 (Y8 u a b u u u u d) .nil (Y13 u u u u u u u u u u u e f)
def T260 (a b d:AV):A2:=N0 (Y13 u a b u u u u u u u u u d)
def T261 (a b d e:AV):A2:=N4 (Y8 u u a u u u u b) .nil (Y12 u u u u u u u u u u u d) .nil (Y6 u u u u u e)
def T262 (a b:AV):A2:=N0 (Y14 u u u u u u u a u u u u u b)
def T263 (a b d e:AV):A2:=N5 (Y8 u u a u u u u b) .nil (Y12 u u u u u u u u u u u d) .nil .nil (Y11 u u u u u u u u u u e)
def T264 (a b d e:AV):A2:=N6 (Y8 u u a u u u u b) .nil (Y12 u u u u u u u u u u u d) .nil .nil .nil (Y5 u u u u e)
def T265 (a b d e:AV):A2:=N7 (Y8 u u a u u u u b) .nil (Y12 u u u u u u u u u u u d) .nil .nil .nil .nil (Y2 u e)
def T266 (a b:AV):A2:=N0 (.mk u u u u u u u a u u u u u u u b)
def T267 (a b d:AV):A2:=N0 (Y6 u u a b u d)
def T268 (a b d:AV):A2:=N0 (Y7 u u a b u u d)
def T269 (a b d e f:AV):A2:=N0 (Y12 u a b u u u u d u u e f)
def T270 (a b d e f g:AV):A2:=N0 (Y13 u a b u u u u d u u e f g)
def T271 (a b d e f g j:AV):A2:=N1 (Y12 u a b u u u u d u u e f) (Y2 g j)
def T272 (a b d e f g j k:AV):A2:=N4 (Y12 u a b u u u u d u u e f) (Y2 g j) .nil .nil (Y2 u k)
def T273 (a b d e f g j k l:AV):A2:=N4 (Y12 u a b u u u u d u u e f) (Y2 g j) .nil .nil (Y3 u k l)
def T274 (a b d e f g:AV):A2:=N1 (Y8 u a b u u u u d) (Y3 e f g)
def T275 (a b d:AV):A2:=N1 (Y8 u u u u u u u a) (Y2 b d)
def T276 (a b d e f g j k:AV):A2:=N5 (Y12 u u a u u u u b u u d e) (Y2 f g) .nil .nil (Y2 u j) (Y8 u u u u u u u k)
def T277 (a b d e f g j:AV):A2:=N1 (Y12 u u a u u u u b u u d e) (Y4 f g u j)
def T278 (a b d e f g:AV):A2:=N1 (Y12 u u a u u u u b u u d e) (Y4 f u u g)
def T279 (a b d e f g j k:AV):A2:=N8 (Y12 u u a u u u u b u u d e) (Y2 f g) .nil .nil (Y2 u j) .nil .nil .nil (Y8 u u u u u u u k)
def T280 (a b d e f g j k:AV):A2:=N9 (Y12 u u a u u u u b u u d e) (Y2 f g) .nil .nil (Y2 u j) .nil .nil .nil .nil (Y3 u u k)
def T281 (a b d e f:AV):A2:=N1 (Y11 u u u u u u u a u u b) (Y7 d e u u u u f)
def T282 (a b d e f g j k:AV):A2:=N10 (Y12 u u a u u u u b u u d e) (Y2 f g) .nil .nil (Y2 u j) .nil .nil .nil .nil .nil (Y8 u u u u u u u k)
def T283 (a b d e f g j:AV):A2:=N11 (Y12 u u a u u u u b u u d e) (Y2 f g) .nil .nil .nil .nil .nil .nil .nil .nil .nil (Y11 u u u u u u u u u u j)
def T284 (a b d e f:AV):A2:=N1 (Y8 u u u u u u u a) (Y11 u u u u u u u b d e f)
def T285 (a b:AV):A2:=N1 (Y8 u u u u u u u a) (Y8 u u u u u u u b)
def T286 (a b:AV):A2:=N0 (Y5 a u u u b)
def T287 (a b d:AV):A2:=N0 (Y7 u a u u u b d)
def T288 (a b d e:AV):A2:=N0 (Y7 u a b u u d e)
def T296 (a b:AV):A2:=N0 (Y7 u u u u u a b)
def T305 (a b d e:AV):A2:=N0 (Y12 a u u b d u u u u u u e)
def T328 (a b:AV):A2:=N0 (Y7 u a u u u u b)
def T355 (a b d:AV):A2:=N0 (Y10 a u u u u u b u u d)
def T356 (a b d:AV):A2:=N1 (Y10 a u u u u u u u u b) (.mk u u u u u u u u u u u u u u u d)
def T357 (a b d e f:AV):A2:=N1 (Y12 a u u u u u u u u b d e) (.mk u u u u u u u u u u u u u u u f)
def T358 (a b d e f g j:AV):A2:=N2 (Y13 a u u u u u u u u b d e f) (.mk u u u u u u u u u u u u u u u g) (Y15 u u u u u u u u u u u u u u j)
def T359 (a b d e:AV):A2:=N1 (Y12 a u u u u u u u u b u d) (.mk u u u u u u u u u u u u u u u e)
def T364 (a b d e f:AV):A2:=N0 (Y9 a b d e u u u u f)
def T365 (a b d e f g:AV):A2:=N0 (Y10 a b d e u u u u f g)
def T372 (a b d e:AV):A2:=N0 (Y14 a u u u u u u u u u u b d e)
def T373 (a b d e f:AV):A2:=N0 (Y14 a u u u u b u u u u u d e f)
def T374 (a b d e f:AV):A2:=N0 (Y10 a u u u u u b d e f)
def T375 (a b d e f:AV):A2:=N0 (Y12 a u u b u u u u u d e f)
def T376 (a b d e f g:AV):A2:=N1 (Y12 a u u b u u u u u d e f) (Y5 u u u u g)
def T377 (a b d e:AV):A2:=N1 (Y7 u u u u u u a) (Y12 u u u u u u u u u b d e)
def T378 (a b d:AV):A2:=N0 (Y5 a b u u d)
def T379 (a b d e:AV):A2:=N2 (Y5 a b u u d) .nil (Y6 u u u u u e)
def T380 (a b d e:AV):A2:=N0 (Y13 a b u u d u u u u u u u e)
def T381 (a b d e:AV):A2:=N0 (Y15 u a u u b u u u u u u u u d e)
def T382 (a b d:AV):A2:=N0 (Y14 u u u a b u u u u u u u u d)
def T383 (a b d e:AV):A2:=N0 (Y15 u u u a b u u u u u u u u d e)
def T384 (a b d e:AV):A2:=N1 (Y14 u u u a b u u u u u u u u d) (Y10 u u u u u u u u u e)
def T385 (a b d e:AV):A2:=N1 (Y14 u u u a b u u u u u u u u d) (Y15 u u u u u u u u u u u u u u e)
def T386 (a b d e:AV):A2:=N2 (Y14 u u u a b u u u u u u u u d) .nil (Y3 u u e)
def T387 (a b:AV):A2:=N0 (Y5 u u u a b)
def T388 (a b d:AV):A2:=N0 (Y6 u u u a b d)
def T389 (a b d e:AV):A2:=N4 (Y14 u u u a b u u u u u u u u d) .nil .nil .nil (Y7 u u u u u u e)
def T390 (a b d:AV):A2:=N6 (Y5 u u u a b) .nil .nil .nil .nil .nil (Y7 u u u u u u d)
def T391 (a b d:AV):A2:=N0 (Y7 u u u a b u d)
def T392 (a b d e:AV):A2:=N0 (Y8 u u u a b u d e)
def T393 (a b d:AV):A2:=N0 (Y12 u a b u u u u u u u u d)
def T394 (a b d e:AV):A2:=N0 (Y13 u a b u u u u u u u u d e)
def T395 (a b d:AV):A2:=N1 (Y3 u a b) (Y2 u d)
def T396 (a b d:AV):A2:=N0 (Y7 a u u u u b d)
def T398 (a b d:AV):A2:=N0 (Y8 u a u u u u b d)
def T399 (a b d e:AV):A2:=N0 (Y5 u a b d e)
def T400 (a b d e:AV):A2:=N0 (Y10 u a b d u u u u u e)
def T401 (a b d e f:AV):A2:=N0 (Y11 u a b d u u u u u e f)
def T428 (a b d:AV):A2:=N0 (Y8 a u u u b u u d)
def T429 (a b:AV):A2:=N0 (Y9 a u u u u u u u b)
def T430 (a b d e:AV):A2:=N0 (Y11 a u u u u u u u b d e)
def T431 (a b:AV):A2:=N0 (Y15 u u u u u u u u a u u u u u b)
def T432 (a b d:AV):A2:=N0 (.mk u u u u u u u u a u u u u u b d)
def T433 (a:AV):A2:=N0 (Y15 u u u u u u u u u u u u u u a)
def T454 (a b:AV):A2:=N0 (Y6 u a u u u b)
def T455 (a b d:AV):A2:=N1 (Y6 u a u u u b) (Y7 u u u u u u d)
def T456 (a b d:AV):A2:=N2 (Y6 u a u u u b) .nil (Y2 u d)
def T457 (a b:AV):A2:=N2 (Y2 u a) .nil (Y13 u u u u u u u u u u u u b)
def T458 (a b d e:AV):A2:=N0 (Y7 u a b d u u e)
def T463 (a b d e f:AV):A2:=N1 (Y6 a u u u u b) (Y8 u u u u u d e f)
def T464 (a b d e f g j k:AV):A2:=N1 (Y11 a u u u u b u d e u f) (Y8 u u u u u g j k)
def T465 (a b d:AV):A2:=N3 (Y6 a u u u u b) .nil .nil (Y5 u u u u d)
def T466 (a b:AV):A2:=N5 (Y1 a) .nil .nil .nil .nil (Y2 u b)
def T468 (a b d:AV):A2:=N0 (.mk a b u u u u u u u u u u u u u d)
def T469 (a b d e f g j:AV):A2:=N0 (.mk a b u u u d e f g u u u u u u j)
def T470 (a b d e f g:AV):A2:=N0 (.mk a b u u u d e f u u u u u u u g)
def T471 (a b d e f:AV):A2:=N3 (Y2 a b) .nil .nil (Y7 u u u u d e f)
def T472 (a b d e:AV):A2:=N0 (Y7 a b d u u u e)
def T474 (a b d:AV):A2:=N0 (Y9 u a b u u u u u d)
def T475 (a b d e:AV):A2:=N0 (Y10 u a b u u u u u d e)
def T476 (a b:AV):A2:=N0 (Y9 u u a u u u u u b)
def T477 (a b d e:AV):A2:=N0 (Y14 u u a u u u u u b u u u d e)
def T478 (a b d e:AV):A2:=N3 (Y14 u u u u u u u u a u u u b d) .nil .nil (Y15 u u u u u u u u u u u u u u e)
def T479 (a b d e f:AV):A2:=N4 (Y14 u u u u u u u u a u u u b d) .nil .nil (Y15 u u u u u u u u u u u u u u e) (Y14 u u u u u u u u u u u u u f)
def T480 (a b:AV):A2:=N0 (Y14 u u u u u u u u u u u u a b)
def T481 (a b d e f:AV):A2:=N5 (Y14 u u u u u u u u a u u u b d) .nil .nil (Y15 u u u u u u u u u u u u u u e) .nil (Y8 u u u u u u u f)
def T482 (a b d e f:AV):A2:=N6 (Y14 u u u u u u u u a u u u b d) .nil .nil (Y15 u u u u u u u u u u u u u u e) .nil .nil (Y4 u u u f)
def T483 (a b d e:AV):A2:=N6 (Y14 u u u u u u u u a u u u b d) .nil .nil .nil .nil .nil (Y10 u u u u u u u u u e)
def T484 (a b d e:AV):A2:=N0 (Y15 u u u u u u u u a u u u b d e)
def T485 (a b d e f:AV):A2:=N0 (Y10 u a b d u u e u u f)
def T497 (a b d e:AV):A2:=N0 (Y9 u u u u u a b d e)
def T498 (a b:AV):A2:=N0 (Y9 u u u u u u u a b)
def T505 (a b d e f:AV):A2:=N0 (Y11 u a b d u u e u u u f)
def T517 (a b d e f g:AV):A2:=N0 (Y9 a b d u u u e f g)
def T518 (a b d e f g:AV):A2:=N3 (Y11 u a b d u u e u u u f) .nil .nil (Y9 u u u u u u u u g)
def T519 (a b d e f g:AV):A2:=N0 (Y13 u a b d u u e u u u f u g)
def T520 (a b d e:AV):A2:=N0 (Y13 u u u a u u b u u u d u e)
def T521 (a b d e f:AV):A2:=N6 (Y13 u u u a u u b u u u d u e) .nil .nil .nil .nil .nil (Y2 u f)
def T522 (a b d e f g:AV):A2:=N6 (Y13 u u u a u u b u u u d u e) .nil .nil .nil .nil .nil (Y3 u f g)
def T523 (a b d e f g:AV):A2:=N6 (Y13 u u u a u u b u u u d u e) .nil .nil .nil .nil .nil (.mk u f u u u u u u u u u u u u u g)
def T524 (a b d e f g:AV):A2:=N7 (Y13 u u u a u u b u u u d u e) .nil .nil .nil .nil .nil (Y2 u f) (Y6 u u u u u g)
def T525 (a b d e f g:AV):A2:=N8 (Y13 u u u a u u b u u u d u e) .nil .nil .nil .nil .nil (Y2 u f) .nil (Y1 g)
def T526 (a b d e f g:AV):A2:=N8 (Y13 u u u a u u b u u u d u e) .nil .nil .nil .nil .nil (Y2 u f) .nil (Y12 u u u u u u u u u u u g)
def T550 (a b d e f:AV):A2:=N0 (Y8 u a b d u u e f)
def T551 (a b d e:AV):A2:=N0 (Y14 u u u u u u u u u a u b d e)
def f435:AF:=.ext (.fn oC)
def f461:AF:=.ext .BA
def f467:AF:=.ext .Gh
def f468:AF:=.ext (.LL 5)
def f518:AF:=.ext (.fn wv)
def f4:AF:=.mk b4 [.t .h0 .h0]
def f5:AF:=.mk b5 [.t .h0 .h0]
def f6:AF:=.mk b6 [.t .h0 .h0]
def f7:AF:=.mk b7 [.agg 7 .h0 .h2]
def f8:AF:=.mk b8 [.agg 3 .h0 .h4]
def f9:AF:=.mk b9 [.agg 3 .h0 .h2]
def f10:AF:=.mk b10 [.agg 3 .h0 .h2]
def f11:AF:=.mk b11 [.t .h0 .h2]
def f12:AF:=.mk b12 [.agg 3 .h0 .h4]
def f13:AF:=.mk b13 [.agg 7 .h0 .h4]
def f14:AF:=.mk b14 [.agg 7 .h0 .h6]
def f15:AF:=.mk b15 [.agg 3 .h0 .h4]
def f16:AF:=.mk b16 [.agg 3 .h0 .h4]
def f17:AF:=.mk b17 [.t .h0 .h4]
def f18:AF:=.mk b18 [.t .h0 .h2,.t .h0 .h3]
def f19:AF:=.mk b19 [.agg 7 .h0 .h2,.t .h0 .h3]
def f20:AF:=.mk b20 [.t .h0 .h2]
def f21:AF:=.mk b21 [.t .h0 .h0]
def f22:AF:=.mk b22 [.t .h0 .h0]
def f23:AF:=.mk b23 [.t .h0 .h0]
def f24:AF:=.mk b24 [.agg 7 .h0 .h4]
def f25:AF:=.mk b25 [.t .h0 .h0]
def f26:AF:=.mk b26 [.t .h0 .h0]
def f27:AF:=.mk b27 [.t .h0 .h6,.agg 3 .h0 .h7]
def f28:AF:=.mk b28 [.agg 3 .h0 .h4]
def f29:AF:=.mk b29 [.t .h0 .h8]
def f30:AF:=.mk b30 [.t .h0 .h6,.agg 3 .h0 .h7]
def f31:AF:=.mk b31 [.agg 3 .h0 .h4]
def f32:AF:=.mk b32 [.t .h0 .h8]
def f33:AF:=.mk b33 [.t .h0 .h2]
def f34:AF:=.mk b34 [.t .h0 .h2]
def f35:AF:=.mk b35 [.t .h0 .h4]
def f36:AF:=.mk b36 [.t .h0 .h2]
def f37:AF:=.mk b37 [.t .h0 .h2]
def f38:AF:=.mk b38 [.t .h0 .h4,.t .h0 .h5]
def f39:AF:=.mk b39 [.t .h0 .h4,.t .h0 .h5]
def f40:AF:=.mk b40 [.t .h0 .h4]
def k41_0:KF:=K2 y0 y1 fun c i x h a b=>
 J a h fun d h=>
 A 2 d h fun e h=>
 L e h fun f h=>
 tR (zH (.one .s) .dP false f b h) fun g h=>
 tR (bK .jM g .dP h) fun j h=>
 I j (.ret (T35 .aj (.bool false)) h) (C c 84 [g] h fun k h=>
 .ret (T35 k (.bool true)) h)
def x41:AC:=(.ah k41_0 .skip)
def f41:AF:=.mk x41 [.t .h0 .h4,.t .h0 .h5]
def f42:AF:=.mk b42 [.t .h0 .h4,.t .h0 .h5]
def f43:AF:=.mk b43 [.t .h0 .h4]
def f44:AF:=.mk b44 [.t .h0 .h2]
def f45:AF:=.mk b45 [.t .h0 .h2,.t .h0 .h3]
def f46:AF:=.mk b46 [.t .h0 .h2]
def f47:AF:=.mk b47 [.t .h0 .h2,.t .h0 .h3]
def f48:AF:=.mk b48 [.t .h0 .h4]
def f49:AF:=.mk b49 [.t .h0 .h2,.t .h0 .h3]
def f50:AF:=.mk b50 [.t .h0 .h2]
def f51:AF:=.mk b51 [.t .h0 .h4,.t .h0 .h5]
def f52:AF:=.mk b52 [.t .h0 .h4]
def f53:AF:=.mk b53 [.t .h0 .h2]
def f54:AF:=.mk b54 [.t .h0 .h4]
def f55:AF:=.mk b55 [.t .h0 .h2]
def f59:AF:=.mk b59 [.t .h0 .h0]
def f60:AF:=.mk b60 []
def f61:AF:=.mk b61 [.t .h0 .h2]
def f62:AF:=.mk b62 [.t .h0 .h2]
def f64:AF:=.mk b64 [.t .h0 .h2]
def f65:AF:=.mk b65 [.t .h0 .h4]
def f66:AF:=.mk b66 [.t .h0 .h6]
def f67:AF:=.mk b67 []
def f68:AF:=.mk b68 [.t .h0 .h4,.t .h0 .h5]
def f71:AF:=.mk b71 [.agg 3 .h0 .h6]
def f72:AF:=.mk b72 [.t .h0 .h4]
def f73:AF:=.mk b73 [.agg 3 .h0 .h4]
def f74:AF:=.mk b74 [.t .h0 .h6]
def f75:AF:=.mk b75 [.agg 3 .h0 .h6]
def f76:AF:=.mk b76 [.t .h0 .h4,.t .h0 .h5]
def f77:AF:=.mk b77 [.t .h0 .h6,.t .h0 .h7,.t .h0 .h8]
def k78_4:KF:=K3 y0 y1 y6 fun c i x h a b d=>
 D d i1 h fun e h=>
 .nm (T11 a b e) h
def k78_3:KF:=K3 y0 y1 y6 fun c i x h a b d=>
 J a h fun e h=>
 A 0 e h fun f h=>
 A 1 f h fun g h=>
 L g h fun j h=>
 X 11 j d h fun k h=>
 A 0 k h fun l h=>
 L l h fun m h=>
 tR (bN m b h) fun n h=>
 I n (J a h fun o h=>
 A 0 o h fun p h=>
 A 1 p h fun q h=>
 L q h fun s h=>
 X 11 s d h fun t h=>
 A 2 t h fun v h=>
 M 8 v h fun w h=>
 J a h fun y h=>
 A 2 y h fun z h=>
 L z h fun a0 h=>
 C c 137 [w,a0] h fun a1 h=>
 E 0 a1 h fun a2 h=>
 E 1 a1 h fun a3 h=>
 .ret (T35 a2 a3) h) (x (T11 a b d) h)
def k78_2:KF:=K3 y0 y1 y6 fun c i x h a b d=>
 J a h fun e h=>
 A 0 e h fun f h=>
 A 1 f h fun g h=>
 L g h fun j h=>
 G j h fun k h=>
 Y d k h fun l h=>
 I l (x (T11 a b d) h) (.ex 0 T15 h)
def k78_1:KF:=K2 y0 y1 fun c i x h a b=>
 x (T11 a b i0) h
def k78_5:KF:=fun c i x r h=>
 .ret (T35 .aj (pi 12)) h
def k78_0:KF:=K2 y0 y1 fun c i x h a b=>
 x (T13 a b) h
def x78:AC:=(.ah k78_0 (.seq (.ah k78_1 (.block 0 (.loop (.ah k78_2 (.ah k78_3 (.ah k78_4 .skip)))))) (.ah k78_5 .skip)))
def f78:AF:=.mk x78 [.t .h0 .h4,.t .h0 .h5]
def f79:AF:=.mk b79 [.t .h0 .h4]
def f80:AF:=.mk b80 [.agg 3 .h0 .h4]
def f81:AF:=.mk b81 [.t .h0 .h2]
def k82_2:KF:=K4 y3 y6 y7 y8 fun c i x h a b d e=>
 Y e d h fun f h=>
 I f (X 2 b e h fun g h=>
 M 2 g h fun j h=>
 O 167 2 (.k1 (Y2 .aj (.aM .f64 0 0))) h fun k h=>
 S 2 k j h fun l h=>
 A 0 k h fun m h=>
 L m h fun n h=>
 A 1 k h fun o h=>
 L o h fun p h=>
 C c 139 [n,p] h fun q h=>
 tR (bs 167 2 1 [.aj,(.aM .f64 0 0)] [.mk 0 2 (.c q)] h) fun s h=>
 tR (eI 167 2 a s h) fun t h=>
 D e i1 h fun v h=>
 .nm (T95 t b d v) h) (.ex 0 (T95 a b d e) h)
def k82_1:KF:=K2 y0 y3 fun c i x h a b=>
 G a h fun d h=>
 x (T95 b a d i0) h
def k82_3:KF:=K1 y3 fun c i x h a=>
 .ret (T1 a) h
def k82_0:KF:=K1 y0 fun c i x h a=>
 x (T3 a .aj) h
def x82:AC:=(.ah k82_0 (.seq (.ah k82_1 (.block 0 (.loop (.ah k82_2 .skip)))) (.ah k82_3 .skip)))
def f82:AF:=.mk x82 [.t .h0 .h2]
def f83:AF:=.mk b83 [.t .h0 .h4]
def k84_0:KF:=K1 y0 fun c i x h a=>
 J a h fun b h=>
 A 0 b h fun d h=>
 L d h fun e h=>
 J e h fun f h=>
 A 11 f h fun g h=>
 L g h fun j h=>
 C c 82 [j] h fun k h=>
 .ret (T1 k) h
def x84:AC:=(.ah k84_0 .skip)
def f84:AF:=.mk x84 [.t .h0 .h2]
def f85:AF:=.mk b85 [.t .h0 .h4]
def f86:AF:=.mk b86 [.t .h0 .h2]
def f87:AF:=.mk b87 [.t .h0 .h6,.t .h0 .h7,.t .h0 .h8]
def f88:AF:=.mk b88 [.t .h0 .h2]
def f89:AF:=.mk b89 [.t .h0 .h2]
def f92:AF:=.mk b92 [.t .h0 .h2]
def f93:AF:=.mk b93 [.agg 8 .h0 .h2,.t .h0 .h3,.t .h0 .h4]
def k94_0:KF:=K1 y0 fun c i x h a=>
 tR (bK (.jR .s) a .aj h) fun b h=>
 I b (.ret (T1 .aj) h) (tR (bs 119 2 0 [] [] h) fun d h=>
 tR (eI 119 2 d a h) fun e h=>
 .ret (T1 e) h)
def x94:AC:=(.ah k94_0 .skip)
def f94:AF:=.mk x94 [.t .h0 .h2]
def f95:AF:=.mk b95 [.t .h0 .h4,.t .h0 .h5]
def k96_2:KF:=K4 y0 y6 y9 y10 fun c i x h a b d e=>
 J a h fun f h=>
 A 0 f h fun g h=>
 W g d h fun j h=>
 J a h fun k h=>
 A 2 k h fun l h=>
 W l b h fun m h=>
 C c 82 [e] h fun n h=>
 .ret (T35 n i0) h
def k96_1:KF:=K3 y0 y6 y7 fun c i x h a b d=>
 J a h fun e h=>
 A 0 e h fun f h=>
 L f h fun g h=>
 C c 161 [g] h fun j h=>
 C c 162 [j,d] h fun k h=>
 E 0 k h fun l h=>
 E 1 k h fun m h=>
 tR (dH m i0 h) fun n h=>
 I n (.ret (T35 .aj m) h) (x (T110 a b j l) h)
def k96_0:KF:=K2 y0 y1 fun c i x h a b=>
 C c 160 [a,b] h fun d h=>
 E 0 d h fun e h=>
 E 1 d h fun f h=>
 E 2 d h fun g h=>
 tR (dH g i0 h) fun j h=>
 I j (.ret (T35 .aj g) h) (x (T109 a e f) h)
def x96:AC:=(.ah k96_0 (.ah k96_1 (.ah k96_2 .skip)))
def f96:AF:=.mk x96 [.t .h0 .h4,.t .h0 .h5]
def f97:AF:=.mk b97 [.t .h0 .h4]
def f98:AF:=.mk b98 [.t .h0 .h2]
def f99:AF:=.mk b99 []
def f100:AF:=.mk b100 [.t .h0 .h4]
def f104:AF:=.mk b104 []
def f106:AF:=.mk b106 []
def f107:AF:=.mk b107 []
def f109:AF:=.mk b109 [.t .h0 .h4]
def f110:AF:=.mk b110 [.t .h0 .h2]
def f111:AF:=.mk b111 []
def f112:AF:=.mk b112 [.t .h0 .h4]
def f113:AF:=.mk b113 [.t .h0 .h4]
def f114:AF:=.mk b114 [.t .h0 .h4]
def f115:AF:=.mk b115 [.t .h0 .h3]
def k116_2:KF:=K5 y0 y1 y2 y7 y8 fun c i x h a b d e f=>
 D f e h fun g h=>
 tR (mV (.c a) .nil h) fun j h=>
 tR (lK g j h) fun k h=>
 x (T116 a b d e f k) h
def k116_5:KF:=K5 y0 y1 y2 y7 y8 fun c i x h a b d e f=>
 tR (da 3 (.c a) (.some (.c f)) .none .none .nil h) fun g h=>
 tR (FZ 3 g d h) fun j h=>
 tR (da 3 (.c a) (.some (.c b)) .none .none .nil h) fun k h=>
 C c 172 [k,e] h fun l h=>
 .ret (T5 a) h
def k116_4:KF:=K5 y0 y1 y2 y7 y8 fun c i x h a b d e f=>
 D b e h fun g h=>
 tR (da 3 (.c a) (.some (.c g)) .none .none .nil h) fun j h=>
 C c 171 [d,j] h fun k h=>
 tR (cZ k h) fun l h=>
 I l (D b e h fun m h=>
 tR (da 3 (.c a) (.some (.c m)) .none .none .nil h) fun n h=>
 tR (da 3 (.c a) (.some (.c b)) .none .none .nil h) fun o h=>
 tR (FZ 3 n o h) fun p h=>
 tR (da 3 (.c a) (.some (.c b)) .none .none .nil h) fun q h=>
 tR (FZ 3 q d h) fun s h=>
 .ret (T5 a) h) (x (T115 a b d e f) h)
def k116_3:KF:=K5 y0 y1 y2 y7 y8 fun c i x h a b d e f=>
 D f e h fun g h=>
 tR (da 3 (.c a) .none (.some (.c g)) .none .nil h) fun j h=>
 x (T115 j b d e f) h
def k116_1:KF:=K5 y0 y1 y2 y7 y8 fun c i x h a b d e f=>
 Q b f h fun g h=>
 I g (tR (eI 127 3 a d h) fun j h=>
 .ret (T5 j) h) (x (T115 a b d e f) h)
def k116_0:KF:=K3 y0 y1 y2 fun c i x h a b d=>
 tR (da 3 (.c a) (.some (.c b)) .none .none .nil h) fun e h=>
 G d h fun f h=>
 Q f i0 h fun g h=>
 I g (.ret (T5 a) h) (G a h fun j h=>
 x (T115 a b d f j) h)
def p116:PK:=(.ins 127 3)
def x116:AC:=(.ah k116_0 (.ah k116_1 (.seq (.ah k116_2 (.cond r31 (.bad 0) .skip)) (.ah k116_3 (.ah k116_4 (.ah k116_5 .skip))))))
def f116:AF:=.mW p116 x116 [.t .h0 .h6]
def f117:AF:=.mk b117 [.t .h0 .h4]
def f118:AF:=.mk b118 [.t .h0 .h4]
def f120:AF:=.mk b120 [.t .h0 .h2]
def f121:AF:=.mk b121 [.t .h0 .h4]
def f122:AF:=.mk b122 [.t .h0 .h6]
def f123:AF:=.mk b123 [.t .h0 .h4,.t .h0 .h5,.t .h0 .h6,.t .h0 .h7]
def f124:AF:=.mk b124 [.t .h0 .h4]
def f125:AF:=.mk b125 [.t .h0 .h3]
def f126:AF:=.mk b126 [.t .h0 .h4]
def f127:AF:=.mk b127 [.t .h0 .h2]
def f128:AF:=.mk b128 [.t .h0 .h2]
def k129_2:KF:=K3 y0 y3 y4 fun c i x h a b d=>
 G b h fun e h=>
 Y d e h fun f h=>
 I f (X 1 b d h fun g h=>
 L g h fun j h=>
 tR (bN j a h) fun k h=>
 I k (.ret (T1 (.bool false)) h) (D d i1 h fun l h=>
 .nm (T4 a b l) h)) (.ex 0 (T4 a b d) h)
def k129_1:KF:=K2 y0 y3 fun c i x h a b=>
 x (T4 a b i0) h
def k129_5:KF:=K3 y0 y5 y34 fun c i x h a b d=>
 I d (.ret (T1 (.bool false)) h) (.nm (T20 a b) h)
def k129_6:KF:=K2 y0 y5 fun c i x h a b=>
 D b i1 h fun d h=>
 .nm (T20 a d) h
def k129_4:KF:=K2 y0 y5 fun c i x h a b=>
 tR (gi a h) fun d h=>
 Y b d h fun e h=>
 I e (x (T20 a b) h) (.ex 2 (T0 a) h)
def k129_3:KF:=K1 y0 fun c i x h a=>
 x (T20 a i0) h
def k129_0:KF:=K1 y0 fun c i x h a=>
 tR (bs 9 1 23 [iS,iS,iS,iS,iS,iS,iS,iS,iS,iS,iS,iS,iS,iS,iS,iS,iS,iS,iS,iS,iS,iS,iS] [.mk 0 1 (.c (.str [116,97,98,108,101])),.mk 1 1 (.c (.str [102,105,108,116,101,114])),.mk 2 1 (.c (.str [112,114,111,106,101,99,116])),.mk 3 1 (.c (.str [106,111,105,110])),.mk 4 1 (.c (.str [117,110,105,111,110])),.mk 5 1 (.c (.str [100,105,115,116,105,110,99,116])),.mk 6 1 (.c (.str [103,114,111,117,112])),.mk 7 1 (.c (.str [99,111,117,110,116])),.mk 8 1 (.c (.str [115,117,109])),.mk 9 1 (.c (.str [109,105,110])),.mk 10 1 (.c (.str [109,97,120])),.mk 11 1 (.c (.str [97,100,100])),.mk 12 1 (.c (.str [115,117,98])),.mk 13 1 (.c (.str [109,117,108])),.mk 14 1 (.c (.str [110,101,103])),.mk 15 1 (.c (.str [101,113])),.mk 16 1 (.c (.str [108,116])),.mk 17 1 (.c (.str [97,110,100])),.mk 18 1 (.c (.str [111,114])),.mk 19 1 (.c (.str [110,111,116])),.mk 20 1 (.c (.str [99,97,116])),.mk 21 1 (.c (.str [108,101,110])),.mk 22 1 (.c (.str [105,102]))] h) fun b h=>
 x (T3 a b) h
def x129:AC:=(.ah k129_0 (.seq (.ah k129_1 (.block 0 (.loop (.ah k129_2 .skip)))) (.seq (.ah k129_3 (.block 2 (.loop (.ah k129_4 (.seq (.block 3 (.seq (.ops [m d25 r0,
 m d26 r5,
 o d27 (.idxs r25 r26),
 o d28 (.bin .lt r27 (.c (.int .u8 (.ofNat 97)))),
 m d29 r28,
 .g .h1 .hd false d30 (.op (.mv r0)),
 .g .h1 .hd false d31 (.op (.mv r5)),
 .g .h1 .hd false d32 (.op (.idxs r30 r31)),
 .g .h1 .hd false d33 (.op (.bin .gt r32 (.c (.int .u8 (.ofNat 122))))),
 o d34 (.pick r29 (.c (.bool true)) r33)]) (.ah k129_5 .skip))) (.ah k129_6 .skip)))))) (.seq (.ops [m d35 r0,
 o d36 (.gi r35),
 o d37 (.bin .ge r36 a1),
 m d38 r37,
 .g .h2 .h6 true d39 (.op (.mv r0)),
 .g .h2 .h6 true d40 (.op (.gi r39)),
 .g .h2 .h6 true d41 (.op (.bin .le r40 (.c (pi 12)))),
 o d42 (.pick r38 r41 (.c (.bool false))),
 m d2 r42]) .ret))))
def f129:AF:=.mk x129 [.t .h0 .h2]
def f130:AF:=.mk b130 [.t .h0 .h4]
def f131:AF:=.mk b131 [.t .h0 .h4]
def k132_1:KF:=K2 y0 y13 fun c i x h a b=>
 I b (.ret (T1 (pi 23)) h) (.nm (T0 a) h)
def k132_4:KF:=K3 y0 y3 y42 fun c i x h a b d=>
 I d (.ret (T1 (pi 20)) h) (.nm (T3 a b) h)
def k132_5:KF:=K2 y0 y3 fun c i x h a b=>
 tR (da 2 (.c a) .none (.some (.c b)) .none .nil h) fun d h=>
 X 2 a b h fun e h=>
 A 0 e h fun f h=>
 L f h fun g h=>
 C c 189 [d,g] h fun j h=>
 E 0 j h fun k h=>
 E 1 j h fun l h=>
 I l (.ret (T1 (pi 21)) h) (.nm (T3 a b) h)
def k132_6:KF:=K2 y0 y3 fun c i x h a b=>
 D b i1 h fun d h=>
 .nm (T3 a d) h
def k132_3:KF:=K2 y0 y3 fun c i x h a b=>
 G a h fun d h=>
 Y b d h fun e h=>
 I e (x (T3 a b) h) (.ex 0 T15 h)
def k132_2:KF:=K1 y0 fun c i x h a=>
 x (T3 a i0) h
def k132_7:KF:=fun c i x r h=>
 .ret (T1 i0) h
def k132_0:KF:=K1 y0 fun c i x h a=>
 x (T0 a) h
def x132:AC:=(.ah k132_0 (.seq (.seq (.ops [m d6 r0,
 o d7 (.len r6),
 o d8 (.bin .eq r7 a0),
 m d9 r8,
 .g .h0 .h9 false d10 (.op (.mv r0)),
 .g .h0 .h9 false d11 (.op (.len r10)),
 .g .h0 .h9 false d12 (.op (.bin .gt r11 (.c (pi 6)))),
 o d13 (.pick r9 (.c (.bool true)) r12)]) (.ah k132_1 .skip)) (.seq (.ah k132_2 (.block 0 (.loop (.ah k132_3 (.seq (.block 1 (.seq (.seq (.ops [m d20 r0,
 m d21 r3,
 o d22 (.dn 2 r20 r21),
 of d23 0 r22,
 ol d24 r23,
 oc d25 129 [r24],
 o d26 (.un .not r25),
 m d27 r26,
 .g .h1 .hb false d28 (.op (.mv r0)),
 .g .h1 .hb false d29 (.op (.mv r3)),
 .g .h1 .hb false d30 (.op (.dn 2 r28 r29)),
 .g .h1 .hb false d31 (.op (.dh 1 r30)),
 .g .h1 .hb false d32 (.op (.cY r31)),
 .g .h1 .hb false d33 (.op (.bin .ne r32 a1)),
 .g .h1 .hb false d34 (.op (.mv r33)),
 .g .h2 .h2 true d35 (.op (.mv r0)),
 .g .h2 .h2 true d36 (.op (.mv r3)),
 .g .h2 .h2 true d37 (.op (.dn 2 r35 r36)),
 .g .h2 .h2 true d38 (.op (.dh 1 r37)),
 .g .h2 .h2 true d39 (.op (.cY r38)),
 .g .h2 .h2 true d40 (.op (.bin .ne r39 a2)),
 .g .h1 .hb false d41 (.op (.pick r34 r40 (.c (.bool false)))),
 o d42 (.pick r27 (.c (.bool true)) r41)]) (.ah k132_4 .skip)) (.ah k132_5 .skip))) (.ah k132_6 .skip)))))) (.ah k132_7 .skip))))
def f132:AF:=.mk x132 [.t .h0 .h2]
def f133:AF:=.mk b133 [.t .h0 .h4]
def k134_2:KF:=K5 y2 y6 y7 y8 y33 fun c i x h a b d e f=>
 I f (U [i0,iS,.aj,.aj,.aj,.aj,.aj,.aj] [] h fun g h=>
 S 8 a g h fun j h=>
 .ret (T101 a (pi 3) i0) h) (.nm (T125 a b d e) h)
def k134_3:KF:=K4 y2 y6 y7 y8 fun c i x h a b d e=>
 M 8 e h fun f h=>
 S 8 a f h fun g h=>
 .ret (T101 a b d) h
def k134_1:KF:=K2 y2 y5 fun c i x h a b=>
 M 5 b h fun d h=>
 C c 192 [d] h fun e h=>
 E 0 e h fun f h=>
 E 1 e h fun g h=>
 E 2 e h fun j h=>
 O 108 8 (.k1 (Y8 i0 iS .aj .aj .aj .aj .aj .aj)) h fun k h=>
 S 8 k f h fun l h=>
 x (T125 a g j k) h
def k134_0:KF:=K1 y0 fun c i x h a=>
 O 108 8 (.k1 (Y8 i0 iS .aj .aj .aj .aj .aj .aj)) h fun b h=>
 C c 191 [a] h fun d h=>
 E 0 d h fun e h=>
 E 1 d h fun f h=>
 E 2 d h fun g h=>
 O 299 5 (.k1 (Y5 i0 iS i0 .aj i0)) h fun j h=>
 S 5 j e h fun k h=>
 tR (dH f i0 h) fun l h=>
 I l (U [i0,iS,.aj,.aj,.aj,.aj,.aj,.aj] [] h fun m h=>
 S 8 b m h fun n h=>
 .ret (T101 b f g) h) (x (T26 b j) h)
def x134:AC:=(.ah k134_0 (.ah k134_1 (.seq (.seq (.ops [m d26 r6,
 o d27 (.bin .eq r26 a0),
 m d28 r27,
 .g .h1 .hc true d29 (.op (.kY 8 r8)),
 .g .h1 .hc true d30 (.call 193 [r29]),
 .g .h1 .hc true d31 (.op (.gi r30)),
 .g .h1 .hc true d32 (.op (.bin .gt r31 (.c (pi 600)))),
 o d33 (.pick r28 r32 (.c (.bool false)))]) (.ah k134_2 .skip)) (.ah k134_3 .skip))))
def f134:AF:=.mk x134 [.agg 8 .h0 .h2,.t .h0 .h3,.t .h0 .h4]
def k135_1:KF:=K2 y1 y2 fun c i x h a b=>
 M 8 b h fun d h=>
 C c 195 [d,a] h fun e h=>
 E 0 e h fun f h=>
 E 1 e h fun g h=>
 E 2 e h fun j h=>
 .ret (T126 f g j) h
def k135_0:KF:=K2 y0 y1 fun c i x h a b=>
 B 108 a h fun d h=>
 C c 194 [b] h fun e h=>
 tR (dH e i0 h) fun f h=>
 I f (.ret (T126 .aj i1 iS) h) (M 8 d h fun g h=>
 C c 136 [g] h fun j h=>
 tR (bN j iS h) fun k h=>
 I k (.ret (T126 .aj (pi 12) iS) h) (x (T104 b d) h))
def x135:AC:=(.ah k135_0 (.ah k135_1 .skip))
def f135:AF:=.mk x135 [.t .h0 .h4,.t .h0 .h5,.t .h0 .h6]
def k136_1:KF:=K2 y3 y22 fun c i x h a b=>
 I b (.ret (T1 iS) h) (.nm (T49 a) h)
def k136_2:KF:=K1 y3 fun c i x h a=>
 .ret (T1 a) h
def k136_0:KF:=K1 y0 fun c i x h a=>
 B 108 a h fun b h=>
 M 8 b h fun d h=>
 C c 193 [d] h fun e h=>
 C c 134 [e] h fun f h=>
 E 0 f h fun g h=>
 E 1 f h fun j h=>
 E 2 f h fun k h=>
 O 108 8 (.k1 (Y8 i0 iS .aj .aj .aj .aj .aj .aj)) h fun l h=>
 S 8 l g h fun m h=>
 x (T127 b e l j) h
def x136:AC:=(.ah k136_0 (.seq (.seq (.ops [m d15 r5,
 o d16 (.bin .ne r15 a0),
 m d17 r16,
 .g .h1 .h1 false d18 (.op (.kY 8 r1)),
 .g .h1 .h1 false d19 (.op (.kY 8 r4)),
 .g .h1 .h1 false d20 (.call 196 [r18,r19]),
 .g .h1 .h1 false d21 (.op (.un .not r20)),
 o d22 (.pick r17 (.c (.bool true)) r21)]) (.ah k136_1 .skip)) (.ah k136_2 .skip)))
def f136:AF:=.mk x136 [.t .h0 .h2]
def k137_2:KF:=K1 y9 fun c i x h a=>
 .ret (T35 a i0) h
def k137_1:KF:=K3 y1 y2 y7 fun c i x h a b d=>
 tR (dH d i0 h) fun e h=>
 I e (.ret (T35 .aj d) h) (M 8 b h fun f h=>
 C c 199 [f,a] h fun g h=>
 E 0 g h fun j h=>
 E 1 g h fun k h=>
 E 2 g h fun l h=>
 tR (dH l i0 h) fun m h=>
 I m (.ret (T35 .aj l) h) (x (T107 j) h))
def k137_0:KF:=K2 y0 y1 fun c i x h a b=>
 B 108 a h fun d h=>
 C c 197 [b] h fun e h=>
 tR (cZ e h) fun f h=>
 I f (.ret (T35 .aj i1) h) (x (T104 b d) h)
def x137:AC:=(.ah k137_0 (.seq (.jQ [q 0 (m d16 r1),
 w (oc d17 198 [r16]),
 q 1 (o d15 (.kY 8 r2)),
 w (oc d18 135 [r15,r17]),
 q 0 (m d14 r18),
 q 0 (oe d19 0 r14),
 q 0 (oe d20 1 r14),
 q 0 (oe d21 2 r14),
 q 0 (m d6 r19),
 q 0 (m d7 r20),
 q 0 (m d8 r21)]) (.ah k137_1 (.ah k137_2 .skip))))
def f137:AF:=.mk x137 [.t .h0 .h4,.t .h0 .h5]
def f138:AF:=.mk b138 [.t .h0 .h4,.t .h0 .h5,.t .h0 .h6,.t .h0 .h7]
def k139_0:KF:=K2 y0 y1 fun c i x h a b=>
 O 167 2 (.k1 (Y2 .aj (.aM .f64 0 0))) h fun d h=>
 C c 207 [a] h fun e h=>
 U [.aj,(.aM .f64 0 0)] [.mk 0 1 (.c e),.mk 1 1 (.c b)] h fun f h=>
 S 2 d f h fun g h=>
 .ret (T2 d) h
def x139:AC:=(.ah k139_0 .skip)
def f139:AF:=.mk x139 [.agg 2 .h0 .h4]
def f140:AF:=.mk b140 [.t .h0 .h4,.t .h0 .h5,.t .h0 .h6]
def f141:AF:=.mk b141 [.t .h0 .h2]
def f142:AF:=.mk b142 []
def f143:AF:=.mk b143 [.t .h0 .h4]
def k146_4:KF:=K5 y0 y5 y6 y7 y50 fun c i x h a b d e f=>
 I f (.ret (T1 (.bool false)) h) (.nm (T138 a b d e) h)
def k146_3:KF:=K4 y0 y5 y6 y7 fun c i x h a b d e=>
 X 2 b e h fun f h=>
 M 2 f h fun g h=>
 O 167 2 (.k1 (Y2 .aj (.aM .f64 0 0))) h fun j h=>
 S 2 j g h fun k h=>
 x (T139 a e j b d e) h
def k146_5:KF:=K4 y0 y5 y6 y7 fun c i x h a b d e=>
 D e i1 h fun f h=>
 .nm (T138 a b d f) h
def k146_2:KF:=K4 y0 y5 y6 y7 fun c i x h a b d e=>
 Y e d h fun f h=>
 I f (x (T138 a b d e) h) (.ex 0 T15 h)
def k146_1:KF:=K1 y0 fun c i x h a=>
 G a h fun b h=>
 x (T138 a a b i0) h
def k146_6:KF:=fun c i x r h=>
 .ret (T1 (.bool true)) h
def k146_0:KF:=K1 y0 fun c i x h a=>
 x (T0 a) h
def x146:AC:=(.ah k146_0 (.seq (.ah k146_1 (.block 0 (.loop (.ah k146_2 (.seq (.block 1 (.ah k146_3 (.seq (.jQ [qf 0 d12 0 r4,
 ql 0 d13 r12,
 w (oc d14 213 [r13]),
 q 0 (o d15 (.un .not r14)),
 q 0 (m d16 r15),
 q 0 (.g .h1 .h0 false d17 (.op (.dh 1 r4))),
 q 0 (.g .h1 .h0 false d18 (.op (.cY r17))),
 w (.g .h1 .h0 false d19 (.call 214 [r18])),
 q 0 (.g .h1 .h0 false d20 (.op (.un .not r19))),
 q 0 (o d21 (.pick r16 (.c (.bool true)) r20)),
 q 0 (m d22 r21),
 q 0 (.g .h1 .h6 false d23 (.op (.dh 1 r4))),
 q 0 (.g .h1 .h6 false d24 (.op (.cY r23))),
 q 0 (.g .h1 .h6 false d25 (.op (.bin (.cop .eql) r24 (.c (.aM .f64 0 0))))),
 q 0 (o d26 (.pick r22 (.c (.bool true)) r25)),
 q 0 (m d27 r26),
 q 0 (.g .h1 .hb false d28 (.op (.dh 1 r4))),
 q 0 (.g .h1 .hb false d29 (.op (.cY r28))),
 w (.g .h1 .hb false d30 (.call 215 [r29])),
 q 1 (.g .h1 .hb false d31 (.op (.dh 1 r4))),
 q 1 (.g .h1 .hb false d32 (.op (.cY r31))),
 q 0 (.g .h1 .hb false d33 (.op (.bin (.cop .neq) r30 r32))),
 q 0 (o d34 (.pick r27 (.c (.bool true)) r33)),
 q 0 (m d35 r34),
 q 0 (.g .h2 .h3 false d36 (.op (.mv r3))),
 q 0 (.g .h2 .h3 false d37 (.op (.bin .gt r36 a0))),
 q 0 (.g .h2 .h3 false d38 (.op (.mv r37))),
 q 0 (.g .h2 .h6 true d39 (.op (.mv r0))),
 q 0 (.g .h2 .h6 true d40 (.op (.mv r3))),
 q 0 (.g .h2 .h6 true d41 (.op (.bin .sub r40 a1))),
 q 0 (.g .h2 .h6 true d42 (.op (.dn 2 r39 r41))),
 q 0 (.g .h2 .h6 true d43 (.op (.dh 0 r42))),
 q 0 (.g .h2 .h6 true d44 (.op (.cY r43))),
 q 0 (.g .h2 .h6 true d45 (.op (.dh 0 r4))),
 q 0 (.g .h2 .h6 true d46 (.op (.cY r45))),
 w (.g .h2 .h6 true d47 (.call 216 [r44,r46])),
 q 0 (.g .h2 .h6 true d48 (.op (.un .not r47))),
 q 0 (.g .h2 .h3 false d49 (.op (.pick r38 r48 (.c (.bool false))))),
 q 0 (o d50 (.pick r35 (.c (.bool true)) r49))]) (.ah k146_4 .skip)))) (.ah k146_5 .skip)))))) (.ah k146_6 .skip)))
def f146:AF:=.mk x146 [.t .h0 .h2]
def f147:AF:=.mk b147 [.t .h0 .h2]
def f148:AF:=.mk b148 [.t .h0 .h2]
def f149:AF:=.mk b149 [.t .h0 .h2]
def k150_0:KF:=K1 y0 fun c i x h a=>
 x (T0 a) h
def x150:AC:=(.ah k150_0 (.seq (.ops [m d3 r0,
 oc d4 146 [r3],
 m d5 r4,
 .g .h0 .h5 true d6 (.op (.mv r0)),
 .g .h0 .h5 true d7 (.call 151 [r6,(.c (.fn 220 []))]),
 .g .h0 .h5 true d8 (.op (.un .not r7)),
 o d9 (.pick r5 r8 (.c (.bool false))),
 m d2 r9]) .ret))
def f150:AF:=.mk x150 [.t .h0 .h2]
def k151_0:KF:=K2 y0 y1 fun c i x h a b=>
 C c 221 [a,b] h fun d h=>
 tR (qW d i0 h) fun e h=>
 .ret (T2 e) h
def x151:AC:=(.ah k151_0 .skip)
def f151:AF:=.mk x151 [.t .h0 .h4]
def f152:AF:=.mk b152 [.t .h0 .h3]
def f153:AF:=.mk b153 [.t .h0 .h4]
def k154_9:KF:=K4 y0 y2 y5 y121 fun c i x h a b d e=>
 I e (U [i0,iS,i0,.aj,i0] [] h fun f h=>
 tR (gi a h) fun g h=>
 S 5 b f h fun j h=>
 .ret (T101 b (pi 10) g) h) (.nm (T26 b d) h)
def k154_10:KF:=K2 y2 y5 fun c i x h a b=>
 J b h fun d h=>
 A 2 d h fun e h=>
 L e h fun f h=>
 X 5 f i0 h fun g h=>
 M 5 g h fun j h=>
 S 5 a j h fun k h=>
 .ret (T101 a i0 i0) h
def k154_8:KF:=K2 y2 y6 fun c i x h a b=>
 U [i0,iS,i0,.aj,i0] [] h fun d h=>
 S 5 a d h fun e h=>
 .ret (T101 a (pi 12) b) h
def k154_7:KF:=K4 y0 y2 y5 y6 fun c i x h a b d e=>
 J d h fun f h=>
 A 1 f h fun g h=>
 L g h fun j h=>
 G j h fun k h=>
 tR (lK k i0 h) fun l h=>
 I l (J d h fun m h=>
 A 1 m h fun n h=>
 L n h fun o h=>
 Z k i1 h fun p h=>
 X 5 o p h fun q h=>
 M 5 q h fun s h=>
 O 258 5 (.k1 (Y5 i0 iS i0 .aj i0)) h fun t h=>
 S 5 t s h fun v h=>
 J d h fun w h=>
 A 1 w h fun y h=>
 L y h fun z h=>
 Z k i1 h fun a0 h=>
 tR (da 5 (.c z) .none (.some (.c a0)) .none .nil h) fun a1 h=>
 J d h fun a2 h=>
 A 1 a2 h fun a3 h=>
 W a3 a1 h fun a4 h=>
 M 5 t h fun a5 h=>
 C c 224 [d,a5] h fun a6 h=>
 D e i1 h fun a7 h=>
 .go 1 (T145 a b d a7) h) (x (T147 b e) h)
def k154_6:KF:=K4 y0 y2 y5 y6 fun c i x h a b d e=>
 D e i1 h fun f h=>
 .go 1 (T145 a b d f) h
def k154_5:KF:=K4 y0 y2 y5 y6 fun c i x h a b d e=>
 J d h fun f h=>
 A 1 f h fun g h=>
 L g h fun j h=>
 G j h fun k h=>
 tR (qW k (pi 12) h) fun l h=>
 I l (U [i0,iS,i0,.aj,i0] [] h fun m h=>
 S 5 b m h fun n h=>
 .ret (T101 b (pi 14) e) h) (C c 225 [d] h fun m h=>
 I m (U [i0,iS,i0,.aj,i0] [] h fun n h=>
 S 5 b n h fun o h=>
 .ret (T101 b (pi 11) e) h) (x (T145 a b d e) h))
def k154_4:KF:=K4 y0 y2 y5 y6 fun c i x h a b d e=>
 C c 223 [d,e] h fun f h=>
 E 0 f h fun g h=>
 E 1 f h fun j h=>
 E 2 f h fun k h=>
 E 3 f h fun l h=>
 O 258 5 (.k1 (Y5 i0 iS i0 .aj i0)) h fun m h=>
 S 5 m g h fun n h=>
 tR (dH k i0 h) fun o h=>
 I o (U [i0,iS,i0,.aj,i0] [] h fun p h=>
 S 5 b p h fun q h=>
 .ret (T101 b k l) h) (M 5 m h fun p h=>
 C c 224 [d,p] h fun q h=>
 x (T145 a b d j) h)
def k154_3:KF:=K4 y0 y2 y5 y6 fun c i x h a b d e=>
 tR (gj (.c a) (.c e) .nil h) fun f h=>
 Q f (.int .u8 (.ofNat 32)) h fun g h=>
 I g (I g (D e i1 h fun j h=>
 .go 1 (T145 a b d j) h) (Q f (.int .u8 (.ofNat 40)) h fun j h=>
 I j (.go 2 (T145 a b d e) h) (Q f (.int .u8 (.ofNat 41)) h fun k h=>
 I k (.go 3 (T145 a b d e) h) (x (T145 a b d e) h)))) (Q f (.int .u8 (.ofNat 10)) h fun j h=>
 I j (D e i1 h fun k h=>
 .go 1 (T145 a b d k) h) (Q f (.int .u8 (.ofNat 40)) h fun k h=>
 I k (.go 2 (T145 a b d e) h) (Q f (.int .u8 (.ofNat 41)) h fun l h=>
 I l (.go 3 (T145 a b d e) h) (x (T145 a b d e) h))))
def k154_2:KF:=K4 y0 y2 y5 y6 fun c i x h a b d e=>
 tR (gi a h) fun f h=>
 tR (qW e f h) fun g h=>
 I g (.go 0 (T146 a b d) h) (x (T145 a b d e) h)
def k154_1:KF:=K2 y0 y2 fun c i x h a b=>
 tR (gi a h) fun d h=>
 tR (lK d (pi 600) h) fun e h=>
 I e (U [i0,iS,i0,.aj,i0] [] h fun f h=>
 S 5 b f h fun g h=>
 .ret (T101 b (pi 3) i0) h) (U [iS,.aj,.aj] [.mk 0 1 (.c a)] h fun f h=>
 B 330 f h fun g h=>
 x (T145 a b g i0) h)
def k154_0:KF:=K1 y0 fun c i x h a=>
 O 258 5 (.k1 (Y5 i0 iS i0 .aj i0)) h fun b h=>
 x (T144 a b) h
def x154:AC:=(.ah k154_0 (.scope (.ah k154_1 (.seq (.label 1) (.ah k154_2 (.ah k154_3 (.ah k154_4 (.seq (.goto 1) (.seq (.label 2) (.ah k154_5 (.seq (.alt (.jQ [w (o d72 (.bD 258 5 1 [i0,iS,i0,.aj,i0] [.mk 0 5 (.c (.agg [i0,iS,i0,.aj,i0]))])),
 q 1 (m d65 r5),
 qj 1 d66 r65,
 qf 1 d67 1 r66,
 ql 1 d68 r67,
 q 1 (m d69 r6),
 q 1 (o d70 (.build [i0,iS,i0,.aj,i0] [.mk 0 1 a1,.mk 4 1 r69])),
 q 1 (o d71 (.len r68)),
 w (o d73 (.app 258 5 r68 r72)),
 q 0 (o d74 (.dn 5 r73 r71)),
 w (o .no (.vg 5 r74 r70)),
 qj 1 d75 r65,
 qf 1 d76 1 r75,
 w (os r76 r73)])
 (.jQ [w (o d72 (.bD 258 5 1 [i0,iS,i0,.aj,i0] [.mk 0 5 (.c (.agg [i0,iS,i0,.aj,i0]))])),
 q 1 (m d65 r5),
 qj 1 d66 r65,
 qf 1 d67 1 r66,
 ql 1 d68 r67,
 q 1 (m d69 r6),
 q 1 (o d70 (.build [i0,iS,i0,.aj,i0] [.mk 0 1 a1,.mk 4 1 r69])),
 q 1 (o d71 (.len r68)),
 w (o d73 (.app 258 5 r68 r72)),
 qj 0 d75 r65,
 qf 0 d76 1 r75,
 w (os r76 r73),
 q 1 (o d74 (.dn 5 r73 r71)),
 w (o .no (.vg 5 r74 r70))])) (.ah k154_6 (.seq (.label 3) (.ah k154_7 (.ah k154_8 (.seq (.label 0) (.seq (.seq (.ops [m d111 r5,
 oj d112 r111,
 of d113 1 r112,
 ol d114 r113,
 o d115 (.len r114),
 o d116 (.bin .gt r115 a0),
 m d117 r116,
 .g .h7 .h5 false d118 (.op (.mv r5)),
 .g .h7 .h5 false d119 (.call 225 [r118]),
 .g .h7 .h5 false d120 (.op (.un .not r119)),
 o d121 (.pick r117 (.c (.bool true)) r120)]) (.ah k154_9 .skip)) (.ah k154_10 .skip))))))))))))))))))
def f154:AF:=.Es x154 [.agg 5 .h0 .h2,.t .h0 .h3,.t .h0 .h4]
def f155:AF:=.mk b155 [.agg 8 .h0 .h4]
def f156:AF:=.mk b156 [.t .h0 .h2]
def f157:AF:=.mk b157 [.agg 5 .h0 .h2]
def f159:AF:=.mk b159 [.t .h0 .h4]
def f160:AF:=.mk b160 [.t .h0 .h4,.t .h0 .h5,.t .h0 .h6]
def f161:AF:=.mk b161 [.t .h0 .h2]
def f162:AF:=.mk b162 [.t .h0 .h4,.t .h0 .h5]
def f163:AF:=.mk b163 []
def f165:AF:=.mk b165 []
def k166_1:KF:=K2 y0 y14 fun c i x h a b=>
 I b (.ret (T1 (.bool false)) h) (.nm (T0 a) h)
def k166_5:KF:=K4 y0 y16 y17 y29 fun c i x h a b d e=>
 I e (.ret (T1 (.bool false)) h) (.nm (T208 a b d) h)
def k166_4:KF:=K3 y0 y16 y17 fun c i x h a b d=>
 x (T209 a d b d) h
def k166_6:KF:=K3 y0 y16 y17 fun c i x h a b d=>
 D d i1 h fun e h=>
 .nm (T208 a b e) h
def k166_3:KF:=K3 y0 y16 y17 fun c i x h a b d=>
 Y d b h fun e h=>
 I e (x (T208 a b d) h) (.ex 0 T15 h)
def k166_2:KF:=K1 y0 fun c i x h a=>
 tR (gi a h) fun b h=>
 x (T208 a b i0) h
def k166_7:KF:=fun c i x r h=>
 .ret (T1 (.bool true)) h
def k166_0:KF:=K1 y0 fun c i x h a=>
 x (T0 a) h
def x166:AC:=(.ah k166_0 (.seq (.seq (.ops [m d4 r0,
 o d5 (.bin .seq r4 (.c iS)),
 m d6 r5,
 .g .h0 .h6 false d7 (.op (.mv r0)),
 .g .h0 .h6 false d8 (.op (.gi r7)),
 .g .h0 .h6 false d9 (.op (.bin .gt r8 (.c (pi 12)))),
 o d10 (.pick r6 (.c (.bool true)) r9),
 m d11 r10,
 .g .h0 .hb false d12 (.op (.mv r0)),
 .g .h0 .hb false d13 (.call 256 [r12]),
 o d14 (.pick r11 (.c (.bool true)) r13)]) (.ah k166_1 .skip)) (.seq (.ah k166_2 (.block 0 (.loop (.ah k166_3 (.seq (.block 1 (.ah k166_4 (.seq (.ops [m d20 r0,
 m d21 r3,
 o d22 (.idxs r20 r21),
 o d23 (.bin .lt r22 (.c (.int .u8 (.ofNat 97)))),
 m d24 r23,
 .g .h1 .h8 false d25 (.op (.mv r0)),
 .g .h1 .h8 false d26 (.op (.mv r3)),
 .g .h1 .h8 false d27 (.op (.idxs r25 r26)),
 .g .h1 .h8 false d28 (.op (.bin .gt r27 (.c (.int .u8 (.ofNat 122))))),
 o d29 (.pick r24 (.c (.bool true)) r28)]) (.ah k166_5 .skip)))) (.ah k166_6 .skip)))))) (.ah k166_7 .skip))))
def f166:AF:=.mk x166 [.t .h0 .h2]
def k167_0:KF:=K2 y0 y1 fun c i x h a b=>
 B 9 b h fun d h=>
 C c 257 [a,(.fn 258 [d])] h fun e h=>
 tR (LB false [e,i0] h) fun f h=>
 tR (qW e i0 h) fun g h=>
 .ret (T35 f g) h
def x167:AC:=(.ah k167_0 .skip)
def f167:AF:=.mk x167 [.t .h0 .h4,.t .h0 .h5]
def f168:AF:=.mk b168 []
def f169:AF:=.mk b169 [.t .h0 .h2]
def f170:AF:=.mk b170 [.t .h0 .h2]
def k173_2:KF:=K4 y0 y1 y7 y8 fun c i x h a b d e=>
 Y e d h fun f h=>
 I f (X 2 a e h fun g h=>
 M 2 g h fun j h=>
 tT (cd c b [j] h) fun k h=>
 I k (.ret (T2 e) h) (D e i1 h fun l h=>
 .nm (T82 a b d l) h)) (.ex 0 (T82 a b d e) h)
def k173_1:KF:=K2 y0 y1 fun c i x h a b=>
 G a h fun d h=>
 x (T82 a b d i0) h
def k173_3:KF:=fun c i x r h=>
 .ret (T2 (ni 0)) h
def k173_0:KF:=K2 y0 y1 fun c i x h a b=>
 x (T13 a b) h
def x173:AC:=(.ah k173_0 (.seq (.ah k173_1 (.block 0 (.loop (.ah k173_2 .skip)))) (.ah k173_3 .skip)))
def f173:AF:=.mk x173 [.t .h0 .h4]
def f174:AF:=.mk b174 [.t .h0 .h3]
def f175:AF:=.mk b175 [.t .h0 .h2]
def f176:AF:=.mk b176 [.t .h0 .h2]
def f177:AF:=.mk b177 [.t .h0 .h4]
def f178:AF:=.mk b178 [.t .h0 .h3]
def f179:AF:=.mk b179 [.t .h0 .h2]
def f180:AF:=.mk b180 [.t .h0 .h4]
def f181:AF:=.mk b181 []
def f182:AF:=.mk b182 [.t .h0 .h2]
def f183:AF:=.mk b183 [.t .h0 .h4]
def k184_0:KF:=K2 y0 y1 fun c i x h a b=>
 tR (bs 87 1 2 [.aj,.aj] [.mk 0 1 (.c a),.mk 1 1 (.c b)] h) fun d h=>
 C c 276 [d] h fun e h=>
 C c 275 [e] h fun f h=>
 E 0 f h fun g h=>
 E 1 f h fun j h=>
 .ret (T35 g j) h
def x184:AC:=(.ah k184_0 .skip)
def f184:AF:=.mk x184 [.t .h0 .h4,.t .h0 .h5]
def k185_3:KF:=K4 y3 y9 y10 y11 fun c i x h a b d e=>
 X 2 b e h fun f h=>
 M 2 f h fun g h=>
 O 167 2 (.k1 (Y2 .aj (.aM .f64 0 0))) h fun j h=>
 S 2 j g h fun k h=>
 x (T94 a j b d e) h
def k185_4:KF:=K4 y3 y9 y10 y11 fun c i x h a b d e=>
 D e i1 h fun f h=>
 .nm (T63 a b d f) h
def k185_2:KF:=K4 y3 y9 y10 y11 fun c i x h a b d e=>
 Y e d h fun f h=>
 I f (x (T63 a b d e) h) (.ex 0 (T49 a) h)
def k185_1:KF:=K2 y0 y3 fun c i x h a b=>
 G a h fun d h=>
 x (T63 b a d i0) h
def k185_5:KF:=K1 y3 fun c i x h a=>
 .ret (T1 a) h
def k185_0:KF:=K1 y0 fun c i x h a=>
 C c 146 [a] h fun b h=>
 tR (cZ b h) fun d h=>
 I d (.ret (T1 .aj) h) (x (T3 a .aj) h)
def x185:AC:=(.ah k185_0 (.seq (.ah k185_1 (.block 0 (.loop (.ah k185_2 (.seq (.block 1 (.ah k185_3 (.jQ [qf 0 d18 1 r5,
 ql 0 d19 r18,
 w (oc d20 277 [r19]),
 qf 1 d16 0 r5,
 ql 1 d17 r16,
 w (oc d21 139 [r17,r20]),
 w (o d22 (.bD 167 2 1 [.aj,(.aM .f64 0 0)] [.mk 0 2 r21])),
 q 3 (m d15 r3),
 w (o d23 (.app 167 2 r15 r22)),
 q 0 (m d3 r23)]))) (.ah k185_4 .skip)))))) (.ah k185_5 .skip)))
def f185:AF:=.mk x185 [.t .h0 .h2]
def f186:AF:=.mk b186 [.t .h0 .h4]
def f187:AF:=.mk b187 [.t .h0 .h4]
def f188:AF:=.mk b188 [.t .h0 .h4]
def k189_2:KF:=K3 y0 y1 y6 fun c i x h a b d=>
 G a h fun e h=>
 Y d e h fun f h=>
 I f (X 2 a d h fun g h=>
 A 0 g h fun j h=>
 L j h fun k h=>
 tR (bN k b h) fun l h=>
 I l (.ret (T35 d (.bool true)) h) (D d i1 h fun m h=>
 .nm (T11 a b m) h)) (.ex 0 (T11 a b d) h)
def k189_1:KF:=K2 y0 y1 fun c i x h a b=>
 x (T11 a b i0) h
def k189_3:KF:=fun c i x r h=>
 .ret (T35 i0 (.bool false)) h
def k189_0:KF:=K2 y0 y1 fun c i x h a b=>
 x (T13 a b) h
def x189:AC:=(.ah k189_0 (.seq (.ah k189_1 (.block 0 (.loop (.ah k189_2 .skip)))) (.ah k189_3 .skip)))
def f189:AF:=.mk x189 [.t .h0 .h4,.t .h0 .h5]
def f190:AF:=.mk b190 [.t .h0 .h2]
def k191_7:KF:=K5 y0 y2 y5 y6 y8 fun c i x h a b d e f=>
 tR (da 5 (.c d) .none (.some (.c f)) .none .nil h) fun g h=>
 D e i1 h fun j h=>
 .ex 1 (T223 a b g j u f) h
def k191_6:KF:=K5 y0 y2 y5 y6 y8 fun c i x h a b d e f=>
 Q f i0 h fun g h=>
 I g (U [i0,iS,i0,.aj,i0] [] h fun j h=>
 S 5 b j h fun k h=>
 .ret (T101 b (pi 12) e) h) (x (T225 a b d e f) h)
def k191_5:KF:=K6 y0 y2 y5 y6 y7 y8 fun c i x h a b d e f g=>
 Q f (.int .u8 (.ofNat 41)) h fun j h=>
 x (T224 a b d e f g j) h
def k191_8:KF:=K7 y0 y2 y5 y6 y7 y8 y86 fun c i x h a b d e f g j=>
 I j (U [i0,iS,i0,.aj,i0] [] h fun k h=>
 S 5 b k h fun l h=>
 .ret (T101 b (pi 12) e) h) (.nm (T223 a b d e f g) h)
def k191_9:KF:=K7 y0 y2 y5 y6 y7 y8 y98 fun c i x h a b d e f g j=>
 I j (U [i0,iS,i0,.aj,i0] [] h fun k h=>
 S 5 b k h fun l h=>
 .ret (T101 b (pi 11) e) h) (.nm (T223 a b d e f g) h)
def k191_12:KF:=K4 y0 y2 y5 y10 fun c i x h a b d e=>
 .nm (T145 a b d e) h
def k191_11:KF:=K5 y0 y2 y5 y6 y8 fun c i x h a b d e f=>
 C c 280 [a,e] h fun g h=>
 E 0 g h fun j h=>
 E 1 g h fun k h=>
 E 2 g h fun l h=>
 E 3 g h fun m h=>
 O 299 5 (.k1 (Y5 i0 iS i0 .aj i0)) h fun n h=>
 S 5 n j h fun o h=>
 tR (dH l i0 h) fun p h=>
 I p (U [i0,iS,i0,.aj,i0] [] h fun q h=>
 S 5 b q h fun s h=>
 .ret (T101 b l m) h) (x (T226 a b d f n k) h)
def k191_10:KF:=K6 y0 y2 y5 y6 y7 y8 fun c i x h a b d e f g=>
 Q f (.int .u8 (.ofNat 40)) h fun j h=>
 I j (tR (qW g (pi 12) h) fun k h=>
 I k (U [i0,iS,i0,.aj,i0] [] h fun l h=>
 S 5 b l h fun m h=>
 .ret (T101 b (pi 14) e) h) (tR (bs 299 5 0 [] [] h) fun l h=>
 tR (eI 299 5 l d h) fun m h=>
 U [i0,iS,i0,.aj,i0] [.mk 0 1 (.c i1),.mk 4 1 (.c e)] h fun n h=>
 tR (bs 299 5 1 [i0,iS,i0,.aj,i0] [.mk 0 5 (.c n)] h) fun o h=>
 tR (eI 299 5 m o h) fun p h=>
 D e i1 h fun q h=>
 .ex 1 (T145 a b p q) h)) (x (T225 a b d e g) h)
def k191_4:KF:=K5 y0 y2 y5 y6 y7 fun c i x h a b d e f=>
 G d h fun g h=>
 Z g i1 h fun j h=>
 x (T223 a b d e f j) h
def k191_3:KF:=K5 y0 y2 y5 y6 y7 fun c i x h a b d e f=>
 Q f (.int .u8 (.ofNat 32)) h fun g h=>
 gD g false (fun j=>j f h) h fun j h=>
 gD g false (fun k=>Q j (.int .u8 (.ofNat 10)) h fun l h=>
 k l h) h fun k h=>
 tR (eJ (.c g) (.c (.bool true)) (.c k) .nil h) fun l h=>
 I l (D e i1 h fun m h=>
 .ex 1 (T145 a b d m) h) (x (T222 a b d e f) h)
def k191_2:KF:=K4 y0 y2 y5 y6 fun c i x h a b d e=>
 tR (gj (.c a) (.c e) .nil h) fun f h=>
 x (T222 a b d e f) h
def k191_1:KF:=K4 y0 y2 y5 y6 fun c i x h a b d e=>
 tR (gi a h) fun f h=>
 Y e f h fun g h=>
 I g (x (T145 a b d e) h) (.ex 0 (T146 a b d) h)
def k191_13:KF:=K4 y0 y2 y5 y154 fun c i x h a b d e=>
 I e (U [i0,iS,i0,.aj,i0] [] h fun f h=>
 tR (gi a h) fun g h=>
 S 5 b f h fun j h=>
 .ret (T101 b (pi 10) g) h) (.nm (T26 b d) h)
def k191_14:KF:=K2 y2 y5 fun c i x h a b=>
 X 5 b i0 h fun d h=>
 A 3 d h fun e h=>
 L e h fun f h=>
 X 5 f i0 h fun g h=>
 M 5 g h fun j h=>
 S 5 a j h fun k h=>
 .ret (T101 a i0 i0) h
def k191_0:KF:=K1 y0 fun c i x h a=>
 O 299 5 (.k1 (Y5 i0 iS i0 .aj i0)) h fun b h=>
 tR (gi a h) fun d h=>
 tR (lK d (pi 600) h) fun e h=>
 I e (U [i0,iS,i0,.aj,i0] [] h fun f h=>
 S 5 b f h fun g h=>
 .ret (T101 b (pi 3) i0) h) (U [i0,iS,i0,.aj,i0] [] h fun f h=>
 tR (bs 299 5 1 [i0,iS,i0,.aj,i0] [.mk 0 5 (.c f)] h) fun g h=>
 x (T145 a b g i0) h)
def x191:AC:=(.ah k191_0 (.seq (.block 0 (.loop (.ah k191_1 (.block 1 (.ah k191_2 (.ah k191_3 (.ah k191_4 (.seq (.ah k191_5 (.cond r38 (.ah k191_6 (.seq (.jQ [w (o d46 (.bD 299 5 0 [] [])),
 q 1 (m d47 r5),
 q 1 (m d48 r8),
 q 1 (o d49 (.bin .sub r48 a1)),
 q 1 (o d50 (.dn 5 r47 r49)),
 qf 1 d51 3 r50,
 ql 1 d52 r51,
 w (o d53 (.app 299 5 r46 r52)),
 q 2 (m d54 r5),
 q 2 (m d55 r8),
 q 2 (o d56 (.dn 5 r54 r55)),
 q 2 (o d57 (.kY 5 r56)),
 n (o d58 (.bD 299 5 1 [i0,iS,i0,.aj,i0] [.mk 0 5 r57])),
 w (o d59 (.app 299 5 r53 r58)),
 q 3 (m d43 r5),
 q 3 (m d44 r8),
 q 3 (o d45 (.bin .sub r44 a1)),
 q 0 (o d60 (.dn 5 r43 r45)),
 qf 0 d61 3 r60,
 w (os r61 r59)]) (.ah k191_7 .skip))) .skip)) (.seq (.seq (.ops [m d67 r7,
 o d68 (.bin .ne r67 (.c (.int .u8 (.ofNat 40)))),
 m d69 r68,
 .g .h4 .h5 true d70 (.op (.mv r7)),
 .g .h4 .h5 true d71 (.op (.bin .ne r70 (.c (.int .u8 (.ofNat 34))))),
 o d72 (.pick r69 r71 (.c (.bool false))),
 m d73 r72,
 .g .h4 .h9 true d74 (.op (.mv r7)),
 .g .h4 .h9 true d75 (.op (.bin .ne r74 (.c (.int .u8 (.ofNat 45))))),
 o d76 (.pick r73 r75 (.c (.bool false))),
 m d77 r76,
 .g .h4 .hd true d78 (.op (.mv r7)),
 .g .h4 .hd true d79 (.call 278 [r78]),
 .g .h4 .hd true d80 (.op (.un .not r79)),
 o d81 (.pick r77 r80 (.c (.bool false))),
 m d82 r81,
 .g .h5 .h2 true d83 (.op (.mv r7)),
 .g .h5 .h2 true d84 (.call 279 [r83]),
 .g .h5 .h2 true d85 (.op (.un .not r84)),
 o d86 (.pick r82 r85 (.c (.bool false)))]) (.ah k191_8 .skip)) (.seq (.seq (.ops [m d89 r8,
 o d90 (.bin .eq r89 a0),
 m d91 r90,
 .g .h5 .hb true d92 (.op (.mv r5)),
 .g .h5 .hb true d93 (.op (.dn 5 r92 a0)),
 .g .h5 .hb true d94 (.op (.dh 3 r93)),
 .g .h5 .hb true d95 (.op (.cY r94)),
 .g .h5 .hb true d96 (.op (.len r95)),
 .g .h5 .hb true d97 (.op (.bin .gt r96 a0)),
 o d98 (.pick r91 r97 (.c (.bool false)))]) (.ah k191_9 .skip)) (.ah k191_10 (.ah k191_11 (.seq (.jQ [w (o d131 (.bD 299 5 0 [] [])),
 q 1 (m d132 r5),
 q 1 (m d133 r8),
 q 1 (o d134 (.dn 5 r132 r133)),
 qf 1 d135 3 r134,
 ql 1 d136 r135,
 w (o d137 (.app 299 5 r131 r136)),
 q 2 (o d138 (.kY 5 r9)),
 n (o d139 (.bD 299 5 1 [i0,iS,i0,.aj,i0] [.mk 0 5 r138])),
 w (o d140 (.app 299 5 r137 r139)),
 q 3 (m d129 r5),
 q 3 (m d130 r8),
 q 0 (o d141 (.dn 5 r129 r130)),
 qf 0 d142 3 r141,
 w (os r142 r140)]) (.ah k191_12 .skip)))))))))))))) (.seq (.seq (.ops [m d144 r5,
 o d145 (.len r144),
 o d146 (.bin .gt r145 a1),
 m d147 r146,
 .g .h9 .h3 false d148 (.op (.mv r5)),
 .g .h9 .h3 false d149 (.op (.dn 5 r148 a0)),
 .g .h9 .h3 false d150 (.op (.dh 3 r149)),
 .g .h9 .h3 false d151 (.op (.cY r150)),
 .g .h9 .h3 false d152 (.op (.len r151)),
 .g .h9 .h3 false d153 (.op (.bin .eq r152 a0)),
 o d154 (.pick r147 (.c (.bool true)) r153)]) (.ah k191_13 .skip)) (.ah k191_14 .skip))))
def f191:AF:=.mk x191 [.agg 5 .h0 .h2,.t .h0 .h3,.t .h0 .h4]
end
end Go.Am.Seat
