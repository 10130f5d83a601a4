/- Each function of the table is what the program's function is translated into. Nothing is asked. -/
import Derived.Test.YtcbgjadbemnpcaaGreatDoorEnv0
import Derived.Test.YtcbgjadbemnpcaaGreatDoorEnv1
set_option linter.all false
open Go.Proofs
namespace Go.Am.Seat
set_option maxRecDepth 100000
section
theorem mixed : Tryz.prog.follows .mixedOrders = true := by kernel_rfl
theorem q286 : PrimOK Tryz.prog ⟨7, [], none⟩ p286 286 := Crc.crc_ok (names := nms) mixed Tryz.func286 (by kernel_rfl)
noncomputable def w413 : CollCode Tryz.prog ⟨7, [], none⟩ nms 413 339 p413_0 p413_1 p413_2 p413_3 p413_4 p413_5 p413_6 p413_7 p413_8 := { fn := Tryz.f413, gn := Tryz.f339, i0 := _, i1 := _, i2 := _, i3 := _, i4 := _, j0 := _, j1 := _, j2 := _, j3 := _, o0 := _, o1 := _, oa := _, ob := _, o4 := _, p0 := _, p1 := _, p2 := _, p3 := _, om := _, q3 := [_], oc := _, on := _, cl := _, ty := _, hf := Tryz.func413, fb := rfl, fnt := rfl, fr := by kernel_rfl, hg := Tryz.func339, gname := by decide, gb := rfl, gnt := rfl, gr := by kernel_rfl, e0 := rfl, e1 := rfl, ea := rfl, eb := rfl, e4 := rfl, a0 := rfl, a1 := rfl, a2 := rfl, a3 := rfl, s3 := rfl, mo := ⟨rfl, rfl, rfl⟩, co := ⟨rfl, rfl, rfl, rfl, rfl⟩, no := ⟨rfl, rfl, rfl⟩, b0 := by decide, b3 := by decide }
theorem q413 : PrimOK Tryz.prog ⟨7, [], none⟩ p413 413 := coll_ok w413
theorem q583 : ExtOK Tryz.prog ⟨7, [], none⟩ .noesc 583 := noesc_ok Tryz.func583 (by kernel_rfl) (by kernel_rfl) (by kernel_rfl) (by kernel_rfl)
theorem q584 : ExtOK Tryz.prog ⟨7, [], none⟩ (.mknz 5) 584 := mknz_ok (ps := Tryz.f584.params) (t := Tryz.f584.resultTypes[0]!) Tryz.func584 (by kernel_rfl) (by kernel_rfl) (by kernel_rfl) (by kernel_rfl) (by kernel_rfl)
theorem hx16 {C : H → Prop} (a0 : C .h0) (a1 : C .h1) (a2 : C .h2) (a3 : C .h3) (a4 : C .h4) (a5 : C .h5) (a6 : C .h6) (a7 : C .h7) (a8 : C .h8) (a9 : C .h9) (aa : C .ha) (ab : C .hb) (ac : C .hc) (ad : C .hd) (ae : C .he) (af : C .hf) : ∀ c, C c := fun c => by cases c <;> assumption
theorem no : True := trivial
theorem rn {b : Nat} : Row Tryz.prog ⟨7, [], none⟩ nms b .nil := row_nil b
theorem pn {a : Nat} : Page Tryz.prog ⟨7, [], none⟩ nms a .nil := page_nil a
theorem R0 : Row Tryz.prog ⟨7, [], none⟩ nms 0 row0 := hx16 no no no g3 g4 g5 g6 g7 g8 g9 g10 g11 g12 g13 g14 g15
theorem R1 : Row Tryz.prog ⟨7, [], none⟩ nms 1 row1 := hx16 g16 g17 g18 g19 g20 g21 g22 g23 g24 g25 g26 g27 g28 g29 no g31
theorem R2 : Row Tryz.prog ⟨7, [], none⟩ nms 2 row2 := hx16 g32 g33 g34 g35 g36 g37 g38 g39 g40 g41 g42 g43 g44 g45 g46 no
theorem R3 : Row Tryz.prog ⟨7, [], none⟩ nms 3 row3 := hx16 no g49 g50 g51 no g53 g54 g55 g56 g57 g58 no g60 g61 g62 g63
theorem R4 : Row Tryz.prog ⟨7, [], none⟩ nms 4 row4 := hx16 g64 g65 g66 g67 g68 g69 g70 g71 g72 g73 no g75 g76 no g78 g79
theorem R5 : Row Tryz.prog ⟨7, [], none⟩ nms 5 row5 := hx16 g80 g81 g82 g83 g84 g85 g86 g87 g88 no g90 g91 no no no no
theorem R6 : Row Tryz.prog ⟨7, [], none⟩ nms 6 row6 := hx16 g96 g97 g98 g99 g100 g101 g102 g103 g104 g105 g106 g107 g108 g109 no g111
theorem R7 : Row Tryz.prog ⟨7, [], none⟩ nms 7 row7 := hx16 g112 no g114 g115 g116 no g118 g119 g120 g121 g122 g123 g124 g125 g126 g127
theorem R8 : Row Tryz.prog ⟨7, [], none⟩ nms 8 row8 := hx16 g128 g129 g130 g131 g132 g133 g134 no no g137 g138 g139 no g141 no no
theorem R9 : Row Tryz.prog ⟨7, [], none⟩ nms 9 row9 := hx16 no g145 g146 g147 g148 g149 g150 no g152 no g154 g155 no no no g159
theorem R10 : Row Tryz.prog ⟨7, [], none⟩ nms 10 row10 := hx16 g160 g161 g162 g163 g164 no g166 g167 g168 g169 no no no g173 no no
theorem R11 : Row Tryz.prog ⟨7, [], none⟩ nms 11 row11 := hx16 no no g178 no g180 g181 g182 no g184 g185 g186 g187 g188 g189 g190 g191
theorem R12 : Row Tryz.prog ⟨7, [], none⟩ nms 12 row12 := hx16 g192 no g194 g195 g196 g197 g198 g199 g200 g201 g202 g203 g204 g205 g206 g207
theorem R13 : Row Tryz.prog ⟨7, [], none⟩ nms 13 row13 := hx16 no no g210 g211 g212 g213 no no g216 no no g219 g220 g221 g222 no
theorem R14 : Row Tryz.prog ⟨7, [], none⟩ nms 14 row14 := hx16 g224 no no no g228 no g230 no g232 no no no g236 g237 g238 no
theorem R15 : Row Tryz.prog ⟨7, [], none⟩ nms 15 row15 := hx16 g240 no no no g244 g245 g246 g247 no g249 no no no g253 no no
theorem R16 : Row Tryz.prog ⟨7, [], none⟩ nms 16 row16 := hx16 g256 no g258 g259 g260 g261 g262 g263 g264 g265 g266 g267 g268 g269 g270 g271
theorem R17 : Row Tryz.prog ⟨7, [], none⟩ nms 17 row17 := hx16 g272 g273 no g275 no no no no no no no no no no ⟨g286, q286⟩ no
theorem R18 : Row Tryz.prog ⟨7, [], none⟩ nms 18 row18 := hx16 no no g290 no no g293 g294 g295 no no g298 g299 g300 no no no
theorem R19 : Row Tryz.prog ⟨7, [], none⟩ nms 19 row19 := hx16 g304 no g306 g307 no no g310 g311 g312 g313 no g315 g316 g317 g318 g319
theorem R20 : Row Tryz.prog ⟨7, [], none⟩ nms 20 row20 := hx16 g320 g321 no g323 g324 no no g327 g328 no no no no no g334 g335
theorem R21 : Row Tryz.prog ⟨7, [], none⟩ nms 21 row21 := hx16 g336 g337 g338 no no no no no no no no no g348 g349 g350 g351
theorem R22 : Row Tryz.prog ⟨7, [], none⟩ nms 22 row22 := hx16 no g353 g354 g355 no no g358 no no g361 g362 g363 g364 g365 g366 no
theorem R23 : Row Tryz.prog ⟨7, [], none⟩ nms 23 row23 := hx16 no no g370 no no no g374 g375 no no g378 g379 no no no no
theorem R24 : Row Tryz.prog ⟨7, [], none⟩ nms 24 row24 := hx16 no g385 g386 g387 g388 g389 no g391 g392 no no no no no no no
theorem R25 : Row Tryz.prog ⟨7, [], none⟩ nms 25 row25 := hx16 g400 no no g403 g404 g405 g406 no no no no no g412 ⟨g413, q413⟩ g414 no
theorem R26 : Row Tryz.prog ⟨7, [], none⟩ nms 26 row26 := hx16 no no no no no no no no no no no no no no g430 g431
theorem R27 : Row Tryz.prog ⟨7, [], none⟩ nms 27 row27 := hx16 g432 g433 no no no no no no no g441 no no no no no g447
theorem R28 : Row Tryz.prog ⟨7, [], none⟩ nms 28 row28 := hx16 no g449 g450 g451 g452 no no no no no no no no no g462 no
theorem R29 : Row Tryz.prog ⟨7, [], none⟩ nms 29 row29 := hx16 g464 no no g467 no no no no no g473 g474 g475 no no no no
theorem R30 : Row Tryz.prog ⟨7, [], none⟩ nms 30 row30 := hx16 no g481 g482 g483 no no no no no no no no no no no no
theorem R31 : Row Tryz.prog ⟨7, [], none⟩ nms 31 row31 := hx16 no no no no g500 no no no no no no no no no no no
theorem R33 : Row Tryz.prog ⟨7, [], none⟩ nms 33 row33 := hx16 no no no no g532 g533 no no no no no g539 no no no no
theorem R34 : Row Tryz.prog ⟨7, [], none⟩ nms 34 row34 := hx16 no no no no g548 g549 no no no g553 no no no no no no
theorem R36 : Row Tryz.prog ⟨7, [], none⟩ nms 36 row36 := hx16 no no no no no no no q583 q584 no no no no g589 no no
theorem R37 : Row Tryz.prog ⟨7, [], none⟩ nms 37 row37 := hx16 no no no no no no no no no no no no no no g606 no
theorem R40 : Row Tryz.prog ⟨7, [], none⟩ nms 40 row40 := hx16 no no g642 g643 no g645 g646 no no no no no no no no no
theorem page0_ok : Page Tryz.prog ⟨7, [], none⟩ nms 0 page0 := hx16 R0 R1 R2 R3 R4 R5 R6 R7 R8 R9 R10 R11 R12 R13 R14 R15
theorem page1_ok : Page Tryz.prog ⟨7, [], none⟩ nms 1 page1 := hx16 R16 R17 R18 R19 R20 R21 R22 R23 R24 R25 R26 R27 R28 R29 R30 R31
theorem page2_ok : Page Tryz.prog ⟨7, [], none⟩ nms 2 page2 := hx16 rn R33 R34 rn R36 R37 rn rn R40 rn rn rn rn rn rn rn
theorem table_all : ∀ a : H, Page Tryz.prog ⟨7, [], none⟩ nms a.nat (F3.get a pg.fs) := hx16 page0_ok page1_ok page2_ok pn pn pn pn pn pn pn pn pn pn pn pn pn
theorem ms_all : MsOK Tryz.prog nms pg.ms := msB_ok (by kernel_rfl)
theorem env : Env Tryz.prog ⟨7, [], none⟩ nms pg := env_of mixed ms_all table_all rfl
end
end Go.Am.Seat
