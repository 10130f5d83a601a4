/- Each function of the table is what the program's function is translated into. Nothing is asked. -/
import Derived.Test.YtajgibhgkfombaaGreatDoorEnv0
import Derived.Test.YtajgibhgkfombaaGreatDoorEnv1
import Derived.Test.YtajgibhgkfombaaGreatDoorP
set_option linter.all false
open Go.Proofs
namespace Go.Am.Seat
set_option maxRecDepth 100000
variable {sy : List (P4 × Nat)}
section
theorem mixed : Tryz.prog.follows .mixedOrders = true := by kernel_rfl
theorem q4 (a b : Nat) : PrimOK Tryz.prog ⟨0, sy2 a b⟩ (.wit [.mk (.mk .h0 .h0 .h0 .h0) (decI a % 5).toNat, .mk (.mk .h0 .h0 .h0 .h1) (decI b % 5).toNat]) 4 := Wit.wit_ok (names := nms) mixed Tryz.func4 (by kernel_rfl) (wit2 a b)
theorem q227 : PrimOK Tryz.prog ⟨0, sy⟩ p227 227 := Crc.crc_ok (names := nms) mixed Tryz.func227 (by kernel_rfl)
noncomputable def w417 : CollCode Tryz.prog ⟨0, sy⟩ nms 417 337 p417_0 p417_1 p417_2 p417_3 p417_4 p417_5 p417_6 p417_7 p417_8 := { fn := Tryz.f417, gn := Tryz.f337, i0 := _, i1 := _, i2 := _, i3 := _, i4 := _, j0 := _, j1 := _, j2 := _, j3 := _, o0 := _, o1 := _, oa := _, ob := _, o4 := _, p0 := _, p1 := _, p2 := _, p3 := _, om := _, q3 := [_], oc := _, on := _, cl := _, ty := _, hf := Tryz.func417, fb := rfl, fnt := rfl, fr := by kernel_rfl, hg := Tryz.func337, gname := by decide, gb := rfl, gnt := rfl, gr := by kernel_rfl, e0 := rfl, e1 := rfl, ea := rfl, eb := rfl, e4 := rfl, a0 := rfl, a1 := rfl, a2 := rfl, a3 := rfl, s3 := rfl, mo := ⟨rfl, rfl, rfl⟩, co := ⟨rfl, rfl, rfl, rfl, rfl⟩, no := ⟨rfl, rfl, rfl⟩, b0 := by decide, b3 := by decide }
theorem q417 : PrimOK Tryz.prog ⟨0, sy⟩ p417 417 := coll_ok w417
theorem row0_ok (a b : Nat) : Row Tryz.prog ⟨0, sy2 a b⟩ nms 0 (row0 (decI a % 5).toNat (decI b % 5).toNat) := fun c => by
  cases c
  · trivial
  · trivial
  · trivial
  · exact g3
  · exact ⟨g4, q4 a b⟩
  · exact g5
  · exact g6
  · exact g7
  · exact g8
  · exact g9
  · exact g10
  · exact g11
  · exact g12
  · exact g13
  · exact g14
  · exact g15
theorem row1_ok : Row Tryz.prog ⟨0, sy⟩ nms 1 row1 := fun c => by
  cases c
  · exact g16
  · exact g17
  · exact g18
  · exact g19
  · exact g20
  · exact g21
  · exact g22
  · exact g23
  · exact g24
  · exact g25
  · exact g26
  · exact g27
  · trivial
  · exact g29
  · exact g30
  · trivial
theorem row2_ok : Row Tryz.prog ⟨0, sy⟩ nms 2 row2 := fun c => by
  cases c
  · exact g32
  · exact g33
  · exact g34
  · exact g35
  · exact g36
  · exact g37
  · exact g38
  · exact g39
  · exact g40
  · exact g41
  · exact g42
  · exact g43
  · exact g44
  · exact g45
  · exact g46
  · exact g47
theorem row3_ok : Row Tryz.prog ⟨0, sy⟩ nms 3 row3 := fun c => by
  cases c
  · trivial
  · trivial
  · trivial
  · trivial
  · trivial
  · trivial
  · exact g54
  · exact g55
  · exact g56
  · exact g57
  · exact g58
  · trivial
  · exact g60
  · trivial
  · exact g62
  · exact g63
theorem row4_ok : Row Tryz.prog ⟨0, sy⟩ nms 4 row4 := fun c => by
  cases c
  · exact g64
  · exact g65
  · exact g66
  · exact g67
  · trivial
  · exact g69
  · exact g70
  · exact g71
  · exact g72
  · exact g73
  · exact g74
  · exact g75
  · exact g76
  · exact g77
  · exact g78
  · trivial
theorem row5_ok : Row Tryz.prog ⟨0, sy⟩ nms 5 row5 := fun c => by
  cases c
  · exact g80
  · exact g81
  · trivial
  · exact g83
  · exact g84
  · exact g85
  · exact g86
  · exact g87
  · exact g88
  · exact g89
  · exact g90
  · exact g91
  · trivial
  · trivial
  · trivial
  · exact g95
theorem row6_ok : Row Tryz.prog ⟨0, sy⟩ nms 6 row6 := fun c => by
  cases c
  · exact g96
  · trivial
  · trivial
  · trivial
  · trivial
  · exact g101
  · exact g102
  · exact g103
  · trivial
  · exact g105
  · exact g106
  · exact g107
  · exact g108
  · exact g109
  · trivial
  · exact g111
theorem row7_ok : Row Tryz.prog ⟨0, sy⟩ nms 7 row7 := fun c => by
  cases c
  · trivial
  · trivial
  · exact g114
  · exact g115
  · trivial
  · trivial
  · exact g118
  · trivial
  · exact g120
  · exact g121
  · exact g122
  · exact g123
  · exact g124
  · exact g125
  · trivial
  · exact g127
theorem row8_ok : Row Tryz.prog ⟨0, sy⟩ nms 8 row8 := fun c => by
  cases c
  · exact g128
  · exact g129
  · exact g130
  · trivial
  · exact g132
  · exact g133
  · trivial
  · exact g135
  · exact g136
  · trivial
  · exact g138
  · exact g139
  · exact g140
  · exact g141
  · exact g142
  · exact g143
theorem row9_ok : Row Tryz.prog ⟨0, sy⟩ nms 9 row9 := fun c => by
  cases c
  · exact g144
  · exact g145
  · exact g146
  · exact g147
  · exact g148
  · exact g149
  · exact g150
  · exact g151
  · exact g152
  · trivial
  · trivial
  · trivial
  · exact g156
  · trivial
  · trivial
  · trivial
theorem row10_ok : Row Tryz.prog ⟨0, sy⟩ nms 10 row10 := fun c => by
  cases c
  · trivial
  · trivial
  · exact g162
  · exact g163
  · trivial
  · exact g165
  · exact g166
  · exact g167
  · exact g168
  · exact g169
  · exact g170
  · trivial
  · trivial
  · exact g173
  · exact g174
  · trivial
theorem row11_ok : Row Tryz.prog ⟨0, sy⟩ nms 11 row11 := fun c => by
  cases c
  · trivial
  · trivial
  · exact g178
  · trivial
  · exact g180
  · exact g181
  · exact g182
  · trivial
  · trivial
  · trivial
  · trivial
  · trivial
  · trivial
  · trivial
  · exact g190
  · trivial
theorem row12_ok : Row Tryz.prog ⟨0, sy⟩ nms 12 row12 := fun c => by
  cases c
  · trivial
  · exact g193
  · trivial
  · exact g195
  · exact g196
  · exact g197
  · trivial
  · exact g199
  · exact g200
  · exact g201
  · exact g202
  · exact g203
  · exact g204
  · trivial
  · exact g206
  · exact g207
theorem row13_ok : Row Tryz.prog ⟨0, sy⟩ nms 13 row13 := fun c => by
  cases c
  · exact g208
  · exact g209
  · exact g210
  · exact g211
  · exact g212
  · exact g213
  · exact g214
  · exact g215
  · exact g216
  · exact g217
  · trivial
  · trivial
  · exact g220
  · exact g221
  · trivial
  · trivial
theorem row14_ok : Row Tryz.prog ⟨0, sy⟩ nms 14 row14 := fun c => by
  cases c
  · trivial
  · trivial
  · exact g226
  · exact ⟨g227, q227⟩
  · exact g228
  · exact g229
  · trivial
  · trivial
  · trivial
  · trivial
  · trivial
  · trivial
  · exact g236
  · exact g237
  · exact g238
  · exact g239
theorem row15_ok : Row Tryz.prog ⟨0, sy⟩ nms 15 row15 := fun c => by
  cases c
  · exact g240
  · trivial
  · exact g242
  · trivial
  · trivial
  · trivial
  · exact g246
  · trivial
  · trivial
  · trivial
  · trivial
  · trivial
  · trivial
  · trivial
  · trivial
  · trivial
theorem row16_ok : Row Tryz.prog ⟨0, sy⟩ nms 16 row16 := fun c => by
  cases c
  · exact g256
  · trivial
  · trivial
  · trivial
  · trivial
  · trivial
  · trivial
  · exact g263
  · trivial
  · exact g265
  · exact g266
  · exact g267
  · exact g268
  · exact g269
  · exact g270
  · exact g271
theorem row17_ok : Row Tryz.prog ⟨0, sy⟩ nms 17 row17 := fun c => by
  cases c
  · exact g272
  · exact g273
  · exact g274
  · exact g275
  · trivial
  · exact g277
  · trivial
  · trivial
  · trivial
  · trivial
  · trivial
  · trivial
  · trivial
  · trivial
  · exact g286
  · exact g287
theorem row18_ok : Row Tryz.prog ⟨0, sy⟩ nms 18 row18 := fun c => by
  cases c
  · trivial
  · trivial
  · exact g290
  · trivial
  · trivial
  · exact g293
  · exact g294
  · exact g295
  · trivial
  · trivial
  · trivial
  · trivial
  · trivial
  · trivial
  · trivial
  · trivial
theorem row20_ok : Row Tryz.prog ⟨0, sy⟩ nms 20 row20 := fun c => by
  cases c
  · trivial
  · exact g321
  · trivial
  · exact g323
  · exact g324
  · trivial
  · trivial
  · trivial
  · exact g328
  · trivial
  · trivial
  · trivial
  · trivial
  · trivial
  · exact g334
  · exact g335
theorem row21_ok : Row Tryz.prog ⟨0, sy⟩ nms 21 row21 := fun c => by
  cases c
  · exact g336
  · trivial
  · trivial
  · trivial
  · trivial
  · trivial
  · trivial
  · trivial
  · exact g344
  · trivial
  · trivial
  · trivial
  · trivial
  · trivial
  · trivial
  · trivial
theorem row22_ok : Row Tryz.prog ⟨0, sy⟩ nms 22 row22 := fun c => by
  cases c
  · trivial
  · trivial
  · exact g354
  · exact g355
  · exact g356
  · trivial
  · trivial
  · trivial
  · trivial
  · trivial
  · trivial
  · trivial
  · trivial
  · trivial
  · trivial
  · trivial
theorem row23_ok : Row Tryz.prog ⟨0, sy⟩ nms 23 row23 := fun c => by
  cases c
  · trivial
  · trivial
  · trivial
  · trivial
  · trivial
  · trivial
  · trivial
  · trivial
  · trivial
  · trivial
  · trivial
  · trivial
  · trivial
  · trivial
  · trivial
  · exact g383
theorem row25_ok : Row Tryz.prog ⟨0, sy⟩ nms 25 row25 := fun c => by
  cases c
  · trivial
  · trivial
  · trivial
  · trivial
  · trivial
  · trivial
  · trivial
  · trivial
  · exact g408
  · trivial
  · trivial
  · exact g411
  · trivial
  · trivial
  · trivial
  · trivial
theorem row26_ok : Row Tryz.prog ⟨0, sy⟩ nms 26 row26 := fun c => by
  cases c
  · trivial
  · exact ⟨g417, q417⟩
  · exact g418
  · trivial
  · trivial
  · trivial
  · trivial
  · trivial
  · trivial
  · trivial
  · trivial
  · trivial
  · trivial
  · trivial
  · exact g430
  · exact g431
theorem row27_ok : Row Tryz.prog ⟨0, sy⟩ nms 27 row27 := fun c => by
  cases c
  · exact g432
  · exact g433
  · trivial
  · trivial
  · trivial
  · trivial
  · trivial
  · trivial
  · trivial
  · trivial
  · trivial
  · trivial
  · trivial
  · trivial
  · trivial
  · trivial
theorem row31_ok : Row Tryz.prog ⟨0, sy⟩ nms 31 row31 := fun c => by
  cases c
  · trivial
  · trivial
  · trivial
  · trivial
  · exact g500
  · trivial
  · trivial
  · trivial
  · trivial
  · trivial
  · trivial
  · trivial
  · trivial
  · trivial
  · trivial
  · trivial
theorem row39_ok : Row Tryz.prog ⟨0, sy⟩ nms 39 row39 := fun c => by
  cases c
  · trivial
  · trivial
  · trivial
  · trivial
  · trivial
  · trivial
  · trivial
  · trivial
  · trivial
  · trivial
  · trivial
  · trivial
  · trivial
  · trivial
  · exact g638
  · exact g639
theorem row40_ok : Row Tryz.prog ⟨0, sy⟩ nms 40 row40 := fun c => by
  cases c
  · trivial
  · exact g641
  · exact g642
  · trivial
  · trivial
  · trivial
  · trivial
  · trivial
  · trivial
  · trivial
  · trivial
  · trivial
  · trivial
  · trivial
  · trivial
  · trivial
theorem page0_ok (a b : Nat) : Page Tryz.prog ⟨0, sy2 a b⟩ nms 0 (page0 (decI a % 5).toNat (decI b % 5).toNat) := fun c => by
  cases c
  · exact row0_ok a b
  · exact row1_ok
  · exact row2_ok
  · exact row3_ok
  · exact row4_ok
  · exact row5_ok
  · exact row6_ok
  · exact row7_ok
  · exact row8_ok
  · exact row9_ok
  · exact row10_ok
  · exact row11_ok
  · exact row12_ok
  · exact row13_ok
  · exact row14_ok
  · exact row15_ok
theorem page1_ok : Page Tryz.prog ⟨0, sy⟩ nms 1 page1 := fun c => by
  cases c
  · exact row16_ok
  · exact row17_ok
  · exact row18_ok
  · exact row_nil _
  · exact row20_ok
  · exact row21_ok
  · exact row22_ok
  · exact row23_ok
  · exact row_nil _
  · exact row25_ok
  · exact row26_ok
  · exact row27_ok
  · exact row_nil _
  · exact row_nil _
  · exact row_nil _
  · exact row31_ok
theorem page2_ok : Page Tryz.prog ⟨0, sy⟩ nms 2 page2 := fun c => by
  cases c
  · exact row_nil _
  · exact row_nil _
  · exact row_nil _
  · exact row_nil _
  · exact row_nil _
  · exact row_nil _
  · exact row_nil _
  · exact row39_ok
  · exact row40_ok
  · exact row_nil _
  · exact row_nil _
  · exact row_nil _
  · exact row_nil _
  · exact row_nil _
  · exact row_nil _
  · exact row_nil _
theorem table_all (a b : Nat) : ∀ c : H, Page Tryz.prog ⟨0, sy2 a b⟩ nms c.nat (F3.get c (pg (decI a % 5).toNat (decI b % 5).toNat).fs) := fun c => by
  cases c
  · exact page0_ok a b
  · exact page1_ok
  · exact page2_ok
  · exact page_nil _
  · exact page_nil _
  · exact page_nil _
  · exact page_nil _
  · exact page_nil _
  · exact page_nil _
  · exact page_nil _
  · exact page_nil _
  · exact page_nil _
  · exact page_nil _
  · exact page_nil _
  · exact page_nil _
  · exact page_nil _
theorem ms_all (k j : Nat) : MsOK Tryz.prog nms (pg k j).ms := msB_ok (by kernel_rfl)
theorem env (a b : Nat) : Env Tryz.prog ⟨0, sy2 a b⟩ nms (pg (decI a % 5).toNat (decI b % 5).toNat) := env_of mixed (ms_all _ _) (table_all a b) rfl
end
end Go.Am.Seat
