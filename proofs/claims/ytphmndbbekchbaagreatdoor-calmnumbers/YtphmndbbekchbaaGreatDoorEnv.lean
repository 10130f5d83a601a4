/- Each function of the table is what the program's function is translated into. Nothing is asked. -/
import Derived.Test.YtphmndbbekchbaaGreatDoorEnv0
import Derived.Test.YtphmndbbekchbaaGreatDoorEnv1
set_option linter.all false
open Go.Proofs
namespace Go.Am.Seat
set_option maxRecDepth 100000
section
theorem mixed : Tryz.prog.follows .mixedOrders = true := by kernel_rfl
theorem q281 : PrimOK Tryz.prog 0 p281 281 := Crc.crc_ok (names := nms) mixed Tryz.func281 (by kernel_rfl)
noncomputable def w408 : CollCode Tryz.prog 0 nms 408 334 p408_0 p408_1 p408_2 p408_3 p408_4 p408_5 p408_6 p408_7 p408_8 := { fn := Tryz.f408, gn := Tryz.f334, i0 := _, i1 := _, i2 := _, i3 := _, i4 := _, j0 := _, j1 := _, j2 := _, j3 := _, o0 := _, o1 := _, oa := _, ob := _, o4 := _, p0 := _, p1 := _, p2 := _, p3 := _, om := _, q3 := [_], oc := _, on := _, cl := _, ty := _, hf := Tryz.func408, fb := rfl, fnt := rfl, fr := by kernel_rfl, hg := Tryz.func334, gname := by decide, gb := rfl, gnt := rfl, gr := by kernel_rfl, e0 := rfl, e1 := rfl, ea := rfl, eb := rfl, e4 := rfl, a0 := rfl, a1 := rfl, a2 := rfl, a3 := rfl, s3 := rfl, mo := ⟨rfl, rfl, rfl⟩, co := ⟨rfl, rfl, rfl, rfl, rfl⟩, no := ⟨rfl, rfl, rfl⟩, b0 := by decide, b3 := by decide }
theorem q408 : PrimOK Tryz.prog 0 p408 408 := coll_ok w408
theorem row0_ok : Row Tryz.prog 0 nms 0 row0 := fun c => by
  cases c
  · trivial
  · trivial
  · trivial
  · exact g3
  · exact g4
  · exact g5
  · exact g6
  · exact g7
  · exact g8
  · exact g9
  · exact g10
  · exact g11
  · exact g12
  · exact g13
  · exact g14
  · exact g15
theorem row1_ok : Row Tryz.prog 0 nms 1 row1 := fun c => by
  cases c
  · exact g16
  · exact g17
  · exact g18
  · exact g19
  · exact g20
  · exact g21
  · exact g22
  · exact g23
  · exact g24
  · exact g25
  · exact g26
  · exact g27
  · trivial
  · exact g29
  · exact g30
  · exact g31
theorem row2_ok : Row Tryz.prog 0 nms 2 row2 := fun c => by
  cases c
  · exact g32
  · exact g33
  · exact g34
  · exact g35
  · exact g36
  · exact g37
  · exact g38
  · exact g39
  · exact g40
  · exact g41
  · trivial
  · trivial
  · exact g44
  · exact g45
  · exact g46
  · trivial
theorem row3_ok : Row Tryz.prog 0 nms 3 row3 := fun c => by
  cases c
  · exact g48
  · exact g49
  · exact g50
  · exact g51
  · exact g52
  · exact g53
  · trivial
  · exact g55
  · exact g56
  · exact g57
  · exact g58
  · exact g59
  · exact g60
  · exact g61
  · exact g62
  · exact g63
theorem row4_ok : Row Tryz.prog 0 nms 4 row4 := fun c => by
  cases c
  · exact g64
  · exact g65
  · trivial
  · exact g67
  · exact g68
  · trivial
  · exact g70
  · exact g71
  · exact g72
  · exact g73
  · exact g74
  · exact g75
  · exact g76
  · exact g77
  · exact g78
  · exact g79
theorem row5_ok : Row Tryz.prog 0 nms 5 row5 := fun c => by
  cases c
  · exact g80
  · exact g81
  · trivial
  · exact g83
  · exact g84
  · trivial
  · trivial
  · trivial
  · trivial
  · exact g89
  · exact g90
  · exact g91
  · exact g92
  · exact g93
  · exact g94
  · exact g95
theorem row6_ok : Row Tryz.prog 0 nms 6 row6 := fun c => by
  cases c
  · exact g96
  · exact g97
  · exact g98
  · exact g99
  · exact g100
  · trivial
  · exact g102
  · exact g103
  · trivial
  · exact g105
  · exact g106
  · exact g107
  · trivial
  · exact g109
  · exact g110
  · exact g111
theorem row7_ok : Row Tryz.prog 0 nms 7 row7 := fun c => by
  cases c
  · exact g112
  · exact g113
  · exact g114
  · exact g115
  · exact g116
  · exact g117
  · exact g118
  · exact g119
  · exact g120
  · exact g121
  · exact g122
  · exact g123
  · exact g124
  · exact g125
  · exact g126
  · trivial
theorem row8_ok : Row Tryz.prog 0 nms 8 row8 := fun c => by
  cases c
  · trivial
  · exact g129
  · exact g130
  · exact g131
  · exact g132
  · exact g133
  · trivial
  · exact g135
  · trivial
  · trivial
  · trivial
  · exact g139
  · exact g140
  · exact g141
  · exact g142
  · exact g143
theorem row9_ok : Row Tryz.prog 0 nms 9 row9 := fun c => by
  cases c
  · exact g144
  · trivial
  · exact g146
  · exact g147
  · trivial
  · trivial
  · exact g150
  · exact g151
  · exact g152
  · exact g153
  · exact g154
  · exact g155
  · exact g156
  · exact g157
  · trivial
  · exact g159
theorem row10_ok : Row Tryz.prog 0 nms 10 row10 := fun c => by
  cases c
  · exact g160
  · exact g161
  · exact g162
  · trivial
  · trivial
  · trivial
  · exact g166
  · trivial
  · trivial
  · trivial
  · trivial
  · exact g171
  · trivial
  · trivial
  · exact g174
  · exact g175
theorem row11_ok : Row Tryz.prog 0 nms 11 row11 := fun c => by
  cases c
  · trivial
  · exact g177
  · exact g178
  · exact g179
  · trivial
  · exact g181
  · exact g182
  · exact g183
  · exact g184
  · exact g185
  · exact g186
  · trivial
  · exact g188
  · exact g189
  · exact g190
  · exact g191
theorem row12_ok : Row Tryz.prog 0 nms 12 row12 := fun c => by
  cases c
  · exact g192
  · exact g193
  · exact g194
  · exact g195
  · exact g196
  · exact g197
  · exact g198
  · exact g199
  · exact g200
  · exact g201
  · trivial
  · exact g203
  · exact g204
  · exact g205
  · exact g206
  · exact g207
theorem row13_ok : Row Tryz.prog 0 nms 13 row13 := fun c => by
  cases c
  · exact g208
  · trivial
  · trivial
  · trivial
  · trivial
  · trivial
  · exact g214
  · exact g215
  · exact g216
  · exact g217
  · trivial
  · exact g219
  · trivial
  · trivial
  · trivial
  · exact g223
theorem row14_ok : Row Tryz.prog 0 nms 14 row14 := fun c => by
  cases c
  · trivial
  · exact g225
  · trivial
  · exact g227
  · trivial
  · trivial
  · trivial
  · exact g231
  · exact g232
  · trivial
  · trivial
  · trivial
  · trivial
  · trivial
  · trivial
  · trivial
theorem row15_ok : Row Tryz.prog 0 nms 15 row15 := fun c => by
  cases c
  · trivial
  · trivial
  · exact g242
  · trivial
  · exact g244
  · trivial
  · trivial
  · trivial
  · trivial
  · trivial
  · trivial
  · exact g251
  · trivial
  · exact g253
  · exact g254
  · exact g255
theorem row16_ok : Row Tryz.prog 0 nms 16 row16 := fun c => by
  cases c
  · exact g256
  · exact g257
  · exact g258
  · exact g259
  · exact g260
  · exact g261
  · exact g262
  · exact g263
  · exact g264
  · exact g265
  · exact g266
  · exact g267
  · exact g268
  · exact g269
  · exact g270
  · trivial
theorem row17_ok : Row Tryz.prog 0 nms 17 row17 := fun c => by
  cases c
  · trivial
  · trivial
  · trivial
  · trivial
  · trivial
  · trivial
  · trivial
  · trivial
  · trivial
  · exact ⟨g281, q281⟩
  · trivial
  · trivial
  · trivial
  · exact g285
  · trivial
  · trivial
theorem row18_ok : Row Tryz.prog 0 nms 18 row18 := fun c => by
  cases c
  · exact g288
  · exact g289
  · exact g290
  · trivial
  · trivial
  · trivial
  · trivial
  · trivial
  · trivial
  · trivial
  · trivial
  · trivial
  · trivial
  · trivial
  · trivial
  · trivial
theorem row19_ok : Row Tryz.prog 0 nms 19 row19 := fun c => by
  cases c
  · trivial
  · trivial
  · trivial
  · trivial
  · trivial
  · trivial
  · trivial
  · trivial
  · trivial
  · trivial
  · trivial
  · trivial
  · exact g316
  · trivial
  · exact g318
  · exact g319
theorem row20_ok : Row Tryz.prog 0 nms 20 row20 := fun c => by
  cases c
  · trivial
  · trivial
  · trivial
  · exact g323
  · trivial
  · trivial
  · trivial
  · trivial
  · trivial
  · exact g329
  · exact g330
  · exact g331
  · exact g332
  · exact g333
  · trivial
  · trivial
theorem row21_ok : Row Tryz.prog 0 nms 21 row21 := fun c => by
  cases c
  · trivial
  · trivial
  · trivial
  · trivial
  · trivial
  · trivial
  · trivial
  · exact g343
  · exact g344
  · exact g345
  · exact g346
  · trivial
  · trivial
  · trivial
  · trivial
  · trivial
theorem row23_ok : Row Tryz.prog 0 nms 23 row23 := fun c => by
  cases c
  · trivial
  · trivial
  · trivial
  · trivial
  · trivial
  · exact g373
  · trivial
  · trivial
  · trivial
  · trivial
  · trivial
  · trivial
  · trivial
  · trivial
  · trivial
  · trivial
theorem row24_ok : Row Tryz.prog 0 nms 24 row24 := fun c => by
  cases c
  · trivial
  · trivial
  · trivial
  · trivial
  · trivial
  · trivial
  · trivial
  · trivial
  · trivial
  · trivial
  · trivial
  · trivial
  · trivial
  · trivial
  · exact g398
  · trivial
theorem row25_ok : Row Tryz.prog 0 nms 25 row25 := fun c => by
  cases c
  · trivial
  · exact g401
  · trivial
  · trivial
  · trivial
  · trivial
  · trivial
  · exact g407
  · exact ⟨g408, q408⟩
  · exact g409
  · trivial
  · trivial
  · trivial
  · trivial
  · trivial
  · trivial
theorem row26_ok : Row Tryz.prog 0 nms 26 row26 := fun c => by
  cases c
  · trivial
  · trivial
  · trivial
  · trivial
  · trivial
  · trivial
  · trivial
  · trivial
  · trivial
  · exact g425
  · exact g426
  · exact g427
  · exact g428
  · trivial
  · trivial
  · trivial
theorem row30_ok : Row Tryz.prog 0 nms 30 row30 := fun c => by
  cases c
  · trivial
  · trivial
  · trivial
  · trivial
  · trivial
  · trivial
  · trivial
  · trivial
  · trivial
  · trivial
  · trivial
  · trivial
  · trivial
  · trivial
  · trivial
  · exact g495
theorem row31_ok : Row Tryz.prog 0 nms 31 row31 := fun c => by
  cases c
  · trivial
  · trivial
  · trivial
  · trivial
  · trivial
  · exact g501
  · trivial
  · trivial
  · trivial
  · trivial
  · trivial
  · trivial
  · trivial
  · trivial
  · trivial
  · trivial
theorem row39_ok : Row Tryz.prog 0 nms 39 row39 := fun c => by
  cases c
  · trivial
  · trivial
  · trivial
  · trivial
  · trivial
  · trivial
  · trivial
  · trivial
  · trivial
  · trivial
  · trivial
  · trivial
  · trivial
  · trivial
  · exact g638
  · exact g639
theorem row40_ok : Row Tryz.prog 0 nms 40 row40 := fun c => by
  cases c
  · trivial
  · exact g641
  · exact g642
  · trivial
  · trivial
  · trivial
  · trivial
  · trivial
  · trivial
  · trivial
  · trivial
  · trivial
  · trivial
  · trivial
  · trivial
  · trivial
theorem page0_ok : Page Tryz.prog 0 nms 0 page0 := fun b => by
  cases b
  · exact row0_ok
  · exact row1_ok
  · exact row2_ok
  · exact row3_ok
  · exact row4_ok
  · exact row5_ok
  · exact row6_ok
  · exact row7_ok
  · exact row8_ok
  · exact row9_ok
  · exact row10_ok
  · exact row11_ok
  · exact row12_ok
  · exact row13_ok
  · exact row14_ok
  · exact row15_ok
theorem page1_ok : Page Tryz.prog 0 nms 1 page1 := fun b => by
  cases b
  · exact row16_ok
  · exact row17_ok
  · exact row18_ok
  · exact row19_ok
  · exact row20_ok
  · exact row21_ok
  · exact row_nil _
  · exact row23_ok
  · exact row24_ok
  · exact row25_ok
  · exact row26_ok
  · exact row_nil _
  · exact row_nil _
  · exact row_nil _
  · exact row30_ok
  · exact row31_ok
theorem page2_ok : Page Tryz.prog 0 nms 2 page2 := fun b => by
  cases b
  · exact row_nil _
  · exact row_nil _
  · exact row_nil _
  · exact row_nil _
  · exact row_nil _
  · exact row_nil _
  · exact row_nil _
  · exact row39_ok
  · exact row40_ok
  · exact row_nil _
  · exact row_nil _
  · exact row_nil _
  · exact row_nil _
  · exact row_nil _
  · exact row_nil _
  · exact row_nil _
theorem table_all : ∀ a : H, Page Tryz.prog 0 nms a.nat (F3.get a pg.fs) := fun a => by
  cases a
  · exact page0_ok
  · exact page1_ok
  · exact page2_ok
  · exact page_nil _
  · exact page_nil _
  · exact page_nil _
  · exact page_nil _
  · exact page_nil _
  · exact page_nil _
  · exact page_nil _
  · exact page_nil _
  · exact page_nil _
  · exact page_nil _
  · exact page_nil _
  · exact page_nil _
  · exact page_nil _
theorem ms_all : MsOK Tryz.prog nms pg.ms := msB_ok (by kernel_rfl)
theorem env : Env Tryz.prog 0 nms pg := env_of mixed ms_all table_all rfl
end
end Go.Am.Seat
