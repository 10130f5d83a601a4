/- Each function of the table is what the program's function is translated into. Nothing is asked. -/
import Derived.Test.YtammkfjhlofmaaaGreatEnv0
import Derived.Test.YtammkfjhlofmaaaGreatEnv1
set_option linter.all false
open Go.Proofs
namespace Go.Am.Seat
set_option maxRecDepth 100000
section
theorem mixed : Tryz.prog.follows .mixedOrders = true := by kernel_rfl
theorem q187 : PrimOK Tryz.prog 0 p187 187 := Crc.crc_ok (names := nms) mixed Tryz.func187 (by kernel_rfl)
noncomputable def w201 : CollCode Tryz.prog 0 nms 201 192 p201_0 p201_1 p201_2 p201_3 p201_4 p201_5 p201_6 p201_7 p201_8 := { fn := Tryz.f201, gn := Tryz.f192, i0 := _, i1 := _, i2 := _, i3 := _, i4 := _, j0 := _, j1 := _, j2 := _, j3 := _, o0 := _, o1 := _, oa := _, ob := _, o4 := _, p0 := _, p1 := _, p2 := _, p3 := _, om := _, q3 := [_], oc := _, on := _, cl := _, ty := _, hf := Tryz.func201, fb := rfl, fnt := rfl, fr := by kernel_rfl, hg := Tryz.func192, gname := by decide, gb := rfl, gnt := rfl, gr := by kernel_rfl, e0 := rfl, e1 := rfl, ea := rfl, eb := rfl, e4 := rfl, a0 := rfl, a1 := rfl, a2 := rfl, a3 := rfl, s3 := rfl, mo := ⟨rfl, rfl, rfl⟩, co := ⟨rfl, rfl, rfl, rfl, rfl⟩, no := ⟨rfl, rfl, rfl⟩, b0 := by decide, b3 := by decide }
theorem q201 : PrimOK Tryz.prog 0 p201 201 := coll_ok w201
noncomputable def w205 : CollCode Tryz.prog 0 nms 205 200 p205_0 p205_1 p205_2 p205_3 p205_4 p205_5 p205_6 p205_7 p205_8 := { fn := Tryz.f205, gn := Tryz.f200, i0 := _, i1 := _, i2 := _, i3 := _, i4 := _, j0 := _, j1 := _, j2 := _, j3 := _, o0 := _, o1 := _, oa := _, ob := _, o4 := _, p0 := _, p1 := _, p2 := _, p3 := _, om := _, q3 := [_], oc := _, on := _, cl := _, ty := _, hf := Tryz.func205, fb := rfl, fnt := rfl, fr := by kernel_rfl, hg := Tryz.func200, gname := by decide, gb := rfl, gnt := rfl, gr := by kernel_rfl, e0 := rfl, e1 := rfl, ea := rfl, eb := rfl, e4 := rfl, a0 := rfl, a1 := rfl, a2 := rfl, a3 := rfl, s3 := rfl, mo := ⟨rfl, rfl, rfl⟩, co := ⟨rfl, rfl, rfl, rfl, rfl⟩, no := ⟨rfl, rfl, rfl⟩, b0 := by decide, b3 := by decide }
theorem q205 : PrimOK Tryz.prog 0 p205 205 := coll_ok w205
theorem row0_ok : Row Tryz.prog 0 nms 0 row0 := fun c => by
  cases c
  · trivial
  · trivial
  · trivial
  · trivial
  · trivial
  · trivial
  · exact g6
  · trivial
  · trivial
  · trivial
  · trivial
  · trivial
  · trivial
  · trivial
  · exact g14
  · exact g15
theorem row1_ok : Row Tryz.prog 0 nms 1 row1 := fun c => by
  cases c
  · exact g16
  · exact g17
  · exact g18
  · exact g19
  · exact g20
  · exact g21
  · trivial
  · trivial
  · trivial
  · exact g25
  · exact g26
  · exact g27
  · exact g28
  · exact g29
  · exact g30
  · exact g31
theorem row2_ok : Row Tryz.prog 0 nms 2 row2 := fun c => by
  cases c
  · exact g32
  · exact g33
  · exact g34
  · exact g35
  · exact g36
  · exact g37
  · exact g38
  · exact g39
  · trivial
  · exact g41
  · exact g42
  · exact g43
  · exact g44
  · exact g45
  · exact g46
  · exact g47
theorem row3_ok : Row Tryz.prog 0 nms 3 row3 := fun c => by
  cases c
  · exact g48
  · exact g49
  · exact g50
  · exact g51
  · exact g52
  · exact g53
  · exact g54
  · trivial
  · exact g56
  · exact g57
  · exact g58
  · exact g59
  · exact g60
  · exact g61
  · exact g62
  · exact g63
theorem row4_ok : Row Tryz.prog 0 nms 4 row4 := fun c => by
  cases c
  · exact g64
  · exact g65
  · exact g66
  · exact g67
  · exact g68
  · exact g69
  · exact g70
  · exact g71
  · exact g72
  · exact g73
  · exact g74
  · exact g75
  · exact g76
  · exact g77
  · exact g78
  · exact g79
theorem row5_ok : Row Tryz.prog 0 nms 5 row5 := fun c => by
  cases c
  · exact g80
  · exact g81
  · exact g82
  · exact g83
  · exact g84
  · exact g85
  · exact g86
  · exact g87
  · exact g88
  · exact g89
  · exact g90
  · exact g91
  · exact g92
  · exact g93
  · exact g94
  · exact g95
theorem row6_ok : Row Tryz.prog 0 nms 6 row6 := fun c => by
  cases c
  · exact g96
  · exact g97
  · exact g98
  · exact g99
  · exact g100
  · exact g101
  · exact g102
  · exact g103
  · exact g104
  · exact g105
  · exact g106
  · exact g107
  · exact g108
  · exact g109
  · exact g110
  · exact g111
theorem row7_ok : Row Tryz.prog 0 nms 7 row7 := fun c => by
  cases c
  · exact g112
  · exact g113
  · exact g114
  · exact g115
  · exact g116
  · exact g117
  · exact g118
  · exact g119
  · exact g120
  · exact g121
  · exact g122
  · exact g123
  · exact g124
  · exact g125
  · exact g126
  · exact g127
theorem row8_ok : Row Tryz.prog 0 nms 8 row8 := fun c => by
  cases c
  · exact g128
  · exact g129
  · exact g130
  · exact g131
  · exact g132
  · exact g133
  · exact g134
  · exact g135
  · exact g136
  · exact g137
  · exact g138
  · exact g139
  · exact g140
  · exact g141
  · exact g142
  · exact g143
theorem row9_ok : Row Tryz.prog 0 nms 9 row9 := fun c => by
  cases c
  · exact g144
  · exact g145
  · exact g146
  · exact g147
  · exact g148
  · exact g149
  · exact g150
  · exact g151
  · exact g152
  · exact g153
  · exact g154
  · exact g155
  · exact g156
  · exact g157
  · exact g158
  · exact g159
theorem row10_ok : Row Tryz.prog 0 nms 10 row10 := fun c => by
  cases c
  · exact g160
  · exact g161
  · exact g162
  · exact g163
  · exact g164
  · exact g165
  · exact g166
  · exact g167
  · exact g168
  · exact g169
  · exact g170
  · exact g171
  · exact g172
  · exact g173
  · exact g174
  · exact g175
theorem row11_ok : Row Tryz.prog 0 nms 11 row11 := fun c => by
  cases c
  · exact g176
  · exact g177
  · exact g178
  · exact g179
  · exact g180
  · exact g181
  · exact g182
  · exact g183
  · exact g184
  · exact g185
  · exact g186
  · exact ⟨g187, q187⟩
  · exact g188
  · exact g189
  · exact g190
  · exact g191
theorem row12_ok : Row Tryz.prog 0 nms 12 row12 := fun c => by
  cases c
  · exact g192
  · exact g193
  · exact g194
  · exact g195
  · exact g196
  · exact g197
  · exact g198
  · exact g199
  · exact g200
  · exact ⟨g201, q201⟩
  · exact g202
  · exact g203
  · exact g204
  · exact ⟨g205, q205⟩
  · exact g206
  · exact g207
theorem row13_ok : Row Tryz.prog 0 nms 13 row13 := fun c => by
  cases c
  · exact g208
  · exact g209
  · exact g210
  · exact g211
  · exact g212
  · exact g213
  · exact g214
  · exact g215
  · exact g216
  · exact g217
  · exact g218
  · exact g219
  · exact g220
  · exact g221
  · exact g222
  · exact g223
theorem row14_ok : Row Tryz.prog 0 nms 14 row14 := fun c => by
  cases c
  · exact g224
  · exact g225
  · exact g226
  · exact g227
  · exact g228
  · exact g229
  · exact g230
  · exact g231
  · exact g232
  · exact g233
  · exact g234
  · exact g235
  · trivial
  · trivial
  · trivial
  · trivial
theorem row15_ok : Row Tryz.prog 0 nms 15 row15 := fun c => by
  cases c
  · trivial
  · trivial
  · trivial
  · trivial
  · trivial
  · trivial
  · trivial
  · trivial
  · trivial
  · trivial
  · trivial
  · trivial
  · exact g252
  · exact g253
  · exact g254
  · exact g255
theorem row16_ok : Row Tryz.prog 0 nms 16 row16 := fun c => by
  cases c
  · exact g256
  · trivial
  · trivial
  · trivial
  · trivial
  · trivial
  · trivial
  · trivial
  · trivial
  · trivial
  · trivial
  · trivial
  · trivial
  · trivial
  · trivial
  · trivial
theorem page0_ok : Page Tryz.prog 0 nms 0 page0 := fun b => by
  cases b
  · exact row0_ok
  · exact row1_ok
  · exact row2_ok
  · exact row3_ok
  · exact row4_ok
  · exact row5_ok
  · exact row6_ok
  · exact row7_ok
  · exact row8_ok
  · exact row9_ok
  · exact row10_ok
  · exact row11_ok
  · exact row12_ok
  · exact row13_ok
  · exact row14_ok
  · exact row15_ok
theorem page1_ok : Page Tryz.prog 0 nms 1 page1 := fun b => by
  cases b
  · exact row16_ok
  · exact row_nil _
  · exact row_nil _
  · exact row_nil _
  · exact row_nil _
  · exact row_nil _
  · exact row_nil _
  · exact row_nil _
  · exact row_nil _
  · exact row_nil _
  · exact row_nil _
  · exact row_nil _
  · exact row_nil _
  · exact row_nil _
  · exact row_nil _
  · exact row_nil _
theorem table_all : ∀ a : H, Page Tryz.prog 0 nms a.nat (F3.get a pg.fs) := fun a => by
  cases a
  · exact page0_ok
  · exact page1_ok
  · exact page_nil _
  · exact page_nil _
  · exact page_nil _
  · exact page_nil _
  · exact page_nil _
  · exact page_nil _
  · exact page_nil _
  · exact page_nil _
  · exact page_nil _
  · exact page_nil _
  · exact page_nil _
  · exact page_nil _
  · exact page_nil _
  · exact page_nil _
theorem ms_all : MsOK Tryz.prog nms pg.ms := msB_ok (by kernel_rfl)
theorem env : Env Tryz.prog 0 nms pg := env_of mixed ms_all table_all rfl
end
end Go.Am.Seat
