/- Each function of the table is what the program's function is translated into. Nothing is asked. -/
import Derived.Test.YtlbakkmjljnbdaaGreatDoorEnv0
import Derived.Test.YtlbakkmjljnbdaaGreatDoorEnv1
set_option linter.all false
open Go.Proofs
namespace Go.Am.Seat
set_option maxRecDepth 100000
section
theorem mixed : Tryz.prog.follows .mixedOrders = true := by kernel_rfl
theorem q303 : PrimOK Tryz.prog ⟨7, []⟩ p303 303 := Crc.crc_ok (names := nms) mixed Tryz.func303 (by kernel_rfl)
theorem q93 : ExtOK Tryz.prog ⟨7, []⟩ .noesc 93 := noesc_ok Tryz.func93 (by kernel_rfl) (by kernel_rfl) (by kernel_rfl) (by kernel_rfl)
theorem q175 : ExtOK Tryz.prog ⟨7, []⟩ (.mknz 5) 175 := mknz_ok (ps := Tryz.f175.params) (t := Tryz.f175.resultTypes[0]!) Tryz.func175 (by kernel_rfl) (by kernel_rfl) (by kernel_rfl) (by kernel_rfl) (by kernel_rfl)
theorem q301 : ExtOK Tryz.prog ⟨7, []⟩ .trunc 301 := trunc_ok Tryz.func301 (by kernel_rfl) (by kernel_rfl) (by kernel_rfl) (by kernel_rfl)
theorem row0_ok : Row Tryz.prog ⟨7, []⟩ nms 0 row0 := fun c => by
  cases c
  · trivial
  · trivial
  · trivial
  · exact g3
  · exact g4
  · exact g5
  · exact g6
  · exact g7
  · exact g8
  · exact g9
  · exact g10
  · exact g11
  · exact g12
  · exact g13
  · exact g14
  · exact g15
theorem row1_ok : Row Tryz.prog ⟨7, []⟩ nms 1 row1 := fun c => by
  cases c
  · exact g16
  · exact g17
  · exact g18
  · exact g19
  · exact g20
  · exact g21
  · exact g22
  · exact g23
  · trivial
  · exact g25
  · trivial
  · exact g27
  · exact g28
  · exact g29
  · exact g30
  · exact g31
theorem row2_ok : Row Tryz.prog ⟨7, []⟩ nms 2 row2 := fun c => by
  cases c
  · exact g32
  · exact g33
  · exact g34
  · exact g35
  · exact g36
  · exact g37
  · exact g38
  · exact g39
  · exact g40
  · trivial
  · trivial
  · trivial
  · trivial
  · exact g45
  · exact g46
  · trivial
theorem row3_ok : Row Tryz.prog ⟨7, []⟩ nms 3 row3 := fun c => by
  cases c
  · trivial
  · trivial
  · trivial
  · trivial
  · trivial
  · trivial
  · trivial
  · trivial
  · trivial
  · trivial
  · exact g58
  · exact g59
  · exact g60
  · exact g61
  · exact g62
  · exact g63
theorem row4_ok : Row Tryz.prog ⟨7, []⟩ nms 4 row4 := fun c => by
  cases c
  · exact g64
  · exact g65
  · exact g66
  · trivial
  · exact g68
  · trivial
  · trivial
  · trivial
  · trivial
  · trivial
  · exact g74
  · exact g75
  · trivial
  · trivial
  · trivial
  · trivial
theorem row5_ok : Row Tryz.prog ⟨7, []⟩ nms 5 row5 := fun c => by
  cases c
  · trivial
  · trivial
  · trivial
  · trivial
  · trivial
  · trivial
  · trivial
  · trivial
  · trivial
  · trivial
  · trivial
  · trivial
  · trivial
  · exact q93
  · exact g94
  · exact g95
theorem row6_ok : Row Tryz.prog ⟨7, []⟩ nms 6 row6 := fun c => by
  cases c
  · exact g96
  · exact g97
  · exact g98
  · exact g99
  · exact g100
  · exact g101
  · trivial
  · trivial
  · trivial
  · trivial
  · trivial
  · trivial
  · trivial
  · trivial
  · trivial
  · trivial
theorem row7_ok : Row Tryz.prog ⟨7, []⟩ nms 7 row7 := fun c => by
  cases c
  · trivial
  · trivial
  · trivial
  · trivial
  · trivial
  · trivial
  · trivial
  · trivial
  · trivial
  · trivial
  · trivial
  · trivial
  · trivial
  · exact g125
  · exact g126
  · exact g127
theorem row8_ok : Row Tryz.prog ⟨7, []⟩ nms 8 row8 := fun c => by
  cases c
  · trivial
  · exact g129
  · exact g130
  · exact g131
  · exact g132
  · exact g133
  · exact g134
  · exact g135
  · exact g136
  · trivial
  · exact g138
  · exact g139
  · trivial
  · trivial
  · trivial
  · trivial
theorem row10_ok : Row Tryz.prog ⟨7, []⟩ nms 10 row10 := fun c => by
  cases c
  · trivial
  · trivial
  · exact g162
  · trivial
  · trivial
  · trivial
  · exact g166
  · trivial
  · trivial
  · trivial
  · exact g170
  · exact g171
  · exact g172
  · trivial
  · trivial
  · exact q175
theorem row11_ok : Row Tryz.prog ⟨7, []⟩ nms 11 row11 := fun c => by
  cases c
  · exact g176
  · trivial
  · trivial
  · trivial
  · trivial
  · trivial
  · trivial
  · trivial
  · exact g184
  · exact g185
  · trivial
  · trivial
  · exact g188
  · trivial
  · exact g190
  · trivial
theorem row12_ok : Row Tryz.prog ⟨7, []⟩ nms 12 row12 := fun c => by
  cases c
  · exact g192
  · exact g193
  · exact g194
  · trivial
  · trivial
  · exact g197
  · exact g198
  · trivial
  · trivial
  · trivial
  · trivial
  · trivial
  · trivial
  · trivial
  · trivial
  · trivial
theorem row15_ok : Row Tryz.prog ⟨7, []⟩ nms 15 row15 := fun c => by
  cases c
  · trivial
  · trivial
  · trivial
  · exact g243
  · trivial
  · exact g245
  · trivial
  · trivial
  · trivial
  · exact g249
  · trivial
  · trivial
  · trivial
  · trivial
  · trivial
  · trivial
theorem row18_ok : Row Tryz.prog ⟨7, []⟩ nms 18 row18 := fun c => by
  cases c
  · trivial
  · trivial
  · trivial
  · trivial
  · trivial
  · trivial
  · trivial
  · trivial
  · trivial
  · trivial
  · trivial
  · trivial
  · trivial
  · exact q301
  · trivial
  · exact ⟨g303, q303⟩
theorem row40_ok : Row Tryz.prog ⟨7, []⟩ nms 40 row40 := fun c => by
  cases c
  · trivial
  · trivial
  · trivial
  · trivial
  · trivial
  · trivial
  · exact g646
  · trivial
  · trivial
  · trivial
  · trivial
  · trivial
  · trivial
  · trivial
  · trivial
  · trivial
theorem page0_ok : Page Tryz.prog ⟨7, []⟩ nms 0 page0 := fun b => by
  cases b
  · exact row0_ok
  · exact row1_ok
  · exact row2_ok
  · exact row3_ok
  · exact row4_ok
  · exact row5_ok
  · exact row6_ok
  · exact row7_ok
  · exact row8_ok
  · exact row_nil _
  · exact row10_ok
  · exact row11_ok
  · exact row12_ok
  · exact row_nil _
  · exact row_nil _
  · exact row15_ok
theorem page1_ok : Page Tryz.prog ⟨7, []⟩ nms 1 page1 := fun b => by
  cases b
  · exact row_nil _
  · exact row_nil _
  · exact row18_ok
  · exact row_nil _
  · exact row_nil _
  · exact row_nil _
  · exact row_nil _
  · exact row_nil _
  · exact row_nil _
  · exact row_nil _
  · exact row_nil _
  · exact row_nil _
  · exact row_nil _
  · exact row_nil _
  · exact row_nil _
  · exact row_nil _
theorem page2_ok : Page Tryz.prog ⟨7, []⟩ nms 2 page2 := fun b => by
  cases b
  · exact row_nil _
  · exact row_nil _
  · exact row_nil _
  · exact row_nil _
  · exact row_nil _
  · exact row_nil _
  · exact row_nil _
  · exact row_nil _
  · exact row40_ok
  · exact row_nil _
  · exact row_nil _
  · exact row_nil _
  · exact row_nil _
  · exact row_nil _
  · exact row_nil _
  · exact row_nil _
theorem table_all : ∀ a : H, Page Tryz.prog ⟨7, []⟩ nms a.nat (F3.get a pg.fs) := fun a => by
  cases a
  · exact page0_ok
  · exact page1_ok
  · exact page2_ok
  · exact page_nil _
  · exact page_nil _
  · exact page_nil _
  · exact page_nil _
  · exact page_nil _
  · exact page_nil _
  · exact page_nil _
  · exact page_nil _
  · exact page_nil _
  · exact page_nil _
  · exact page_nil _
  · exact page_nil _
  · exact page_nil _
theorem ms_all : MsOK Tryz.prog nms pg.ms := msB_ok (by kernel_rfl)
theorem env : Env Tryz.prog ⟨7, []⟩ nms pg := env_of mixed ms_all table_all rfl
end
end Go.Am.Seat
