/- Each function of the table is what the program's function is translated into. Nothing is asked. -/
import Derived.Test.YtjalgcdbokciaaaGreatDoorEnv0
import Derived.Test.YtjalgcdbokciaaaGreatDoorEnv1
set_option linter.all false
open Go.Proofs
namespace Go.Am.Seat
set_option maxRecDepth 100000
section
theorem mixed : Tryz.prog.follows .mixedOrders = true := by kernel_rfl
theorem row0_ok : Row Tryz.prog 0 nms 0 row0 := fun c => by
  cases c
  · trivial
  · trivial
  · trivial
  · exact g3
  · exact g4
  · exact g5
  · exact g6
  · exact g7
  · exact g8
  · exact g9
  · exact g10
  · exact g11
  · exact g12
  · exact g13
  · exact g14
  · exact g15
theorem row1_ok : Row Tryz.prog 0 nms 1 row1 := fun c => by
  cases c
  · exact g16
  · exact g17
  · exact g18
  · exact g19
  · exact g20
  · exact g21
  · exact g22
  · exact g23
  · exact g24
  · exact g25
  · exact g26
  · exact g27
  · exact g28
  · exact g29
  · exact g30
  · trivial
theorem row2_ok : Row Tryz.prog 0 nms 2 row2 := fun c => by
  cases c
  · exact g32
  · exact g33
  · exact g34
  · exact g35
  · exact g36
  · exact g37
  · exact g38
  · exact g39
  · exact g40
  · exact g41
  · exact g42
  · exact g43
  · exact g44
  · trivial
  · exact g46
  · exact g47
theorem row3_ok : Row Tryz.prog 0 nms 3 row3 := fun c => by
  cases c
  · exact g48
  · exact g49
  · exact g50
  · exact g51
  · exact g52
  · exact g53
  · exact g54
  · exact g55
  · exact g56
  · exact g57
  · exact g58
  · trivial
  · exact g60
  · exact g61
  · trivial
  · trivial
theorem row4_ok : Row Tryz.prog 0 nms 4 row4 := fun c => by
  cases c
  · trivial
  · trivial
  · trivial
  · trivial
  · trivial
  · exact g69
  · exact g70
  · exact g71
  · exact g72
  · exact g73
  · trivial
  · exact g75
  · trivial
  · trivial
  · exact g78
  · trivial
theorem row5_ok : Row Tryz.prog 0 nms 5 row5 := fun c => by
  cases c
  · exact g80
  · exact g81
  · exact g82
  · exact g83
  · trivial
  · trivial
  · exact g86
  · trivial
  · exact g88
  · exact g89
  · trivial
  · trivial
  · trivial
  · exact g93
  · trivial
  · trivial
theorem row6_ok : Row Tryz.prog 0 nms 6 row6 := fun c => by
  cases c
  · trivial
  · trivial
  · trivial
  · trivial
  · trivial
  · trivial
  · trivial
  · trivial
  · trivial
  · trivial
  · trivial
  · exact g107
  · trivial
  · exact g109
  · exact g110
  · exact g111
theorem row7_ok : Row Tryz.prog 0 nms 7 row7 := fun c => by
  cases c
  · exact g112
  · trivial
  · trivial
  · trivial
  · trivial
  · trivial
  · trivial
  · trivial
  · trivial
  · trivial
  · trivial
  · trivial
  · trivial
  · trivial
  · exact g126
  · exact g127
theorem row8_ok : Row Tryz.prog 0 nms 8 row8 := fun c => by
  cases c
  · exact g128
  · exact g129
  · trivial
  · trivial
  · trivial
  · exact g133
  · trivial
  · trivial
  · trivial
  · exact g137
  · trivial
  · trivial
  · trivial
  · trivial
  · trivial
  · trivial
theorem row9_ok : Row Tryz.prog 0 nms 9 row9 := fun c => by
  cases c
  · trivial
  · trivial
  · trivial
  · trivial
  · trivial
  · trivial
  · trivial
  · trivial
  · trivial
  · trivial
  · trivial
  · trivial
  · trivial
  · trivial
  · trivial
  · exact g159
theorem row10_ok : Row Tryz.prog 0 nms 10 row10 := fun c => by
  cases c
  · trivial
  · trivial
  · exact g162
  · trivial
  · trivial
  · trivial
  · trivial
  · trivial
  · trivial
  · trivial
  · trivial
  · trivial
  · trivial
  · trivial
  · trivial
  · trivial
theorem row12_ok : Row Tryz.prog 0 nms 12 row12 := fun c => by
  cases c
  · trivial
  · trivial
  · trivial
  · trivial
  · trivial
  · trivial
  · exact g198
  · exact g199
  · exact g200
  · exact g201
  · trivial
  · trivial
  · trivial
  · trivial
  · trivial
  · trivial
theorem row13_ok : Row Tryz.prog 0 nms 13 row13 := fun c => by
  cases c
  · trivial
  · trivial
  · exact g210
  · trivial
  · trivial
  · trivial
  · trivial
  · trivial
  · trivial
  · trivial
  · trivial
  · trivial
  · trivial
  · trivial
  · trivial
  · trivial
theorem page0_ok : Page Tryz.prog 0 nms 0 page0 := fun b => by
  cases b
  · exact row0_ok
  · exact row1_ok
  · exact row2_ok
  · exact row3_ok
  · exact row4_ok
  · exact row5_ok
  · exact row6_ok
  · exact row7_ok
  · exact row8_ok
  · exact row9_ok
  · exact row10_ok
  · exact row_nil _
  · exact row12_ok
  · exact row13_ok
  · exact row_nil _
  · exact row_nil _
theorem table_all : ∀ a : H, Page Tryz.prog 0 nms a.nat (F3.get a pg.fs) := fun a => by
  cases a
  · exact page0_ok
  · exact page_nil _
  · exact page_nil _
  · exact page_nil _
  · exact page_nil _
  · exact page_nil _
  · exact page_nil _
  · exact page_nil _
  · exact page_nil _
  · exact page_nil _
  · exact page_nil _
  · exact page_nil _
  · exact page_nil _
  · exact page_nil _
  · exact page_nil _
  · exact page_nil _
theorem ms_all : MsOK Tryz.prog nms pg.ms := msB_ok (by kernel_rfl)
theorem env : Env Tryz.prog 0 nms pg := env_of mixed ms_all table_all rfl
end
end Go.Am.Seat
