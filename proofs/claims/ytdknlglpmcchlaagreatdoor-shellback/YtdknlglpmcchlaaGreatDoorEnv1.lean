/- Each function of the table is what the program's function is translated into. Nothing is asked. -/
import Derived.Test.YtdknlglpmcchlaaGreatDoorProg
import Derived.Test.YtdknlglpmcchlaaGreatDoorEq0
import Derived.Test.YtdknlglpmcchlaaGreatDoorG
set_option linter.all false
open Go.Proofs
namespace Go.Am.Seat
set_option maxRecDepth 100000
abbrev V1 (f : Nat) (x : AC) (z : List Rs) : Prop := rF Tryz.prog ⟨7, [], none⟩ na f x z
theorem v1 {f : Nat} {x b : AC} {z : List Rs} {F : Func} (h : Tryz.prog.funcs[f]? = some F) (i : Impl b x) (e : cF Tryz.prog ⟨7, [], none⟩ na F = .mk b z := by kernel_rfl) : V1 f x z := ⟨F, b, h, e, i⟩
theorem g35 : V1 35 x35 [.t .h0 .h4,.t .h0 .h5] := v1 Tryz.func35 i35
theorem g36 : V1 36 x36 [.t .h0 .h2] := v1 Tryz.func36 i36
theorem g37 : V1 37 x37 [] := v1 Tryz.func37 i37
theorem g38 : V1 38 x38 [.t .h0 .h2] := v1 Tryz.func38 i38
theorem g61 : V1 61 x61 [] := v1 Tryz.func61 i61
theorem g62 : V1 62 x62 [.t .h0 .h2] := v1 Tryz.func62 i62
theorem g95 : V1 95 x95 [.t .h0 .h4] := v1 Tryz.func95 i95
theorem g127 : V1 127 x127 [.t .h0 .h2] := v1 Tryz.func127 i127
theorem g6 : V1 6 x6 [.t .h0 .h0] := v1 Tryz.func6 i6
theorem g19 : V1 19 x19 [.agg 3 .h0 .h4] := v1 Tryz.func19 i19
theorem g32 : V1 32 x32 [.t .h0 .h2,.t .h0 .h3] := v1 Tryz.func32 i32
theorem g34 : V1 34 x34 [.t .h0 .h2] := v1 Tryz.func34 i34
theorem g48 : V1 48 x48 [.t .h0 .h2,.t .h0 .h3] := v1 Tryz.func48 i48
theorem g49 : V1 49 x49 [.t .h0 .h0] := v1 Tryz.func49 i49
theorem g75 : V1 75 x75 [.t .h0 .h4] := v1 Tryz.func75 i75
theorem g76 : V1 76 x76 [.t .h0 .h0] := v1 Tryz.func76 i76
theorem g100 : V1 100 x100 [.t .h0 .h0] := v1 Tryz.func100 i100
theorem g101 : V1 101 x101 [] := v1 Tryz.func101 i101
theorem g102 : V1 102 x102 [.t .h0 .h0] := v1 Tryz.func102 i102
theorem g103 : V1 103 x103 [.t .h0 .h0] := v1 Tryz.func103 i103
theorem g133 : V1 133 x133 [.t .h0 .h0] := v1 Tryz.func133 i133
theorem g134 : V1 134 x134 [.t .h0 .h0] := v1 Tryz.func134 i134
theorem g135 : V1 135 x135 [.t .h0 .h4] := v1 Tryz.func135 i135
theorem g136 : V1 136 x136 [.t .h0 .h2] := v1 Tryz.func136 i136
theorem g137 : V1 137 x137 [.t .h0 .h2,.t .h0 .h3] := v1 Tryz.func137 i137
theorem g138 : V1 138 x138 [.t .h0 .h2] := v1 Tryz.func138 i138
theorem g140 : V1 140 x140 [] := v1 Tryz.func140 i140
theorem g141 : V1 141 x141 [] := v1 Tryz.func141 i141
theorem g164 : V1 164 x164 [.t .h0 .h2] := v1 Tryz.func164 i164
theorem g168 : V1 168 x168 [.t .h0 .h2] := v1 Tryz.func168 i168
theorem g186 : V1 186 x186 [.t .h0 .h4] := v1 Tryz.func186 i186
theorem g187 : V1 187 x187 [] := v1 Tryz.func187 i187
theorem g190 : V1 190 x190 [.t .h0 .h4] := v1 Tryz.func190 i190
theorem g192 : V1 192 x192 [] := v1 Tryz.func192 i192
theorem g194 : V1 194 x194 [] := v1 Tryz.func194 i194
theorem g195 : V1 195 x195 [.agg 2 .h0 .h2] := v1 Tryz.func195 i195
theorem g196 : V1 196 x196 [.t .h0 .h4] := v1 Tryz.func196 i196
theorem g199 : V1 199 x199 [.t .h0 .h4] := v1 Tryz.func199 i199
theorem g200 : V1 200 x200 [.t .h0 .h2] := v1 Tryz.func200 i200
theorem g247 : V1 247 x247 [.t .h0 .h2] := v1 Tryz.func247 i247
theorem g251 : V1 251 x251 [.t .h0 .h2] := v1 Tryz.func251 i251
theorem g305 : V1 305 x305 [.t .h0 .h2] := v1 Tryz.func305 i305
theorem g648 : V1 648 x648 [] := v1 Tryz.func648 i648
end Go.Am.Seat
