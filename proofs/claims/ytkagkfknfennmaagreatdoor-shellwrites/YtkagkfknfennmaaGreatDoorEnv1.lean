/- Each function of the table is what the program's function is translated into. Nothing is asked. -/
import Derived.Test.YtkagkfknfennmaaGreatDoorProg
import Derived.Test.YtkagkfknfennmaaGreatDoorEq0
import Derived.Test.YtkagkfknfennmaaGreatDoorG
set_option linter.all false
open Go.Proofs
namespace Go.Am.Seat
set_option maxRecDepth 100000
abbrev V1 (f : Nat) (x : AC) (z : List Rs) : Prop := pE Tryz.prog ⟨7, [], none⟩ lG f x z
theorem v1 {f : Nat} {x b : AC} {z : List Rs} {F : Func} (h : Tryz.prog.funcs[f]? = some F) (i : Impl b x) (e : cF Tryz.prog ⟨7, [], none⟩ lG F = .mk b z := by kernel_rfl) : V1 f x z := ⟨F, b, h, e, i⟩
theorem g7 : V1 7 x7 [.t .h0 .h0] := v1 Tryz.func7 i7
theorem g19 : V1 19 x19 [.agg 3 .h0 .h4] := v1 Tryz.func19 i19
theorem g30 : V1 30 x30 [.t .h0 .h2,.t .h0 .h3] := v1 Tryz.func30 i30
theorem g32 : V1 32 x32 [.t .h0 .h2] := v1 Tryz.func32 i32
theorem g41 : V1 41 x41 [.t .h0 .h2,.t .h0 .h3] := v1 Tryz.func41 i41
theorem g42 : V1 42 x42 [.t .h0 .h0] := v1 Tryz.func42 i42
theorem g60 : V1 60 x60 [.t .h0 .h4] := v1 Tryz.func60 i60
theorem g61 : V1 61 x61 [.t .h0 .h0] := v1 Tryz.func61 i61
theorem g84 : V1 84 x84 [.t .h0 .h0] := v1 Tryz.func84 i84
theorem g85 : V1 85 x85 [] := v1 Tryz.func85 i85
theorem g86 : V1 86 x86 [.t .h0 .h0] := v1 Tryz.func86 i86
theorem g87 : V1 87 x87 [.t .h0 .h0] := v1 Tryz.func87 i87
theorem g117 : V1 117 x117 [.t .h0 .h0] := v1 Tryz.func117 i117
theorem g118 : V1 118 x118 [.t .h0 .h0] := v1 Tryz.func118 i118
theorem g119 : V1 119 x119 [.t .h0 .h4] := v1 Tryz.func119 i119
theorem g120 : V1 120 x120 [.t .h0 .h2] := v1 Tryz.func120 i120
theorem g121 : V1 121 x121 [.t .h0 .h2,.t .h0 .h3] := v1 Tryz.func121 i121
theorem g122 : V1 122 x122 [.t .h0 .h2] := v1 Tryz.func122 i122
theorem g125 : V1 125 x125 [] := v1 Tryz.func125 i125
theorem g126 : V1 126 x126 [] := v1 Tryz.func126 i126
theorem g152 : V1 152 x152 [.t .h0 .h2] := v1 Tryz.func152 i152
theorem g156 : V1 156 x156 [.t .h0 .h2] := v1 Tryz.func156 i156
theorem g174 : V1 174 x174 [.t .h0 .h4] := v1 Tryz.func174 i174
theorem g175 : V1 175 x175 [] := v1 Tryz.func175 i175
theorem g178 : V1 178 x178 [.t .h0 .h4] := v1 Tryz.func178 i178
theorem g180 : V1 180 x180 [] := v1 Tryz.func180 i180
theorem g182 : V1 182 x182 [] := v1 Tryz.func182 i182
theorem g183 : V1 183 x183 [.agg 2 .h0 .h2] := v1 Tryz.func183 i183
theorem g184 : V1 184 x184 [.t .h0 .h4] := v1 Tryz.func184 i184
theorem g187 : V1 187 x187 [.t .h0 .h4] := v1 Tryz.func187 i187
theorem g188 : V1 188 x188 [.t .h0 .h2] := v1 Tryz.func188 i188
theorem g241 : V1 241 x241 [.t .h0 .h2] := v1 Tryz.func241 i241
theorem g245 : V1 245 x245 [.t .h0 .h2] := v1 Tryz.func245 i245
theorem g302 : V1 302 x302 [.t .h0 .h2] := v1 Tryz.func302 i302
theorem g646 : V1 646 x646 [] := v1 Tryz.func646 i646
end Go.Am.Seat
