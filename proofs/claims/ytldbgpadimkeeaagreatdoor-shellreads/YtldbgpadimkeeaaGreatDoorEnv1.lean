/- Each function of the table is what the program's function is translated into. Nothing is asked. -/
import Derived.Test.YtldbgpadimkeeaaGreatDoorProg
import Derived.Test.YtldbgpadimkeeaaGreatDoorEq0
import Derived.Test.YtldbgpadimkeeaaGreatDoorG
set_option linter.all false
open Go.Proofs
namespace Go.Am.Seat
set_option maxRecDepth 100000
abbrev V1 (f : Nat) (x : AC) (z : List Rs) : Prop := qT Tryz.prog ⟨7, [], none⟩ mL f x z
theorem v1 {f : Nat} {x b : AC} {z : List Rs} {F : Func} (h : Tryz.prog.funcs[f]? = some F) (i : Impl b x) (e : cF Tryz.prog ⟨7, [], none⟩ mL F = .mk b z := by kernel_rfl) : V1 f x z := ⟨F, b, h, e, i⟩
theorem g26 : V1 26 x26 [.t .h0 .h2] := v1 Tryz.func26 i26
theorem g27 : V1 27 x27 [.t .h0 .h2] := v1 Tryz.func27 i27
theorem g28 : V1 28 x28 [.t .h0 .h4] := v1 Tryz.func28 i28
theorem g30 : V1 30 x30 [.t .h0 .h4] := v1 Tryz.func30 i30
theorem g49 : V1 49 x49 [.t .h0 .h4] := v1 Tryz.func49 i49
theorem g50 : V1 50 x50 [.t .h0 .h2] := v1 Tryz.func50 i50
theorem g51 : V1 51 x51 [] := v1 Tryz.func51 i51
theorem g52 : V1 52 x52 [.t .h0 .h4] := v1 Tryz.func52 i52
theorem g32 : V1 32 x32 [.t .h0 .h2] := v1 Tryz.func32 i32
theorem g59 : V1 59 x59 [.t .h0 .h4,.t .h0 .h5] := v1 Tryz.func59 i59
theorem g60 : V1 60 x60 [.t .h0 .h2] := v1 Tryz.func60 i60
theorem g61 : V1 61 x61 [] := v1 Tryz.func61 i61
theorem g62 : V1 62 x62 [.t .h0 .h2] := v1 Tryz.func62 i62
theorem g86 : V1 86 x86 [] := v1 Tryz.func86 i86
theorem g87 : V1 87 x87 [.t .h0 .h2] := v1 Tryz.func87 i87
theorem g113 : V1 113 x113 [.t .h0 .h4] := v1 Tryz.func113 i113
theorem g144 : V1 144 x144 [.t .h0 .h2] := v1 Tryz.func144 i144
theorem g13 : V1 13 x13 [.t .h0 .h0] := v1 Tryz.func13 i13
theorem g31 : V1 31 x31 [.agg 3 .h0 .h4] := v1 Tryz.func31 i31
theorem g56 : V1 56 x56 [.t .h0 .h2,.t .h0 .h3] := v1 Tryz.func56 i56
theorem g58 : V1 58 x58 [.t .h0 .h2] := v1 Tryz.func58 i58
theorem g73 : V1 73 x73 [.t .h0 .h2,.t .h0 .h3] := v1 Tryz.func73 i73
theorem g74 : V1 74 x74 [.t .h0 .h0] := v1 Tryz.func74 i74
theorem g93 : V1 93 x93 [.t .h0 .h4] := v1 Tryz.func93 i93
theorem g94 : V1 94 x94 [.t .h0 .h0] := v1 Tryz.func94 i94
theorem g117 : V1 117 x117 [.t .h0 .h0] := v1 Tryz.func117 i117
theorem g118 : V1 118 x118 [] := v1 Tryz.func118 i118
theorem g119 : V1 119 x119 [.t .h0 .h0] := v1 Tryz.func119 i119
theorem g120 : V1 120 x120 [.t .h0 .h0] := v1 Tryz.func120 i120
theorem g150 : V1 150 x150 [.t .h0 .h0] := v1 Tryz.func150 i150
theorem g151 : V1 151 x151 [.t .h0 .h0] := v1 Tryz.func151 i151
theorem g152 : V1 152 x152 [.t .h0 .h4] := v1 Tryz.func152 i152
theorem g153 : V1 153 x153 [.t .h0 .h2] := v1 Tryz.func153 i153
theorem g154 : V1 154 x154 [.t .h0 .h2,.t .h0 .h3] := v1 Tryz.func154 i154
theorem g155 : V1 155 x155 [.t .h0 .h2] := v1 Tryz.func155 i155
theorem g157 : V1 157 x157 [] := v1 Tryz.func157 i157
theorem g158 : V1 158 x158 [] := v1 Tryz.func158 i158
theorem g181 : V1 181 x181 [.t .h0 .h2] := v1 Tryz.func181 i181
theorem g185 : V1 185 x185 [.t .h0 .h2] := v1 Tryz.func185 i185
theorem g203 : V1 203 x203 [.t .h0 .h4] := v1 Tryz.func203 i203
theorem g204 : V1 204 x204 [] := v1 Tryz.func204 i204
theorem g207 : V1 207 x207 [.t .h0 .h4] := v1 Tryz.func207 i207
theorem g209 : V1 209 x209 [] := v1 Tryz.func209 i209
theorem g211 : V1 211 x211 [] := v1 Tryz.func211 i211
theorem g212 : V1 212 x212 [.agg 2 .h0 .h2] := v1 Tryz.func212 i212
theorem g213 : V1 213 x213 [.t .h0 .h4] := v1 Tryz.func213 i213
theorem g216 : V1 216 x216 [.t .h0 .h4] := v1 Tryz.func216 i216
theorem g217 : V1 217 x217 [.t .h0 .h2] := v1 Tryz.func217 i217
theorem g264 : V1 264 x264 [.t .h0 .h2] := v1 Tryz.func264 i264
theorem g268 : V1 268 x268 [.t .h0 .h2] := v1 Tryz.func268 i268
theorem g322 : V1 322 x322 [.t .h0 .h2] := v1 Tryz.func322 i322
theorem g665 : V1 665 x665 [] := v1 Tryz.func665 i665
end Go.Am.Seat
