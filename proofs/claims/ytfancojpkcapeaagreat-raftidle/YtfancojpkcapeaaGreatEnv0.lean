/- Each function of the table is what the program's function is translated into. Nothing is asked. -/
import Derived.Test.YtfancojpkcapeaaGreatProg
import Derived.Test.YtfancojpkcapeaaGreatEq0
import Derived.Test.YtfancojpkcapeaaGreatG
set_option linter.all false
open Go.Proofs
namespace Go.Am.Seat
set_option maxRecDepth 100000
abbrev V0 (f : Nat) (x : AC) (z : List Rs) : Prop := qv Tryz.prog ⟨0, [], none⟩ mX f x z
theorem v0 {f : Nat} {x b : AC} {z : List Rs} {F : Func} (h : Tryz.prog.funcs[f]? = some F) (i : Impl b x) (e : cF Tryz.prog ⟨0, [], none⟩ mX F = .mk b z := by kernel_rfl) : V0 f x z := ⟨F, b, h, e, i⟩
theorem g3 : V0 3 x3 [.t .h0 .h4] := v0 Tryz.func3 i3
theorem g4 : V0 4 x4 [.t .h0 .h6] := v0 Tryz.func4 i4
theorem g5 : V0 5 x5 [.t .h0 .h2,.t .h0 .h3] := v0 Tryz.func5 i5
theorem g6 : V0 6 x6 [.t .h0 .h4] := v0 Tryz.func6 i6
theorem g7 : V0 7 x7 [.t .h0 .h4,.t .h0 .h5] := v0 Tryz.func7 i7
theorem g8 : V0 8 x8 [.t .h0 .h4,.t .h0 .h5] := v0 Tryz.func8 i8
theorem g9 : V0 9 x9 [.t .h0 .h4] := v0 Tryz.func9 i9
theorem g10 : V0 10 x10 [.t .h0 .h4] := v0 Tryz.func10 i10
theorem g12 : V0 12 x12 [.t .h0 .h4] := v0 Tryz.func12 i12
theorem g14 : V0 14 x14 [.t .h0 .h4] := v0 Tryz.func14 i14
theorem g15 : V0 15 x15 [] := v0 Tryz.func15 i15
theorem g16 : V0 16 x16 [] := v0 Tryz.func16 i16
theorem g17 : V0 17 x17 [] := v0 Tryz.func17 i17
theorem g18 : V0 18 x18 [] := v0 Tryz.func18 i18
theorem g19 : V0 19 x19 [.t .h0 .h4] := v0 Tryz.func19 i19
theorem g20 : V0 20 x20 [] := v0 Tryz.func20 i20
theorem g21 : V0 21 x21 [.t .h0 .h2] := v0 Tryz.func21 i21
theorem g22 : V0 22 x22 [.t .h0 .h2] := v0 Tryz.func22 i22
theorem g24 : V0 24 x24 [.t .h0 .h4] := v0 Tryz.func24 i24
theorem g25 : V0 25 x25 [.t .h0 .h2] := v0 Tryz.func25 i25
theorem g28 : V0 28 x28 [.t .h0 .h0] := v0 Tryz.func28 i28
theorem g29 : V0 29 x29 [] := v0 Tryz.func29 i29
theorem g31 : V0 31 x31 [.t .h0 .h4] := v0 Tryz.func31 i31
theorem g32 : V0 32 x32 [.t .h0 .h6] := v0 Tryz.func32 i32
theorem g33 : V0 33 x33 [] := v0 Tryz.func33 i33
theorem g34 : V0 34 x34 [] := v0 Tryz.func34 i34
theorem g35 : V0 35 x35 [.t .h0 .h4] := v0 Tryz.func35 i35
theorem g36 : V0 36 x36 [] := v0 Tryz.func36 i36
theorem g37 : V0 37 x37 [] := v0 Tryz.func37 i37
theorem g38 : V0 38 x38 [] := v0 Tryz.func38 i38
theorem g39 : V0 39 x39 [.t .h0 .h2] := v0 Tryz.func39 i39
theorem g40 : V0 40 x40 [.t .h0 .h2] := v0 Tryz.func40 i40
theorem g42 : V0 42 x42 [.t .h0 .h0] := v0 Tryz.func42 i42
theorem g43 : V0 43 x43 [.t .h0 .h0] := v0 Tryz.func43 i43
theorem g44 : V0 44 x44 [.t .h0 .h4] := v0 Tryz.func44 i44
theorem g45 : V0 45 x45 [.t .h0 .h2] := v0 Tryz.func45 i45
theorem g46 : V0 46 x46 [.t .h0 .h2,.t .h0 .h3] := v0 Tryz.func46 i46
theorem g47 : V0 47 x47 [.t .h0 .h2] := v0 Tryz.func47 i47
theorem g48 : V0 48 x48 [] := v0 Tryz.func48 i48
theorem g49 : V0 49 x49 [.t .h0 .h2] := v0 Tryz.func49 i49
theorem g50 : V0 50 x50 [] := v0 Tryz.func50 i50
theorem g51 : V0 51 x51 [] := v0 Tryz.func51 i51
theorem g54 : V0 54 x54 [.t .h0 .h2] := v0 Tryz.func54 i54
theorem g55 : V0 55 x55 [.agg 2 .h0 .h2] := v0 Tryz.func55 i55
theorem g61 : V0 61 x61 [.t .h0 .h2] := v0 Tryz.func61 i61
theorem g65 : V0 65 x65 [] := v0 Tryz.func65 i65
theorem g68 : V0 68 x68 [.t .h0 .h2] := v0 Tryz.func68 i68
theorem g69 : V0 69 x69 [] := v0 Tryz.func69 i69
theorem g70 : V0 70 x70 [] := v0 Tryz.func70 i70
theorem g71 : V0 71 x71 [] := v0 Tryz.func71 i71
theorem g73 : V0 73 x73 [.t .h0 .h2] := v0 Tryz.func73 i73
theorem g75 : V0 75 x75 [.t .h0 .h4] := v0 Tryz.func75 i75
theorem g76 : V0 76 x76 [.t .h0 .h4,.t .h0 .h5] := v0 Tryz.func76 i76
theorem g77 : V0 77 x77 [.t .h0 .h2,.t .h0 .h3] := v0 Tryz.func77 i77
theorem g78 : V0 78 x78 [.t .h0 .h2] := v0 Tryz.func78 i78
theorem g79 : V0 79 x79 [.t .h0 .h6,.t .h0 .h7] := v0 Tryz.func79 i79
theorem g85 : V0 85 x85 [.t .h0 .h4] := v0 Tryz.func85 i85
theorem g86 : V0 86 x86 [] := v0 Tryz.func86 i86
theorem g89 : V0 89 x89 [] := v0 Tryz.func89 i89
theorem g90 : V0 90 x90 [] := v0 Tryz.func90 i90
theorem g92 : V0 92 x92 [] := v0 Tryz.func92 i92
theorem g93 : V0 93 x93 [.agg 2 .h0 .h2] := v0 Tryz.func93 i93
theorem g94 : V0 94 x94 [.t .h0 .h4] := v0 Tryz.func94 i94
theorem g97 : V0 97 x97 [.t .h0 .h4] := v0 Tryz.func97 i97
theorem g98 : V0 98 x98 [.t .h0 .h2] := v0 Tryz.func98 i98
theorem g105 : V0 105 x105 [.t .h0 .h4] := v0 Tryz.func105 i105
theorem g108 : V0 108 x108 [] := v0 Tryz.func108 i108
theorem g111 : V0 111 x111 [.t .h0 .h2] := v0 Tryz.func111 i111
theorem g119 : V0 119 x119 [.t .h0 .h4] := v0 Tryz.func119 i119
theorem g126 : V0 126 x126 [] := v0 Tryz.func126 i126
theorem g131 : V0 131 x131 [.t .h0 .h4] := v0 Tryz.func131 i131
theorem g132 : V0 132 x132 [.t .h0 .h2] := v0 Tryz.func132 i132
theorem g137 : V0 137 x137 [.t .h0 .h0] := v0 Tryz.func137 i137
theorem g138 : V0 138 x138 [] := v0 Tryz.func138 i138
theorem g139 : V0 139 x139 [.t .h0 .h2] := v0 Tryz.func139 i139
theorem g140 : V0 140 x140 [.t .h0 .h2] := v0 Tryz.func140 i140
theorem g148 : V0 148 x148 [.t .h0 .h4] := v0 Tryz.func148 i148
theorem g157 : V0 157 x157 [.t .h0 .h4] := v0 Tryz.func157 i157
theorem g175 : V0 175 x175 [] := v0 Tryz.func175 i175
theorem g181 : V0 181 x181 [.t .h0 .h2] := v0 Tryz.func181 i181
theorem g182 : V0 182 x182 [.t .h0 .h4] := v0 Tryz.func182 i182
theorem g241 : V0 241 x241 [] := v0 Tryz.func241 i241
end Go.Am.Seat
