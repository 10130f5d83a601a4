/- Each function of the table is what the program's function is translated into. Nothing is asked. -/
import Derived.Test.YtldbgpadimkeeaaGreatDoorProg
import Derived.Test.YtldbgpadimkeeaaGreatDoorEq0
import Derived.Test.YtldbgpadimkeeaaGreatDoorG
set_option linter.all false
open Go.Proofs
namespace Go.Am.Seat
set_option maxRecDepth 100000
abbrev V0 (f : Nat) (x : AC) (z : List Rs) : Prop := qT Tryz.prog ⟨7, [], none⟩ mL f x z
theorem v0 {f : Nat} {x b : AC} {z : List Rs} {F : Func} (h : Tryz.prog.funcs[f]? = some F) (i : Impl b x) (e : cF Tryz.prog ⟨7, [], none⟩ mL F = .mk b z := by kernel_rfl) : V0 f x z := ⟨F, b, h, e, i⟩
theorem g5 : V0 5 x5 [.agg 12 .h0 .h2] := v0 Tryz.func5 i5
theorem g4 : V0 4 x4 [.t .h0 .h2] := v0 Tryz.func4 i4
theorem g6 : V0 6 x6 [.t .h0 .h2] := v0 Tryz.func6 i6
theorem g15 : V0 15 x15 [.agg 7 .h0 .h2] := v0 Tryz.func15 i15
theorem g14 : V0 14 x14 [.t .h0 .h2] := v0 Tryz.func14 i14
theorem g37 : V0 37 x37 [.t .h0 .h0] := v0 Tryz.func37 i37
theorem g40 : V0 40 x40 [] := v0 Tryz.func40 i40
theorem g45 : V0 45 x45 [.t .h0 .h2] := v0 Tryz.func45 i45
theorem g38 : V0 38 x38 [] := v0 Tryz.func38 i38
theorem g39 : V0 39 x39 [] := v0 Tryz.func39 i39
theorem g19 : V0 19 x19 [.t .h0 .h2] := v0 Tryz.func19 i19
theorem g41 : V0 41 x41 [.t .h0 .h2] := v0 Tryz.func41 i41
theorem g16 : V0 16 x16 [.t .h0 .h4] := v0 Tryz.func16 i16
theorem g17 : V0 17 x17 [.t .h0 .h4] := v0 Tryz.func17 i17
theorem g18 : V0 18 x18 [.t .h0 .h4] := v0 Tryz.func18 i18
theorem g33 : V0 33 x33 [.t .h0 .h2] := v0 Tryz.func33 i33
theorem g34 : V0 34 x34 [.t .h0 .h4] := v0 Tryz.func34 i34
theorem g36 : V0 36 x36 [.t .h0 .h2] := v0 Tryz.func36 i36
theorem g66 : V0 66 x66 [] := v0 Tryz.func66 i66
theorem g67 : V0 67 x67 [] := v0 Tryz.func67 i67
theorem g43 : V0 43 x43 [.t .h0 .h2] := v0 Tryz.func43 i43
theorem g35 : V0 35 x35 [.t .h0 .h4] := v0 Tryz.func35 i35
theorem g63 : V0 63 x63 [.t .h0 .h2] := v0 Tryz.func63 i63
theorem g64 : V0 64 x64 [.t .h0 .h2] := v0 Tryz.func64 i64
theorem g65 : V0 65 x65 [.t .h0 .h2] := v0 Tryz.func65 i65
theorem g10 : V0 10 x10 [.t .h0 .h2] := v0 Tryz.func10 i10
theorem g7 : V0 7 x7 [.t .h0 .h6] := v0 Tryz.func7 i7
theorem g9 : V0 9 x9 [.t .h0 .h4] := v0 Tryz.func9 i9
theorem g21 : V0 21 x21 [.t .h0 .h2] := v0 Tryz.func21 i21
theorem g22 : V0 22 x22 [.t .h0 .h2] := v0 Tryz.func22 i22
theorem g23 : V0 23 x23 [.t .h0 .h2] := v0 Tryz.func23 i23
theorem g24 : V0 24 x24 [.t .h0 .h4] := v0 Tryz.func24 i24
theorem g20 : V0 20 x20 [.t .h0 .h4] := v0 Tryz.func20 i20
theorem g29 : V0 29 x29 [.agg 7 .h0 .h2,.t .h0 .h3] := v0 Tryz.func29 i29
theorem g44 : V0 44 x44 [.t .h0 .h4] := v0 Tryz.func44 i44
theorem g46 : V0 46 x46 [.t .h0 .h2] := v0 Tryz.func46 i46
theorem g47 : V0 47 x47 [.t .h0 .h4] := v0 Tryz.func47 i47
theorem g48 : V0 48 x48 [.t .h0 .h2] := v0 Tryz.func48 i48
theorem g42 : V0 42 x42 [.t .h0 .h4] := v0 Tryz.func42 i42
theorem g53 : V0 53 x53 [.agg 3 .h0 .h2] := v0 Tryz.func53 i53
theorem g54 : V0 54 x54 [.t .h0 .h2,.t .h0 .h3] := v0 Tryz.func54 i54
theorem g55 : V0 55 x55 [.t .h0 .h4] := v0 Tryz.func55 i55
theorem g70 : V0 70 x70 [.t .h0 .h4] := v0 Tryz.func70 i70
theorem g71 : V0 71 x71 [.t .h0 .h2] := v0 Tryz.func71 i71
theorem g72 : V0 72 x72 [] := v0 Tryz.func72 i72
theorem g68 : V0 68 x68 [.t .h0 .h4] := v0 Tryz.func68 i68
theorem g69 : V0 69 x69 [.t .h0 .h4] := v0 Tryz.func69 i69
theorem g92 : V0 92 x92 [.t .h0 .h4] := v0 Tryz.func92 i92
theorem g3 : V0 3 x3 [.t .h0 .h8] := v0 Tryz.func3 i3
theorem g8 : V0 8 x8 [.t .h0 .h4] := v0 Tryz.func8 i8
theorem g11 : V0 11 x11 [.t .h0 .h2] := v0 Tryz.func11 i11
theorem g12 : V0 12 x12 [.t .h0 .h6] := v0 Tryz.func12 i12
theorem g25 : V0 25 x25 [.t .h0 .h2] := v0 Tryz.func25 i25
end Go.Am.Seat
