/- Each function of the table is what the program's function is translated into. Nothing is asked. -/
import Derived.Test.YtkagkfknfennmaaGreatDoorProg
import Derived.Test.YtkagkfknfennmaaGreatDoorEq0
import Derived.Test.YtkagkfknfennmaaGreatDoorG
set_option linter.all false
open Go.Proofs
namespace Go.Am.Seat
set_option maxRecDepth 100000
abbrev V0 (f : Nat) (x : AC) (z : List Rs) : Prop := pE Tryz.prog ⟨7, [], none⟩ lG f x z
theorem v0 {f : Nat} {x b : AC} {z : List Rs} {F : Func} (h : Tryz.prog.funcs[f]? = some F) (i : Impl b x) (e : cF Tryz.prog ⟨7, [], none⟩ lG F = .mk b z := by kernel_rfl) : V0 f x z := ⟨F, b, h, e, i⟩
theorem g3 : V0 3 x3 [.t .h0 .h2] := v0 Tryz.func3 i3
theorem g4 : V0 4 x4 [.agg 12 .h0 .h2] := v0 Tryz.func4 i4
theorem g5 : V0 5 x5 [.t .h0 .h2] := v0 Tryz.func5 i5
theorem g6 : V0 6 x6 [.t .h0 .h2,.t .h0 .h3] := v0 Tryz.func6 i6
theorem g8 : V0 8 x8 [.t .h0 .h2] := v0 Tryz.func8 i8
theorem g9 : V0 9 x9 [.agg 7 .h0 .h2] := v0 Tryz.func9 i9
theorem g10 : V0 10 x10 [.t .h0 .h2] := v0 Tryz.func10 i10
theorem g11 : V0 11 x11 [.t .h0 .h2] := v0 Tryz.func11 i11
theorem g12 : V0 12 x12 [.t .h0 .h0] := v0 Tryz.func12 i12
theorem g13 : V0 13 x13 [] := v0 Tryz.func13 i13
theorem g14 : V0 14 x14 [.t .h0 .h2] := v0 Tryz.func14 i14
theorem g15 : V0 15 x15 [] := v0 Tryz.func15 i15
theorem g16 : V0 16 x16 [] := v0 Tryz.func16 i16
theorem g17 : V0 17 x17 [.t .h0 .h2] := v0 Tryz.func17 i17
theorem g18 : V0 18 x18 [.t .h0 .h2] := v0 Tryz.func18 i18
theorem g21 : V0 21 x21 [.t .h0 .h4] := v0 Tryz.func21 i21
theorem g22 : V0 22 x22 [.t .h0 .h4] := v0 Tryz.func22 i22
theorem g23 : V0 23 x23 [.t .h0 .h4] := v0 Tryz.func23 i23
theorem g24 : V0 24 x24 [.t .h0 .h2] := v0 Tryz.func24 i24
theorem g25 : V0 25 x25 [.t .h0 .h4] := v0 Tryz.func25 i25
theorem g26 : V0 26 x26 [.t .h0 .h2] := v0 Tryz.func26 i26
theorem g27 : V0 27 x27 [] := v0 Tryz.func27 i27
theorem g28 : V0 28 x28 [] := v0 Tryz.func28 i28
theorem g29 : V0 29 x29 [.t .h0 .h2] := v0 Tryz.func29 i29
theorem g37 : V0 37 x37 [.t .h0 .h4] := v0 Tryz.func37 i37
theorem g38 : V0 38 x38 [.t .h0 .h2] := v0 Tryz.func38 i38
theorem g39 : V0 39 x39 [.t .h0 .h2] := v0 Tryz.func39 i39
theorem g40 : V0 40 x40 [.t .h0 .h2] := v0 Tryz.func40 i40
theorem g20 : V0 20 x20 [.t .h0 .h2] := v0 Tryz.func20 i20
theorem g33 : V0 33 x33 [.t .h0 .h4,.t .h0 .h5] := v0 Tryz.func33 i33
theorem g34 : V0 34 x34 [.t .h0 .h2] := v0 Tryz.func34 i34
theorem g35 : V0 35 x35 [] := v0 Tryz.func35 i35
theorem g36 : V0 36 x36 [.t .h0 .h2] := v0 Tryz.func36 i36
theorem g54 : V0 54 x54 [] := v0 Tryz.func54 i54
theorem g55 : V0 55 x55 [.t .h0 .h2] := v0 Tryz.func55 i55
theorem g80 : V0 80 x80 [.t .h0 .h4] := v0 Tryz.func80 i80
theorem g111 : V0 111 x111 [.t .h0 .h2] := v0 Tryz.func111 i111
end Go.Am.Seat
