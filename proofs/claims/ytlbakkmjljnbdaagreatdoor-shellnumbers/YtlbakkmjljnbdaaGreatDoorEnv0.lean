/- Each function of the table is what the program's function is translated into. Nothing is asked. -/
import Derived.Test.YtlbakkmjljnbdaaGreatDoorProg
import Derived.Test.YtlbakkmjljnbdaaGreatDoorEq0
import Derived.Test.YtlbakkmjljnbdaaGreatDoorP
set_option linter.all false
open Go.Proofs
namespace Go.Am.Seat
set_option maxRecDepth 100000
theorem g3 : FnOK Tryz.prog ⟨7, []⟩ nms 3 x3 z3 := ⟨Tryz.f3, b3, Tryz.func3, by kernel_rfl, i3⟩
theorem g4 : FnOK Tryz.prog ⟨7, []⟩ nms 4 x4 z4 := ⟨Tryz.f4, b4, Tryz.func4, by kernel_rfl, i4⟩
theorem g5 : FnOK Tryz.prog ⟨7, []⟩ nms 5 x5 z5 := ⟨Tryz.f5, b5, Tryz.func5, by kernel_rfl, i5⟩
theorem g6 : FnOK Tryz.prog ⟨7, []⟩ nms 6 x6 z6 := ⟨Tryz.f6, b6, Tryz.func6, by kernel_rfl, i6⟩
theorem g7 : FnOK Tryz.prog ⟨7, []⟩ nms 7 x7 z7 := ⟨Tryz.f7, b7, Tryz.func7, by kernel_rfl, i7⟩
theorem g8 : FnOK Tryz.prog ⟨7, []⟩ nms 8 x8 z8 := ⟨Tryz.f8, b8, Tryz.func8, by kernel_rfl, i8⟩
theorem g9 : FnOK Tryz.prog ⟨7, []⟩ nms 9 x9 z9 := ⟨Tryz.f9, b9, Tryz.func9, by kernel_rfl, i9⟩
theorem g10 : FnOK Tryz.prog ⟨7, []⟩ nms 10 x10 z10 := ⟨Tryz.f10, b10, Tryz.func10, by kernel_rfl, i10⟩
theorem g11 : FnOK Tryz.prog ⟨7, []⟩ nms 11 x11 z11 := ⟨Tryz.f11, b11, Tryz.func11, by kernel_rfl, i11⟩
theorem g12 : FnOK Tryz.prog ⟨7, []⟩ nms 12 x12 z12 := ⟨Tryz.f12, b12, Tryz.func12, by kernel_rfl, i12⟩
theorem g13 : FnOK Tryz.prog ⟨7, []⟩ nms 13 x13 z13 := ⟨Tryz.f13, b13, Tryz.func13, by kernel_rfl, i13⟩
theorem g14 : FnOK Tryz.prog ⟨7, []⟩ nms 14 x14 z14 := ⟨Tryz.f14, b14, Tryz.func14, by kernel_rfl, i14⟩
theorem g15 : FnOK Tryz.prog ⟨7, []⟩ nms 15 x15 z15 := ⟨Tryz.f15, b15, Tryz.func15, by kernel_rfl, i15⟩
theorem g16 : FnOK Tryz.prog ⟨7, []⟩ nms 16 x16 z16 := ⟨Tryz.f16, b16, Tryz.func16, by kernel_rfl, i16⟩
theorem g17 : FnOK Tryz.prog ⟨7, []⟩ nms 17 x17 z17 := ⟨Tryz.f17, b17, Tryz.func17, by kernel_rfl, i17⟩
theorem g18 : FnOK Tryz.prog ⟨7, []⟩ nms 18 x18 z18 := ⟨Tryz.f18, b18, Tryz.func18, by kernel_rfl, i18⟩
theorem g19 : FnOK Tryz.prog ⟨7, []⟩ nms 19 x19 z19 := ⟨Tryz.f19, b19, Tryz.func19, by kernel_rfl, i19⟩
theorem g20 : FnOK Tryz.prog ⟨7, []⟩ nms 20 x20 z20 := ⟨Tryz.f20, b20, Tryz.func20, by kernel_rfl, i20⟩
theorem g21 : FnOK Tryz.prog ⟨7, []⟩ nms 21 x21 z21 := ⟨Tryz.f21, b21, Tryz.func21, by kernel_rfl, i21⟩
theorem g22 : FnOK Tryz.prog ⟨7, []⟩ nms 22 x22 z22 := ⟨Tryz.f22, b22, Tryz.func22, by kernel_rfl, i22⟩
theorem g23 : FnOK Tryz.prog ⟨7, []⟩ nms 23 x23 z23 := ⟨Tryz.f23, b23, Tryz.func23, by kernel_rfl, i23⟩
theorem g25 : FnOK Tryz.prog ⟨7, []⟩ nms 25 x25 z25 := ⟨Tryz.f25, b25, Tryz.func25, by kernel_rfl, i25⟩
theorem g27 : FnOK Tryz.prog ⟨7, []⟩ nms 27 x27 z27 := ⟨Tryz.f27, b27, Tryz.func27, by kernel_rfl, i27⟩
theorem g28 : FnOK Tryz.prog ⟨7, []⟩ nms 28 x28 z28 := ⟨Tryz.f28, b28, Tryz.func28, by kernel_rfl, i28⟩
theorem g29 : FnOK Tryz.prog ⟨7, []⟩ nms 29 x29 z29 := ⟨Tryz.f29, b29, Tryz.func29, by kernel_rfl, i29⟩
theorem g30 : FnOK Tryz.prog ⟨7, []⟩ nms 30 x30 z30 := ⟨Tryz.f30, b30, Tryz.func30, by kernel_rfl, i30⟩
theorem g31 : FnOK Tryz.prog ⟨7, []⟩ nms 31 x31 z31 := ⟨Tryz.f31, b31, Tryz.func31, by kernel_rfl, i31⟩
theorem g32 : FnOK Tryz.prog ⟨7, []⟩ nms 32 x32 z32 := ⟨Tryz.f32, b32, Tryz.func32, by kernel_rfl, i32⟩
theorem g33 : FnOK Tryz.prog ⟨7, []⟩ nms 33 x33 z33 := ⟨Tryz.f33, b33, Tryz.func33, by kernel_rfl, i33⟩
theorem g34 : FnOK Tryz.prog ⟨7, []⟩ nms 34 x34 z34 := ⟨Tryz.f34, b34, Tryz.func34, by kernel_rfl, i34⟩
theorem g35 : FnOK Tryz.prog ⟨7, []⟩ nms 35 x35 z35 := ⟨Tryz.f35, b35, Tryz.func35, by kernel_rfl, i35⟩
theorem g36 : FnOK Tryz.prog ⟨7, []⟩ nms 36 x36 z36 := ⟨Tryz.f36, b36, Tryz.func36, by kernel_rfl, i36⟩
theorem g37 : FnOK Tryz.prog ⟨7, []⟩ nms 37 x37 z37 := ⟨Tryz.f37, b37, Tryz.func37, by kernel_rfl, i37⟩
theorem g38 : FnOK Tryz.prog ⟨7, []⟩ nms 38 x38 z38 := ⟨Tryz.f38, b38, Tryz.func38, by kernel_rfl, i38⟩
theorem g39 : FnOK Tryz.prog ⟨7, []⟩ nms 39 x39 z39 := ⟨Tryz.f39, b39, Tryz.func39, by kernel_rfl, i39⟩
theorem g40 : FnOK Tryz.prog ⟨7, []⟩ nms 40 x40 z40 := ⟨Tryz.f40, b40, Tryz.func40, by kernel_rfl, i40⟩
theorem g45 : FnOK Tryz.prog ⟨7, []⟩ nms 45 x45 z45 := ⟨Tryz.f45, b45, Tryz.func45, by kernel_rfl, i45⟩
theorem g46 : FnOK Tryz.prog ⟨7, []⟩ nms 46 x46 z46 := ⟨Tryz.f46, b46, Tryz.func46, by kernel_rfl, i46⟩
theorem g58 : FnOK Tryz.prog ⟨7, []⟩ nms 58 x58 z58 := ⟨Tryz.f58, b58, Tryz.func58, by kernel_rfl, i58⟩
theorem g59 : FnOK Tryz.prog ⟨7, []⟩ nms 59 x59 z59 := ⟨Tryz.f59, b59, Tryz.func59, by kernel_rfl, i59⟩
theorem g60 : FnOK Tryz.prog ⟨7, []⟩ nms 60 x60 z60 := ⟨Tryz.f60, b60, Tryz.func60, by kernel_rfl, i60⟩
theorem g61 : FnOK Tryz.prog ⟨7, []⟩ nms 61 x61 z61 := ⟨Tryz.f61, b61, Tryz.func61, by kernel_rfl, i61⟩
theorem g62 : FnOK Tryz.prog ⟨7, []⟩ nms 62 x62 z62 := ⟨Tryz.f62, b62, Tryz.func62, by kernel_rfl, i62⟩
theorem g63 : FnOK Tryz.prog ⟨7, []⟩ nms 63 x63 z63 := ⟨Tryz.f63, b63, Tryz.func63, by kernel_rfl, i63⟩
theorem g64 : FnOK Tryz.prog ⟨7, []⟩ nms 64 x64 z64 := ⟨Tryz.f64, b64, Tryz.func64, by kernel_rfl, i64⟩
theorem g65 : FnOK Tryz.prog ⟨7, []⟩ nms 65 x65 z65 := ⟨Tryz.f65, b65, Tryz.func65, by kernel_rfl, i65⟩
theorem g66 : FnOK Tryz.prog ⟨7, []⟩ nms 66 x66 z66 := ⟨Tryz.f66, b66, Tryz.func66, by kernel_rfl, i66⟩
end Go.Am.Seat
