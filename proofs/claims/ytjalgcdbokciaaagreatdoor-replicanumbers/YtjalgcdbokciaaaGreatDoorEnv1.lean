/- Each function of the table is what the program's function is translated into. Nothing is asked. -/
import Derived.Test.YtjalgcdbokciaaaGreatDoorChecked
import Derived.Test.YtjalgcdbokciaaaGreatDoorEq0
import Derived.Test.YtjalgcdbokciaaaGreatDoorP
set_option linter.all false
open Go.Proofs
namespace Go.Am.Seat
set_option maxRecDepth 100000
theorem g50 : FnOK Tryz.prog 0 nms 50 x50 z50 := ⟨Tryz.f50, b50, Tryz.func50, by kernel_rfl, i50⟩
theorem g51 : FnOK Tryz.prog 0 nms 51 x51 z51 := ⟨Tryz.f51, b51, Tryz.func51, by kernel_rfl, i51⟩
theorem g52 : FnOK Tryz.prog 0 nms 52 x52 z52 := ⟨Tryz.f52, b52, Tryz.func52, by kernel_rfl, i52⟩
theorem g53 : FnOK Tryz.prog 0 nms 53 x53 z53 := ⟨Tryz.f53, b53, Tryz.func53, by kernel_rfl, i53⟩
theorem g54 : FnOK Tryz.prog 0 nms 54 x54 z54 := ⟨Tryz.f54, b54, Tryz.func54, by kernel_rfl, i54⟩
theorem g55 : FnOK Tryz.prog 0 nms 55 x55 z55 := ⟨Tryz.f55, b55, Tryz.func55, by kernel_rfl, i55⟩
theorem g56 : FnOK Tryz.prog 0 nms 56 x56 z56 := ⟨Tryz.f56, b56, Tryz.func56, by kernel_rfl, i56⟩
theorem g57 : FnOK Tryz.prog 0 nms 57 x57 z57 := ⟨Tryz.f57, b57, Tryz.func57, by kernel_rfl, i57⟩
theorem g58 : FnOK Tryz.prog 0 nms 58 x58 z58 := ⟨Tryz.f58, b58, Tryz.func58, by kernel_rfl, i58⟩
theorem g60 : FnOK Tryz.prog 0 nms 60 x60 z60 := ⟨Tryz.f60, b60, Tryz.func60, by kernel_rfl, i60⟩
theorem g61 : FnOK Tryz.prog 0 nms 61 x61 z61 := ⟨Tryz.f61, b61, Tryz.func61, by kernel_rfl, i61⟩
theorem g69 : FnOK Tryz.prog 0 nms 69 x69 z69 := ⟨Tryz.f69, b69, Tryz.func69, by kernel_rfl, i69⟩
theorem g70 : FnOK Tryz.prog 0 nms 70 x70 z70 := ⟨Tryz.f70, b70, Tryz.func70, by kernel_rfl, i70⟩
theorem g71 : FnOK Tryz.prog 0 nms 71 x71 z71 := ⟨Tryz.f71, b71, Tryz.func71, by kernel_rfl, i71⟩
theorem g72 : FnOK Tryz.prog 0 nms 72 x72 z72 := ⟨Tryz.f72, b72, Tryz.func72, by kernel_rfl, i72⟩
theorem g73 : FnOK Tryz.prog 0 nms 73 x73 z73 := ⟨Tryz.f73, b73, Tryz.func73, by kernel_rfl, i73⟩
theorem g75 : FnOK Tryz.prog 0 nms 75 x75 z75 := ⟨Tryz.f75, b75, Tryz.func75, by kernel_rfl, i75⟩
theorem g78 : FnOK Tryz.prog 0 nms 78 x78 z78 := ⟨Tryz.f78, b78, Tryz.func78, by kernel_rfl, i78⟩
theorem g80 : FnOK Tryz.prog 0 nms 80 x80 z80 := ⟨Tryz.f80, b80, Tryz.func80, by kernel_rfl, i80⟩
theorem g81 : FnOK Tryz.prog 0 nms 81 x81 z81 := ⟨Tryz.f81, b81, Tryz.func81, by kernel_rfl, i81⟩
theorem g82 : FnOK Tryz.prog 0 nms 82 x82 z82 := ⟨Tryz.f82, b82, Tryz.func82, by kernel_rfl, i82⟩
theorem g83 : FnOK Tryz.prog 0 nms 83 x83 z83 := ⟨Tryz.f83, b83, Tryz.func83, by kernel_rfl, i83⟩
theorem g86 : FnOK Tryz.prog 0 nms 86 x86 z86 := ⟨Tryz.f86, b86, Tryz.func86, by kernel_rfl, i86⟩
theorem g88 : FnOK Tryz.prog 0 nms 88 x88 z88 := ⟨Tryz.f88, b88, Tryz.func88, by kernel_rfl, i88⟩
theorem g89 : FnOK Tryz.prog 0 nms 89 x89 z89 := ⟨Tryz.f89, b89, Tryz.func89, by kernel_rfl, i89⟩
theorem g93 : FnOK Tryz.prog 0 nms 93 x93 z93 := ⟨Tryz.f93, b93, Tryz.func93, by kernel_rfl, i93⟩
theorem g107 : FnOK Tryz.prog 0 nms 107 x107 z107 := ⟨Tryz.f107, b107, Tryz.func107, by kernel_rfl, i107⟩
theorem g109 : FnOK Tryz.prog 0 nms 109 x109 z109 := ⟨Tryz.f109, b109, Tryz.func109, by kernel_rfl, i109⟩
theorem g110 : FnOK Tryz.prog 0 nms 110 x110 z110 := ⟨Tryz.f110, b110, Tryz.func110, by kernel_rfl, i110⟩
theorem g111 : FnOK Tryz.prog 0 nms 111 x111 z111 := ⟨Tryz.f111, b111, Tryz.func111, by kernel_rfl, i111⟩
theorem g112 : FnOK Tryz.prog 0 nms 112 x112 z112 := ⟨Tryz.f112, b112, Tryz.func112, by kernel_rfl, i112⟩
theorem g126 : FnOK Tryz.prog 0 nms 126 x126 z126 := ⟨Tryz.f126, b126, Tryz.func126, by kernel_rfl, i126⟩
theorem g127 : FnOK Tryz.prog 0 nms 127 x127 z127 := ⟨Tryz.f127, b127, Tryz.func127, by kernel_rfl, i127⟩
theorem g128 : FnOK Tryz.prog 0 nms 128 x128 z128 := ⟨Tryz.f128, b128, Tryz.func128, by kernel_rfl, i128⟩
theorem g129 : FnOK Tryz.prog 0 nms 129 x129 z129 := ⟨Tryz.f129, b129, Tryz.func129, by kernel_rfl, i129⟩
theorem g133 : FnOK Tryz.prog 0 nms 133 x133 z133 := ⟨Tryz.f133, b133, Tryz.func133, by kernel_rfl, i133⟩
theorem g137 : FnOK Tryz.prog 0 nms 137 x137 z137 := ⟨Tryz.f137, b137, Tryz.func137, by kernel_rfl, i137⟩
theorem g159 : FnOK Tryz.prog 0 nms 159 x159 z159 := ⟨Tryz.f159, b159, Tryz.func159, by kernel_rfl, i159⟩
theorem g162 : FnOK Tryz.prog 0 nms 162 x162 z162 := ⟨Tryz.f162, b162, Tryz.func162, by kernel_rfl, i162⟩
theorem g198 : FnOK Tryz.prog 0 nms 198 x198 z198 := ⟨Tryz.f198, b198, Tryz.func198, by kernel_rfl, i198⟩
theorem g199 : FnOK Tryz.prog 0 nms 199 x199 z199 := ⟨Tryz.f199, b199, Tryz.func199, by kernel_rfl, i199⟩
theorem g200 : FnOK Tryz.prog 0 nms 200 x200 z200 := ⟨Tryz.f200, b200, Tryz.func200, by kernel_rfl, i200⟩
theorem g201 : FnOK Tryz.prog 0 nms 201 x201 z201 := ⟨Tryz.f201, b201, Tryz.func201, by kernel_rfl, i201⟩
theorem g210 : FnOK Tryz.prog 0 nms 210 x210 z210 := ⟨Tryz.f210, b210, Tryz.func210, by kernel_rfl, i210⟩
end Go.Am.Seat
