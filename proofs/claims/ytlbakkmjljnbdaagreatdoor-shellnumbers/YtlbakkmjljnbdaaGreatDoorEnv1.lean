/- Each function of the table is what the program's function is translated into. Nothing is asked. -/
import Derived.Test.YtlbakkmjljnbdaaGreatDoorProg
import Derived.Test.YtlbakkmjljnbdaaGreatDoorEq0
import Derived.Test.YtlbakkmjljnbdaaGreatDoorP
set_option linter.all false
open Go.Proofs
namespace Go.Am.Seat
set_option maxRecDepth 100000
theorem g68 : FnOK Tryz.prog ⟨7, []⟩ nms 68 x68 z68 := ⟨Tryz.f68, b68, Tryz.func68, by kernel_rfl, i68⟩
theorem g74 : FnOK Tryz.prog ⟨7, []⟩ nms 74 x74 z74 := ⟨Tryz.f74, b74, Tryz.func74, by kernel_rfl, i74⟩
theorem g75 : FnOK Tryz.prog ⟨7, []⟩ nms 75 x75 z75 := ⟨Tryz.f75, b75, Tryz.func75, by kernel_rfl, i75⟩
theorem g94 : FnOK Tryz.prog ⟨7, []⟩ nms 94 x94 z94 := ⟨Tryz.f94, b94, Tryz.func94, by kernel_rfl, i94⟩
theorem g95 : FnOK Tryz.prog ⟨7, []⟩ nms 95 x95 z95 := ⟨Tryz.f95, b95, Tryz.func95, by kernel_rfl, i95⟩
theorem g96 : FnOK Tryz.prog ⟨7, []⟩ nms 96 x96 z96 := ⟨Tryz.f96, b96, Tryz.func96, by kernel_rfl, i96⟩
theorem g97 : FnOK Tryz.prog ⟨7, []⟩ nms 97 x97 z97 := ⟨Tryz.f97, b97, Tryz.func97, by kernel_rfl, i97⟩
theorem g98 : FnOK Tryz.prog ⟨7, []⟩ nms 98 x98 z98 := ⟨Tryz.f98, b98, Tryz.func98, by kernel_rfl, i98⟩
theorem g99 : FnOK Tryz.prog ⟨7, []⟩ nms 99 x99 z99 := ⟨Tryz.f99, b99, Tryz.func99, by kernel_rfl, i99⟩
theorem g100 : FnOK Tryz.prog ⟨7, []⟩ nms 100 x100 z100 := ⟨Tryz.f100, b100, Tryz.func100, by kernel_rfl, i100⟩
theorem g101 : FnOK Tryz.prog ⟨7, []⟩ nms 101 x101 z101 := ⟨Tryz.f101, b101, Tryz.func101, by kernel_rfl, i101⟩
theorem g125 : FnOK Tryz.prog ⟨7, []⟩ nms 125 x125 z125 := ⟨Tryz.f125, b125, Tryz.func125, by kernel_rfl, i125⟩
theorem g126 : FnOK Tryz.prog ⟨7, []⟩ nms 126 x126 z126 := ⟨Tryz.f126, b126, Tryz.func126, by kernel_rfl, i126⟩
theorem g127 : FnOK Tryz.prog ⟨7, []⟩ nms 127 x127 z127 := ⟨Tryz.f127, b127, Tryz.func127, by kernel_rfl, i127⟩
theorem g129 : FnOK Tryz.prog ⟨7, []⟩ nms 129 x129 z129 := ⟨Tryz.f129, b129, Tryz.func129, by kernel_rfl, i129⟩
theorem g130 : FnOK Tryz.prog ⟨7, []⟩ nms 130 x130 z130 := ⟨Tryz.f130, b130, Tryz.func130, by kernel_rfl, i130⟩
theorem g131 : FnOK Tryz.prog ⟨7, []⟩ nms 131 x131 z131 := ⟨Tryz.f131, b131, Tryz.func131, by kernel_rfl, i131⟩
theorem g132 : FnOK Tryz.prog ⟨7, []⟩ nms 132 x132 z132 := ⟨Tryz.f132, b132, Tryz.func132, by kernel_rfl, i132⟩
theorem g133 : FnOK Tryz.prog ⟨7, []⟩ nms 133 x133 z133 := ⟨Tryz.f133, b133, Tryz.func133, by kernel_rfl, i133⟩
theorem g134 : FnOK Tryz.prog ⟨7, []⟩ nms 134 x134 z134 := ⟨Tryz.f134, b134, Tryz.func134, by kernel_rfl, i134⟩
theorem g135 : FnOK Tryz.prog ⟨7, []⟩ nms 135 x135 z135 := ⟨Tryz.f135, b135, Tryz.func135, by kernel_rfl, i135⟩
theorem g136 : FnOK Tryz.prog ⟨7, []⟩ nms 136 x136 z136 := ⟨Tryz.f136, b136, Tryz.func136, by kernel_rfl, i136⟩
theorem g138 : FnOK Tryz.prog ⟨7, []⟩ nms 138 x138 z138 := ⟨Tryz.f138, b138, Tryz.func138, by kernel_rfl, i138⟩
theorem g139 : FnOK Tryz.prog ⟨7, []⟩ nms 139 x139 z139 := ⟨Tryz.f139, b139, Tryz.func139, by kernel_rfl, i139⟩
theorem g162 : FnOK Tryz.prog ⟨7, []⟩ nms 162 x162 z162 := ⟨Tryz.f162, b162, Tryz.func162, by kernel_rfl, i162⟩
theorem g166 : FnOK Tryz.prog ⟨7, []⟩ nms 166 x166 z166 := ⟨Tryz.f166, b166, Tryz.func166, by kernel_rfl, i166⟩
theorem g170 : FnOK Tryz.prog ⟨7, []⟩ nms 170 x170 z170 := ⟨Tryz.f170, b170, Tryz.func170, by kernel_rfl, i170⟩
theorem g171 : FnOK Tryz.prog ⟨7, []⟩ nms 171 x171 z171 := ⟨Tryz.f171, b171, Tryz.func171, by kernel_rfl, i171⟩
theorem g172 : FnOK Tryz.prog ⟨7, []⟩ nms 172 x172 z172 := ⟨Tryz.f172, b172, Tryz.func172, by kernel_rfl, i172⟩
theorem g176 : FnOK Tryz.prog ⟨7, []⟩ nms 176 x176 z176 := ⟨Tryz.f176, b176, Tryz.func176, by kernel_rfl, i176⟩
theorem g184 : FnOK Tryz.prog ⟨7, []⟩ nms 184 x184 z184 := ⟨Tryz.f184, b184, Tryz.func184, by kernel_rfl, i184⟩
theorem g185 : FnOK Tryz.prog ⟨7, []⟩ nms 185 x185 z185 := ⟨Tryz.f185, b185, Tryz.func185, by kernel_rfl, i185⟩
theorem g188 : FnOK Tryz.prog ⟨7, []⟩ nms 188 x188 z188 := ⟨Tryz.f188, b188, Tryz.func188, by kernel_rfl, i188⟩
theorem g190 : FnOK Tryz.prog ⟨7, []⟩ nms 190 x190 z190 := ⟨Tryz.f190, b190, Tryz.func190, by kernel_rfl, i190⟩
theorem g192 : FnOK Tryz.prog ⟨7, []⟩ nms 192 x192 z192 := ⟨Tryz.f192, b192, Tryz.func192, by kernel_rfl, i192⟩
theorem g193 : FnOK Tryz.prog ⟨7, []⟩ nms 193 x193 z193 := ⟨Tryz.f193, b193, Tryz.func193, by kernel_rfl, i193⟩
theorem g194 : FnOK Tryz.prog ⟨7, []⟩ nms 194 x194 z194 := ⟨Tryz.f194, b194, Tryz.func194, by kernel_rfl, i194⟩
theorem g197 : FnOK Tryz.prog ⟨7, []⟩ nms 197 x197 z197 := ⟨Tryz.f197, b197, Tryz.func197, by kernel_rfl, i197⟩
theorem g198 : FnOK Tryz.prog ⟨7, []⟩ nms 198 x198 z198 := ⟨Tryz.f198, b198, Tryz.func198, by kernel_rfl, i198⟩
theorem g243 : FnOK Tryz.prog ⟨7, []⟩ nms 243 x243 z243 := ⟨Tryz.f243, b243, Tryz.func243, by kernel_rfl, i243⟩
theorem g245 : FnOK Tryz.prog ⟨7, []⟩ nms 245 x245 z245 := ⟨Tryz.f245, b245, Tryz.func245, by kernel_rfl, i245⟩
theorem g249 : FnOK Tryz.prog ⟨7, []⟩ nms 249 x249 z249 := ⟨Tryz.f249, b249, Tryz.func249, by kernel_rfl, i249⟩
theorem g303 : FnOK Tryz.prog ⟨7, []⟩ nms 303 x303 z303 := ⟨Tryz.f303, b303, Tryz.func303, by kernel_rfl, i303⟩
theorem g646 : FnOK Tryz.prog ⟨7, []⟩ nms 646 x646 z646 := ⟨Tryz.f646, b646, Tryz.func646, by kernel_rfl, i646⟩
end Go.Am.Seat
