/- Each function of the table is what the program's function is translated into. Nothing is asked. -/
import Derived.Test.YtfancojpkcapeaaGreatProg
import Derived.Test.YtfancojpkcapeaaGreatEq0
import Derived.Test.YtfancojpkcapeaaGreatG
set_option linter.all false
open Go.Proofs
namespace Go.Am.Seat
set_option maxRecDepth 100000
abbrev V1 (f : Nat) (x : AC) (z : List Rs) : Prop := qv Tryz.prog ⟨0, [], none⟩ mX f x z
theorem v1 {f : Nat} {x b : AC} {z : List Rs} {F : Func} (h : Tryz.prog.funcs[f]? = some F) (i : Impl b x) (e : cF Tryz.prog ⟨0, [], none⟩ mX F = .mk b z := by kernel_rfl) : V1 f x z := ⟨F, b, h, e, i⟩
theorem g145 : V1 145 x145 [] := v1 Tryz.func145 i145
theorem g179 : V1 179 x179 [] := v1 Tryz.func179 i179
theorem g134 : V1 134 x134 [.t .h0 .h4] := v1 Tryz.func134 i134
theorem g174 : V1 174 x174 [.t .h0 .h2] := v1 Tryz.func174 i174
theorem g11 : V1 11 x11 [.t .h0 .h0] := v1 Tryz.func11 i11
theorem g13 : V1 13 x13 [] := v1 Tryz.func13 i13
theorem g26 : V1 26 x26 [.t .h0 .h4] := v1 Tryz.func26 i26
theorem g27 : V1 27 x27 [.t .h0 .h2] := v1 Tryz.func27 i27
theorem g30 : V1 30 x30 [] := v1 Tryz.func30 i30
theorem g41 : V1 41 x41 [.t .h0 .h2] := v1 Tryz.func41 i41
theorem g52 : V1 52 x52 [] := v1 Tryz.func52 i52
theorem g53 : V1 53 x53 [] := v1 Tryz.func53 i53
theorem g56 : V1 56 x56 [] := v1 Tryz.func56 i56
theorem g57 : V1 57 x57 [] := v1 Tryz.func57 i57
theorem g58 : V1 58 x58 [] := v1 Tryz.func58 i58
theorem g59 : V1 59 x59 [] := v1 Tryz.func59 i59
theorem g60 : V1 60 x60 [] := v1 Tryz.func60 i60
theorem g62 : V1 62 x62 [] := v1 Tryz.func62 i62
theorem g63 : V1 63 x63 [.t .h0 .h2] := v1 Tryz.func63 i63
theorem g64 : V1 64 x64 [] := v1 Tryz.func64 i64
theorem g80 : V1 80 x80 [.t .h0 .h4] := v1 Tryz.func80 i80
theorem g81 : V1 81 x81 [.t .h0 .h2] := v1 Tryz.func81 i81
theorem g83 : V1 83 x83 [.t .h0 .h6] := v1 Tryz.func83 i83
theorem g91 : V1 91 x91 [] := v1 Tryz.func91 i91
theorem g95 : V1 95 x95 [.t .h0 .h4] := v1 Tryz.func95 i95
theorem g99 : V1 99 x99 [] := v1 Tryz.func99 i99
theorem g100 : V1 100 x100 [] := v1 Tryz.func100 i100
theorem g101 : V1 101 x101 [.t .h0 .h2] := v1 Tryz.func101 i101
theorem g102 : V1 102 x102 [.agg 2 .h0 .h4] := v1 Tryz.func102 i102
theorem g103 : V1 103 x103 [] := v1 Tryz.func103 i103
theorem g104 : V1 104 x104 [] := v1 Tryz.func104 i104
theorem g106 : V1 106 x106 [.t .h0 .h6,.t .h0 .h7] := v1 Tryz.func106 i106
theorem g109 : V1 109 x109 [] := v1 Tryz.func109 i109
theorem g110 : V1 110 x110 [] := v1 Tryz.func110 i110
theorem g112 : V1 112 x112 [.agg 2 .h0 .h2] := v1 Tryz.func112 i112
theorem g113 : V1 113 x113 [] := v1 Tryz.func113 i113
theorem g114 : V1 114 x114 [.t .h0 .h8] := v1 Tryz.func114 i114
theorem g115 : V1 115 x115 [] := v1 Tryz.func115 i115
theorem g116 : V1 116 x116 [.t .h0 .h8] := v1 Tryz.func116 i116
theorem g117 : V1 117 x117 [.t .h0 .h6,.t .h0 .h7] := v1 Tryz.func117 i117
theorem g118 : V1 118 x118 [] := v1 Tryz.func118 i118
theorem g120 : V1 120 x120 [.t .h0 .h8] := v1 Tryz.func120 i120
theorem g121 : V1 121 x121 [] := v1 Tryz.func121 i121
theorem g124 : V1 124 x124 [.agg 6 .h0 .h4,.t .h0 .h5] := v1 Tryz.func124 i124
theorem g125 : V1 125 x125 [.agg 3 .h0 .h2] := v1 Tryz.func125 i125
theorem g127 : V1 127 x127 [.t .h0 .h2] := v1 Tryz.func127 i127
theorem g128 : V1 128 x128 [] := v1 Tryz.func128 i128
theorem g133 : V1 133 x133 [.agg 4 .h0 .h4,.t .h0 .h5] := v1 Tryz.func133 i133
theorem g135 : V1 135 x135 [.t .h0 .h6] := v1 Tryz.func135 i135
theorem g144 : V1 144 x144 [] := v1 Tryz.func144 i144
theorem g147 : V1 147 x147 [.agg 3 .h0 .h2,.t .h0 .h3,.t .h0 .h4] := v1 Tryz.func147 i147
theorem g149 : V1 149 x149 [] := v1 Tryz.func149 i149
theorem g151 : V1 151 x151 [.t .h0 .h4] := v1 Tryz.func151 i151
theorem g152 : V1 152 x152 [] := v1 Tryz.func152 i152
theorem g153 : V1 153 x153 [.t .h0 .h8] := v1 Tryz.func153 i153
theorem g154 : V1 154 x154 [.t .h0 .h4] := v1 Tryz.func154 i154
theorem g155 : V1 155 x155 [.t .h0 .h2] := v1 Tryz.func155 i155
theorem g156 : V1 156 x156 [] := v1 Tryz.func156 i156
theorem g158 : V1 158 x158 [.t .h0 .h4] := v1 Tryz.func158 i158
theorem g159 : V1 159 x159 [] := v1 Tryz.func159 i159
theorem g160 : V1 160 x160 [.t .h0 .h4] := v1 Tryz.func160 i160
theorem g161 : V1 161 x161 [.t .h0 .h3] := v1 Tryz.func161 i161
theorem g162 : V1 162 x162 [.t .h0 .h6] := v1 Tryz.func162 i162
theorem g163 : V1 163 x163 [.t .h0 .h2] := v1 Tryz.func163 i163
theorem g164 : V1 164 x164 [.t .h0 .h4] := v1 Tryz.func164 i164
theorem g165 : V1 165 x165 [.t .h0 .h2] := v1 Tryz.func165 i165
theorem g166 : V1 166 x166 [.t .h0 .h2] := v1 Tryz.func166 i166
theorem g168 : V1 168 x168 [] := v1 Tryz.func168 i168
theorem g173 : V1 173 x173 [.t .h0 .h2] := v1 Tryz.func173 i173
theorem g180 : V1 180 x180 [.t .h0 .h2] := v1 Tryz.func180 i180
theorem g183 : V1 183 x183 [.t .h0 .h4] := v1 Tryz.func183 i183
theorem g184 : V1 184 x184 [.t .h0 .h2] := v1 Tryz.func184 i184
theorem g185 : V1 185 x185 [] := v1 Tryz.func185 i185
theorem g189 : V1 189 x189 [.t .h0 .h2] := v1 Tryz.func189 i189
theorem g190 : V1 190 x190 [.t .h0 .h2] := v1 Tryz.func190 i190
theorem g191 : V1 191 x191 [.t .h0 .h4] := v1 Tryz.func191 i191
theorem g192 : V1 192 x192 [] := v1 Tryz.func192 i192
theorem g202 : V1 202 x202 [.t .h0 .h2] := v1 Tryz.func202 i202
theorem g203 : V1 203 x203 [] := v1 Tryz.func203 i203
theorem g238 : V1 238 x238 [] := v1 Tryz.func238 i238
theorem g239 : V1 239 x239 [] := v1 Tryz.func239 i239
end Go.Am.Seat
