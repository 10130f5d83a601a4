/- Each function of the table is what the program's function is translated into. Nothing is asked. -/
import Derived.Test.YtfancojpkcapeaaGreatEnv0
import Derived.Test.YtfancojpkcapeaaGreatEnv1
set_option linter.all false
open Go.Proofs
namespace Go.Am.Seat
set_option maxRecDepth 100000
section
theorem mixed : Tryz.prog.follows .mixedOrders = true := by kernel_rfl
theorem q173 : kc Tryz.prog ⟨0, [], none⟩ p173 173 := Crc.BR (names := mX) mixed Tryz.func173 (by kernel_rfl)
noncomputable def w191 : zo Tryz.prog ⟨0, [], none⟩ mX 191 186 p191_0 p191_1 p191_2 p191_3 p191_4 p191_5 p191_6 p191_7 p191_8 := { fn := Tryz.f191, gn := Tryz.f186, i0 := _, i1 := _, i2 := _, i3 := _, i4 := _, j0 := _, j1 := _, j2 := _, j3 := _, o0 := _, o1 := _, oa := _, ob := _, o4 := _, p0 := _, p1 := _, p2 := _, p3 := _, om := _, q3 := [_], oc := _, on := _, cl := _, ty := _, hf := Tryz.func191, fb := rfl, TP := rfl, fr := by kernel_rfl, hg := Tryz.func186, NF := by decide, gb := rfl, TQ := rfl, gr := by kernel_rfl, e0 := rfl, e1 := rfl, ea := rfl, eb := rfl, e4 := rfl, a0 := rfl, a1 := rfl, a2 := rfl, a3 := rfl, s3 := rfl, mo := ⟨rfl, rfl, rfl⟩, co := ⟨rfl, rfl, rfl, rfl, rfl⟩, no := ⟨rfl, rfl, rfl⟩, b0 := by decide, b3 := by decide }
theorem q191 : kc Tryz.prog ⟨0, [], none⟩ p191 191 := LZ w191
theorem jD {C : H → Prop} (a0 : C .h0) (a1 : C .h1) (a2 : C .h2) (a3 : C .h3) (a4 : C .h4) (a5 : C .h5) (a6 : C .h6) (a7 : C .h7) (a8 : C .h8) (a9 : C .h9) (aa : C .ha) (ab : C .hb) (ac : C .hc) (ad : C .hd) (ae : C .he) (af : C .hf) : ∀ c, C c := fun c => by cases c <;> assumption
theorem no : True := trivial
theorem rn {b : Nat} : Row Tryz.prog ⟨0, [], none⟩ mX b .nil := Dx b
theorem pn {a : Nat} : yG Tryz.prog ⟨0, [], none⟩ mX a .nil := IB a
theorem R0 : Row Tryz.prog ⟨0, [], none⟩ mX 0 PI := jD no no no g3 g4 g5 g6 g7 g8 g9 g10 g11 g12 g13 g14 g15
theorem R1 : Row Tryz.prog ⟨0, [], none⟩ mX 1 RP := jD g16 g17 g18 g19 g20 g21 g22 no g24 g25 g26 g27 g28 g29 g30 g31
theorem R2 : Row Tryz.prog ⟨0, [], none⟩ mX 2 RQ := jD g32 g33 g34 g35 g36 g37 g38 g39 g40 g41 g42 g43 g44 g45 g46 g47
theorem R3 : Row Tryz.prog ⟨0, [], none⟩ mX 3 RR := jD g48 g49 g50 g51 g52 g53 g54 g55 g56 g57 g58 g59 g60 g61 g62 g63
theorem R4 : Row Tryz.prog ⟨0, [], none⟩ mX 4 RU := jD g64 g65 no no g68 g69 g70 g71 no g73 no g75 g76 g77 g78 g79
theorem R5 : Row Tryz.prog ⟨0, [], none⟩ mX 5 RW := jD g80 g81 no g83 no g85 g86 no no g89 g90 g91 g92 g93 g94 g95
theorem R6 : Row Tryz.prog ⟨0, [], none⟩ mX 6 RX := jD no g97 g98 g99 g100 g101 g102 g103 g104 g105 g106 no g108 g109 g110 g111
theorem R7 : Row Tryz.prog ⟨0, [], none⟩ mX 7 RY := jD g112 g113 g114 g115 g116 g117 g118 g119 g120 g121 no no g124 g125 g126 g127
theorem R8 : Row Tryz.prog ⟨0, [], none⟩ mX 8 RZ := jD g128 no no g131 g132 g133 g134 g135 no g137 g138 g139 g140 no no no
theorem R9 : Row Tryz.prog ⟨0, [], none⟩ mX 9 Sa := jD g144 g145 no g147 g148 g149 no g151 g152 g153 g154 g155 g156 g157 g158 g159
theorem R10 : Row Tryz.prog ⟨0, [], none⟩ mX 10 NG := jD g160 g161 g162 g163 g164 g165 g166 no g168 no no no no ⟨g173, q173⟩ g174 g175
theorem R11 : Row Tryz.prog ⟨0, [], none⟩ mX 11 NH := jD no no no g179 g180 g181 g182 g183 g184 g185 no no no g189 g190 ⟨g191, q191⟩
theorem R12 : Row Tryz.prog ⟨0, [], none⟩ mX 12 NI := jD g192 no no no no no no no no no g202 g203 no no no no
theorem R14 : Row Tryz.prog ⟨0, [], none⟩ mX 14 NJ := jD no no no no no no no no no no no no no no g238 g239
theorem R15 : Row Tryz.prog ⟨0, [], none⟩ mX 15 NL := jD no g241 no no no no no no no no no no no no no no
theorem IC : yG Tryz.prog ⟨0, [], none⟩ mX 0 ID := jD R0 R1 R2 R3 R4 R5 R6 R7 R8 R9 R10 R11 R12 rn R14 R15
theorem Fe : ∀ a : H, yG Tryz.prog ⟨0, [], none⟩ mX a.nat (F3.get a pg.fs) := jD IC pn pn pn pn pn pn pn pn pn pn pn pn pn pn pn
theorem GC : pc Tryz.prog mX pg.ms := IE (by kernel_rfl)
theorem env : Env Tryz.prog ⟨0, [], none⟩ mX pg := GB mixed GC Fe rfl
end
end Go.Am.Seat
