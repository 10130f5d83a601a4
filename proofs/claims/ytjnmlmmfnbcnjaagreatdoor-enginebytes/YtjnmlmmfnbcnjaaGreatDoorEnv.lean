/- Each function of the table is what the program's function is translated into. Nothing is asked. -/
import Derived.Test.YtjnmlmmfnbcnjaaGreatDoorEnv0
import Derived.Test.YtjnmlmmfnbcnjaaGreatDoorEnv1
set_option linter.all false
open Go.Proofs
namespace Go.Am.Seat
set_option maxRecDepth 100000
section
theorem mixed : Tryz.prog.follows .mixedOrders = true := by kernel_rfl
noncomputable def w368 : AX Tryz.prog ⟨7, [], none⟩ jH 368 347 p368_0 p368_1 p368_2 p368_3 p368_4 p368_5 p368_6 p368_7 p368_8 := { fn := Tryz.f368, gn := Tryz.f347, i0 := _, i1 := _, i2 := _, i3 := _, i4 := _, j0 := _, j1 := _, j2 := _, j3 := _, o0 := _, o1 := _, oa := _, ob := _, o4 := _, p0 := _, p1 := _, p2 := _, p3 := _, om := _, q3 := [_], oc := _, on := _, cl := _, ty := _, hf := Tryz.func368, fb := rfl, Vm := rfl, fr := by kernel_rfl, hg := Tryz.func347, PQ := by decide, gb := rfl, Vn := rfl, gr := by kernel_rfl, e0 := rfl, e1 := rfl, ea := rfl, eb := rfl, e4 := rfl, a0 := rfl, a1 := rfl, a2 := rfl, a3 := rfl, s3 := rfl, mo := ⟨rfl, rfl, rfl⟩, co := ⟨rfl, rfl, rfl, rfl, rfl⟩, no := ⟨rfl, rfl, rfl⟩, b0 := by decide, b3 := by decide }
theorem q368 : qH Tryz.prog ⟨7, [], none⟩ p368 368 := NL w368
theorem q305 : lH Tryz.prog ⟨7, [], none⟩ (.fn rp) 305 := vn Tryz.func305 (by kernel_rfl) (by kernel_rfl) (by kernel_rfl) (by kernel_rfl)
theorem q353 : lH Tryz.prog ⟨7, [], none⟩ .Jg 353 := KI Tryz.func353 (by kernel_rfl) (by kernel_rfl) (by kernel_rfl) (by kernel_rfl)
theorem q354 : lH Tryz.prog ⟨7, [], none⟩ (.Nc 5) 354 := NM (ps := Tryz.f354.params) (t := Tryz.f354.resultTypes[0]!) Tryz.func354 (by kernel_rfl) (by kernel_rfl) (by kernel_rfl) (by kernel_rfl) (by kernel_rfl)
theorem q362 : lH Tryz.prog ⟨7, [], none⟩ .DW 362 := KL Tryz.func362 (by kernel_rfl) (by kernel_rfl) (by kernel_rfl) (by kernel_rfl)
theorem q388 : lH Tryz.prog ⟨7, [], none⟩ (.fn yF) 388 := KN Tryz.func388 (by kernel_rfl) (by kernel_rfl) (by kernel_rfl) (by kernel_rfl)
theorem eW {C : H → Prop} (a0 : C .h0) (a1 : C .h1) (a2 : C .h2) (a3 : C .h3) (a4 : C .h4) (a5 : C .h5) (a6 : C .h6) (a7 : C .h7) (a8 : C .h8) (a9 : C .h9) (aa : C .ha) (ab : C .hb) (ac : C .hc) (ad : C .hd) (ae : C .he) (af : C .hf) : ∀ c, C c := fun c => by cases c <;> assumption
theorem no : True := trivial
theorem rn {b : Nat} : Row Tryz.prog ⟨7, [], none⟩ jH b .nil := Em b
theorem pn {a : Nat} : yD Tryz.prog ⟨7, [], none⟩ jH a .nil := JZ a
theorem R0 : Row Tryz.prog ⟨7, [], none⟩ jH 0 Rl := eW no no no g3 g4 g5 g6 g7 g8 g9 g10 g11 g12 g13 g14 g15
theorem R1 : Row Tryz.prog ⟨7, [], none⟩ jH 1 Tm := eW g16 g17 g18 g19 g20 g21 g22 g23 g24 g25 g26 g27 g28 g29 g30 g31
theorem R2 : Row Tryz.prog ⟨7, [], none⟩ jH 2 Tn := eW g32 g33 g34 g35 g36 g37 g38 g39 g40 g41 g42 g43 g44 g45 g46 g47
theorem R3 : Row Tryz.prog ⟨7, [], none⟩ jH 3 Tp := eW g48 g49 g50 g51 g52 g53 g54 g55 g56 g57 g58 g59 g60 g61 g62 g63
theorem R4 : Row Tryz.prog ⟨7, [], none⟩ jH 4 Tq := eW no no no g67 no g69 g70 g71 g72 g73 g74 no no g77 no g79
theorem R5 : Row Tryz.prog ⟨7, [], none⟩ jH 5 Tr := eW g80 no no g83 g84 g85 g86 no g88 g89 g90 g91 g92 g93 g94 g95
theorem R6 : Row Tryz.prog ⟨7, [], none⟩ jH 6 Ts := eW g96 g97 g98 g99 g100 g101 no no g104 g105 g106 g107 g108 g109 g110 g111
theorem R7 : Row Tryz.prog ⟨7, [], none⟩ jH 7 Tt := eW no g113 g114 g115 no g117 g118 g119 g120 g121 g122 g123 g124 g125 g126 g127
theorem R8 : Row Tryz.prog ⟨7, [], none⟩ jH 8 Tu := eW g128 g129 g130 g131 g132 g133 g134 g135 no no no no no no no no
theorem R9 : Row Tryz.prog ⟨7, [], none⟩ jH 9 Tv := eW g144 no g146 g147 g148 g149 no g151 g152 g153 g154 g155 g156 g157 g158 no
theorem R10 : Row Tryz.prog ⟨7, [], none⟩ jH 10 Pm := eW g160 g161 no g163 g164 g165 g166 g167 g168 no g170 g171 g172 no no no
theorem R11 : Row Tryz.prog ⟨7, [], none⟩ jH 11 Pn := eW no g177 no g179 no no no no no no g186 g187 g188 g189 g190 no
theorem R12 : Row Tryz.prog ⟨7, [], none⟩ jH 12 Po := eW g192 g193 g194 no no no g198 g199 no g201 g202 no g204 no no no
theorem R13 : Row Tryz.prog ⟨7, [], none⟩ jH 13 Pp := eW no g209 g210 no g212 g213 g214 g215 no no no no no no no g223
theorem R14 : Row Tryz.prog ⟨7, [], none⟩ jH 14 Pq := eW no g225 g226 g227 g228 g229 g230 g231 g232 g233 g234 no no no no no
theorem R15 : Row Tryz.prog ⟨7, [], none⟩ jH 15 Pr := eW g240 no no g243 g244 g245 g246 g247 g248 g249 g250 g251 g252 g253 no no
theorem R16 : Row Tryz.prog ⟨7, [], none⟩ jH 16 Ps := eW no no no no no no g262 g263 no g265 no g267 no no g270 g271
theorem R17 : Row Tryz.prog ⟨7, [], none⟩ jH 17 Pt := eW no g273 g274 no g276 g277 g278 no no no g282 g283 no no no no
theorem R18 : Row Tryz.prog ⟨7, [], none⟩ jH 18 Pu := eW g288 g289 g290 g291 g292 no no no g296 g297 g298 g299 g300 g301 g302 g303
theorem R19 : Row Tryz.prog ⟨7, [], none⟩ jH 19 Pv := eW g304 q305 no g307 no no no g311 g312 g313 g314 g315 g316 no no g319
theorem R20 : Row Tryz.prog ⟨7, [], none⟩ jH 20 Pw := eW g320 g321 no g323 g324 no no no no no no no no no g334 g335
theorem R21 : Row Tryz.prog ⟨7, [], none⟩ jH 21 Px := eW no g337 g338 g339 no g341 no no g344 g345 g346 no g348 no no no
theorem R22 : Row Tryz.prog ⟨7, [], none⟩ jH 22 Py := eW g352 q353 q354 no no no no no no g361 q362 no no no no no
theorem R23 : Row Tryz.prog ⟨7, [], none⟩ jH 23 Pz := eW ⟨g368, q368⟩ g369 g370 no no no no no no no no no no no no no
theorem R24 : Row Tryz.prog ⟨7, [], none⟩ jH 24 PA := eW no no g386 no q388 no no no no no no no no no no no
theorem KX : yD Tryz.prog ⟨7, [], none⟩ jH 0 Jm := eW R0 R1 R2 R3 R4 R5 R6 R7 R8 R9 R10 R11 R12 R13 R14 R15
theorem AH : yD Tryz.prog ⟨7, [], none⟩ jH 1 PB := eW R16 R17 R18 R19 R20 R21 R22 R23 R24 rn rn rn rn rn rn rn
theorem Gz : ∀ a : H, yD Tryz.prog ⟨7, [], none⟩ jH a.nat (F3.get a pg.fs) := eW KX AH pn pn pn pn pn pn pn pn pn pn pn pn pn pn
theorem JV : py Tryz.prog jH pg.ms := Kb (by kernel_rfl)
theorem env : Env Tryz.prog ⟨7, [], none⟩ jH pg := JU mixed JV Gz rfl
end
end Go.Am.Seat
