/- Each function of the table is what the program's function is translated into. Nothing is asked. -/
import Derived.Test.YtkagkfknfennmaaGreatDoorEnv0
import Derived.Test.YtkagkfknfennmaaGreatDoorEnv1
set_option linter.all false
open Go.Proofs
namespace Go.Am.Seat
set_option maxRecDepth 100000
section
theorem mixed : Tryz.prog.follows .mixedOrders = true := by kernel_rfl
theorem q79 : zF Tryz.prog ⟨7, [], none⟩ .Cu 79 := Ep Tryz.func79 (by kernel_rfl) (by kernel_rfl) (by kernel_rfl) (by kernel_rfl)
theorem iq {C : H → Prop} (a0 : C .h0) (a1 : C .h1) (a2 : C .h2) (a3 : C .h3) (a4 : C .h4) (a5 : C .h5) (a6 : C .h6) (a7 : C .h7) (a8 : C .h8) (a9 : C .h9) (aa : C .ha) (ab : C .hb) (ac : C .hc) (ad : C .hd) (ae : C .he) (af : C .hf) : ∀ c, C c := fun c => by cases c <;> assumption
theorem no : True := trivial
theorem rn {b : Nat} : Row Tryz.prog ⟨7, [], none⟩ lG b .nil := zG b
theorem pn {a : Nat} : sA Tryz.prog ⟨7, [], none⟩ lG a .nil := DM a
theorem R0 : Row Tryz.prog ⟨7, [], none⟩ lG 0 Kx := iq no no no g3 g4 g5 g6 g7 g8 g9 g10 g11 g12 g13 g14 g15
theorem R1 : Row Tryz.prog ⟨7, [], none⟩ lG 1 MG := iq g16 g17 g18 g19 g20 g21 g22 g23 g24 g25 g26 g27 g28 g29 g30 no
theorem R2 : Row Tryz.prog ⟨7, [], none⟩ lG 2 MH := iq g32 g33 g34 g35 g36 g37 g38 g39 g40 g41 g42 no no no no no
theorem R3 : Row Tryz.prog ⟨7, [], none⟩ lG 3 MI := iq no no no no no no g54 g55 no no no no g60 g61 no no
theorem R4 : Row Tryz.prog ⟨7, [], none⟩ lG 4 MJ := iq no no no no no no no no no no no no no no no q79
theorem R5 : Row Tryz.prog ⟨7, [], none⟩ lG 5 MK := iq g80 no no no g84 g85 g86 g87 no no no no no no no no
theorem R6 : Row Tryz.prog ⟨7, [], none⟩ lG 6 ML := iq no no no no no no no no no no no no no no no g111
theorem R7 : Row Tryz.prog ⟨7, [], none⟩ lG 7 MM := iq no no no no no g117 g118 g119 g120 g121 g122 no no g125 g126 no
theorem R9 : Row Tryz.prog ⟨7, [], none⟩ lG 9 MN := iq no no no no no no no no g152 no no no g156 no no no
theorem R10 : Row Tryz.prog ⟨7, [], none⟩ lG 10 JH := iq no no no no no no no no no no no no no no g174 g175
theorem R11 : Row Tryz.prog ⟨7, [], none⟩ lG 11 JI := iq no no g178 no g180 no g182 g183 g184 no no g187 g188 no no no
theorem R15 : Row Tryz.prog ⟨7, [], none⟩ lG 15 JJ := iq no g241 no no no g245 no no no no no no no no no no
theorem R18 : Row Tryz.prog ⟨7, [], none⟩ lG 18 JK := iq no no no no no no no no no no no no no no g302 no
theorem R40 : Row Tryz.prog ⟨7, [], none⟩ lG 40 JL := iq no no no no no no g646 no no no no no no no no no
theorem Er : sA Tryz.prog ⟨7, [], none⟩ lG 0 CL := iq R0 R1 R2 R3 R4 R5 R6 R7 rn R9 R10 R11 rn rn rn R15
theorem wE : sA Tryz.prog ⟨7, [], none⟩ lG 1 JM := iq rn rn R18 rn rn rn rn rn rn rn rn rn rn rn rn rn
theorem wF : sA Tryz.prog ⟨7, [], none⟩ lG 2 JN := iq rn rn rn rn rn rn rn rn R40 rn rn rn rn rn rn rn
theorem Bn : ∀ a : H, sA Tryz.prog ⟨7, [], none⟩ lG a.nat (F3.get a pg.fs) := iq Er wE wF pn pn pn pn pn pn pn pn pn pn pn pn pn
theorem Es : mT Tryz.prog lG pg.ms := DQ (by kernel_rfl)
theorem env : Env Tryz.prog ⟨7, [], none⟩ lG pg := DP mixed Es Bn rfl
end
end Go.Am.Seat
