/- Each function of the table is what the program's function is translated into. Nothing is asked. -/
import Derived.Test.YtldbgpadimkeeaaGreatDoorEnv0
import Derived.Test.YtldbgpadimkeeaaGreatDoorEnv1
set_option linter.all false
open Go.Proofs
namespace Go.Am.Seat
set_option maxRecDepth 100000
section
theorem mixed : Tryz.prog.follows .mixedOrders = true := by kernel_rfl
theorem q112 : Cc Tryz.prog ⟨7, [], none⟩ .Fv 112 := FG Tryz.func112 (by kernel_rfl) (by kernel_rfl) (by kernel_rfl) (by kernel_rfl)
theorem jl {C : H → Prop} (a0 : C .h0) (a1 : C .h1) (a2 : C .h2) (a3 : C .h3) (a4 : C .h4) (a5 : C .h5) (a6 : C .h6) (a7 : C .h7) (a8 : C .h8) (a9 : C .h9) (aa : C .ha) (ab : C .hb) (ac : C .hc) (ad : C .hd) (ae : C .he) (af : C .hf) : ∀ c, C c := fun c => by cases c <;> assumption
theorem no : True := trivial
theorem rn {b : Nat} : Row Tryz.prog ⟨7, [], none⟩ mL b .nil := Cd b
theorem pn {a : Nat} : uk Tryz.prog ⟨7, [], none⟩ mL a .nil := FH a
theorem R0 : Row Tryz.prog ⟨7, [], none⟩ mL 0 Ol := jl no no no g3 g4 g5 g6 g7 g8 g9 g10 g11 g12 g13 g14 g15
theorem R1 : Row Tryz.prog ⟨7, [], none⟩ mL 1 QF := jl g16 g17 g18 g19 g20 g21 g22 g23 g24 g25 g26 g27 g28 g29 g30 g31
theorem R2 : Row Tryz.prog ⟨7, [], none⟩ mL 2 QG := jl g32 g33 g34 g35 g36 g37 g38 g39 g40 g41 g42 g43 g44 g45 g46 g47
theorem R3 : Row Tryz.prog ⟨7, [], none⟩ mL 3 QH := jl g48 g49 g50 g51 g52 g53 g54 g55 g56 no g58 g59 g60 g61 g62 g63
theorem R4 : Row Tryz.prog ⟨7, [], none⟩ mL 4 QI := jl g64 g65 g66 g67 g68 g69 g70 g71 g72 g73 g74 no no no no no
theorem R5 : Row Tryz.prog ⟨7, [], none⟩ mL 5 QJ := jl no no no no no no g86 g87 no no no no g92 g93 g94 no
theorem R7 : Row Tryz.prog ⟨7, [], none⟩ mL 7 QK := jl q112 g113 no no no g117 g118 g119 g120 no no no no no no no
theorem R9 : Row Tryz.prog ⟨7, [], none⟩ mL 9 QL := jl g144 no no no no no g150 g151 g152 g153 g154 g155 no g157 g158 no
theorem R11 : Row Tryz.prog ⟨7, [], none⟩ mL 11 MZ := jl no no no no no g181 no no no g185 no no no no no no
theorem R12 : Row Tryz.prog ⟨7, [], none⟩ mL 12 Na := jl no no no no no no no no no no no g203 g204 no no g207
theorem R13 : Row Tryz.prog ⟨7, [], none⟩ mL 13 Nb := jl no g209 no g211 g212 g213 no no g216 g217 no no no no no no
theorem R16 : Row Tryz.prog ⟨7, [], none⟩ mL 16 Nc := jl no no no no no no no no g264 no no no g268 no no no
theorem R20 : Row Tryz.prog ⟨7, [], none⟩ mL 20 Nd := jl no no g322 no no no no no no no no no no no no no
theorem R41 : Row Tryz.prog ⟨7, [], none⟩ mL 41 Nf := jl no no no no no no no no no g665 no no no no no no
theorem FI : uk Tryz.prog ⟨7, [], none⟩ mL 0 FF := jl R0 R1 R2 R3 R4 R5 rn R7 rn R9 rn R11 R12 R13 rn rn
theorem xR : uk Tryz.prog ⟨7, [], none⟩ mL 1 Ng := jl R16 rn rn rn R20 rn rn rn rn rn rn rn rn rn rn rn
theorem xS : uk Tryz.prog ⟨7, [], none⟩ mL 2 Nh := jl rn rn rn rn rn rn rn rn rn R41 rn rn rn rn rn rn
theorem DE : ∀ a : H, uk Tryz.prog ⟨7, [], none⟩ mL a.nat (F3.get a pg.fs) := jl FI xR xS pn pn pn pn pn pn pn pn pn pn pn pn pn
theorem FJ : nY Tryz.prog mL pg.ms := FK (by kernel_rfl)
theorem env : Env Tryz.prog ⟨7, [], none⟩ mL pg := FL mixed FJ DE rfl
end
end Go.Am.Seat
