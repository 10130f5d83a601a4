/- Each function of the table is what the program's function is translated into. Nothing is asked. -/
import Derived.Test.YtdknlglpmcchlaaGreatDoorEnv0
import Derived.Test.YtdknlglpmcchlaaGreatDoorEnv1
set_option linter.all false
open Go.Proofs
namespace Go.Am.Seat
set_option maxRecDepth 100000
section
theorem mixed : Tryz.prog.follows .mixedOrders = true := by kernel_rfl
theorem q94 : Cm Tryz.prog ⟨7, [], none⟩ .FZ 94 := FY Tryz.func94 (by kernel_rfl) (by kernel_rfl) (by kernel_rfl) (by kernel_rfl)
theorem iT {C : H → Prop} (a0 : C .h0) (a1 : C .h1) (a2 : C .h2) (a3 : C .h3) (a4 : C .h4) (a5 : C .h5) (a6 : C .h6) (a7 : C .h7) (a8 : C .h8) (a9 : C .h9) (aa : C .ha) (ab : C .hb) (ac : C .hc) (ad : C .hd) (ae : C .he) (af : C .hf) : ∀ c, C c := fun c => by cases c <;> assumption
theorem no : True := trivial
theorem rn {b : Nat} : Row Tryz.prog ⟨7, [], none⟩ na b .nil := CW b
theorem pn {a : Nat} : uO Tryz.prog ⟨7, [], none⟩ na a .nil := Ia a
theorem R0 : Row Tryz.prog ⟨7, [], none⟩ na 0 Pj := iT no no no g3 g4 g5 g6 g7 g8 g9 g10 g11 g12 g13 g14 g15
theorem R1 : Row Tryz.prog ⟨7, [], none⟩ na 1 Ry := iT g16 g17 g18 g19 g20 g21 g22 g23 g24 g25 g26 g27 g28 g29 g30 g31
theorem R2 : Row Tryz.prog ⟨7, [], none⟩ na 2 Rz := iT g32 no g34 g35 g36 g37 g38 g39 g40 g41 g42 g43 g44 g45 g46 g47
theorem R3 : Row Tryz.prog ⟨7, [], none⟩ na 3 RA := iT g48 g49 no no no no no no no no no no no g61 g62 no
theorem R4 : Row Tryz.prog ⟨7, [], none⟩ na 4 RB := iT no no no g67 g68 g69 g70 g71 g72 g73 g74 g75 g76 no no no
theorem R5 : Row Tryz.prog ⟨7, [], none⟩ na 5 RC := iT no no no no no no no no no no no no no no q94 g95
theorem R6 : Row Tryz.prog ⟨7, [], none⟩ na 6 RE := iT no no no g99 g100 g101 g102 g103 no no no no no no no no
theorem R7 : Row Tryz.prog ⟨7, [], none⟩ na 7 RF := iT no no no no no no no no no no no no no no no g127
theorem R8 : Row Tryz.prog ⟨7, [], none⟩ na 8 RG := iT no no no no no g133 g134 g135 g136 g137 g138 no g140 g141 no no
theorem R10 : Row Tryz.prog ⟨7, [], none⟩ na 10 NT := iT no no no no g164 no no no g168 no no no no no no no
theorem R11 : Row Tryz.prog ⟨7, [], none⟩ na 11 NU := iT no no no no no no no no no no g186 g187 no no g190 no
theorem R12 : Row Tryz.prog ⟨7, [], none⟩ na 12 NV := iT g192 no g194 g195 g196 no no g199 g200 no no no no no no no
theorem R15 : Row Tryz.prog ⟨7, [], none⟩ na 15 NW := iT no no no no no no no g247 no no no g251 no no no no
theorem R19 : Row Tryz.prog ⟨7, [], none⟩ na 19 NX := iT no g305 no no no no no no no no no no no no no no
theorem R40 : Row Tryz.prog ⟨7, [], none⟩ na 40 NY := iT no no no no no no no no g648 no no no no no no no
theorem Ib : uO Tryz.prog ⟨7, [], none⟩ na 0 Ic := iT R0 R1 R2 R3 R4 R5 R6 R7 R8 rn R10 R11 R12 rn rn R15
theorem yb : uO Tryz.prog ⟨7, [], none⟩ na 1 NZ := iT rn rn rn R19 rn rn rn rn rn rn rn rn rn rn rn rn
theorem yd : uO Tryz.prog ⟨7, [], none⟩ na 2 Oa := iT rn rn rn rn rn rn rn rn R40 rn rn rn rn rn rn rn
theorem EP : ∀ a : H, uO Tryz.prog ⟨7, [], none⟩ na a.nat (F3.get a pg.fs) := iT Ib yb yd pn pn pn pn pn pn pn pn pn pn pn pn pn
theorem FX : pv Tryz.prog na pg.ms := Ie (by kernel_rfl)
theorem env : Env Tryz.prog ⟨7, [], none⟩ na pg := FW mixed FX EP rfl
end
end Go.Am.Seat
