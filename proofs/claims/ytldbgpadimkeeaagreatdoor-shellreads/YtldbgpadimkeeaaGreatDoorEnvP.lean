/- The table with known as one step is the program's, too. Nothing is asked. -/
import Derived.Test.YtldbgpadimkeeaaGreatDoorEnv
import Derived.Test.YtldbgpadimkeeaaGreatDoorRun
import Derived.Test.YtldbgpadimkeeaaGreatDoorW1
import Derived.KernelRfl
set_option linter.all false
open Go.Proofs
namespace Go.Am.Seat
set_option maxRecDepth 100000
noncomputable section
theorem Tm : eW (aB pg (exec pg 1000000) 13 [] (Og 7)) = true := by
 have e : Og 7 = .mk (Nat.rec (.mk .nil (fun _ _ => .none)) (fun j t => dy (pK j) .dead t) 7) (pK 7) := rfl
 rw [e]; exact runK
theorem Tn : qT Tryz.prog ⟨7, [], none⟩ mL 13 x13 [.t .h0 .h0] ∧ wJ Tryz.prog ⟨7, [], none⟩ (.fn Dy) 13 := ⟨g13, Fm env 1000000 13 (by decide) Tm⟩
theorem TW : Row Tryz.prog ⟨7, [], none⟩ mL 0 Oe := jl no no no g3 g4 g5 g6 g7 g8 g9 g10 g11 g12 Tn g14 g15
theorem Fo : uk Tryz.prog ⟨7, [], none⟩ mL 0 Kd := jl TW R1 R2 R3 R4 R5 rn R7 rn R9 rn R11 R12 R13 rn rn
theorem BX : ∀ a : H, uk Tryz.prog ⟨7, [], none⟩ mL a.nat (F3.get a Qt.fs) := jl Fo xR xS pn pn pn pn pn pn pn pn pn pn pn pn pn
theorem ask : Ask Tryz.prog mL where
 e := FL mixed FJ BX rfl
 t := ⟨by kernel_rfl, by kernel_rfl, by kernel_rfl, by kernel_rfl, by kernel_rfl, by kernel_rfl, by kernel_rfl, by kernel_rfl, by kernel_rfl, by kernel_rfl, by kernel_rfl, by kernel_rfl, by kernel_rfl⟩
 k := by kernel_rfl
 s := by kernel_rfl
 u := by kernel_rfl
end
end Go.Am.Seat
