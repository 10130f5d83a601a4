/- The table with known as one step is the program's, too. Nothing is asked. -/
import Derived.Test.YtkagkfknfennmaaGreatDoorEnv
import Derived.Test.YtkagkfknfennmaaGreatDoorRun
import Derived.Test.YtkagkfknfennmaaGreatDoorW1
import Derived.KernelRfl
set_option linter.all false
open Go.Proofs
namespace Go.Am.Seat
set_option maxRecDepth 100000
noncomputable section
theorem Pc : eD (ar pg (exec pg 1000000) 7 [] (Kc 7)) = true := by
 have e : Kc 7 = .mk (Nat.rec (.mk .nil (fun _ _ => .none)) (fun j t => cU (pK j) .dead t) 7) (pK 7) := rfl
 rw [e]; exact runK
theorem PZ : pE Tryz.prog ⟨7, [], none⟩ lG 7 x7 [.t .h0 .h0] ∧ uz Tryz.prog ⟨7, [], none⟩ (.fn zw) 7 := ⟨g7, Bo env 1000000 7 (by decide) Pc⟩
theorem Qa : Row Tryz.prog ⟨7, [], none⟩ lG 0 JT := iq no no no g3 g4 g5 g6 PZ g8 g9 g10 g11 g12 g13 g14 g15
theorem Bp : sA Tryz.prog ⟨7, [], none⟩ lG 0 DC := iq Qa R1 R2 R3 R4 R5 R6 R7 rn R9 R10 R11 rn rn rn R15
theorem yp : ∀ a : H, sA Tryz.prog ⟨7, [], none⟩ lG a.nat (F3.get a Oo.fs) := iq Bp wE wF pn pn pn pn pn pn pn pn pn pn pn pn pn
theorem ask : Ask Tryz.prog lG where
 e := DP mixed Es yp rfl
 t := ⟨by kernel_rfl, by kernel_rfl, by kernel_rfl, by kernel_rfl, by kernel_rfl, by kernel_rfl, by kernel_rfl, by kernel_rfl, by kernel_rfl, by kernel_rfl, by kernel_rfl, by kernel_rfl, by kernel_rfl⟩
 k := by kernel_rfl
end
end Go.Am.Seat
