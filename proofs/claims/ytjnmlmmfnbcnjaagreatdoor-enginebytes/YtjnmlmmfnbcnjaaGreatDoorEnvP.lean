/- The table with known as one step is the program's, too. Nothing is asked. -/
import Derived.Test.YtjnmlmmfnbcnjaaGreatDoorEnv
import Derived.Test.YtjnmlmmfnbcnjaaGreatDoorRun
import Derived.Test.YtjnmlmmfnbcnjaaGreatDoorW1
import Derived.KernelRfl
set_option linter.all false
open Go.Proofs
namespace Go.Am.Seat
set_option maxRecDepth 100000
noncomputable section
theorem UE : eR (au pg (exec pg 1000000) 6 [] (PG 7)) = true := by
 have e : PG 7 = .mk (Nat.rec (.mk .nil (fun _ _ => .none)) (fun j t => df (pK j) .dead t) 7) (pK 7) := rfl
 rw [e]; exact runK
theorem Vw : sF Tryz.prog ⟨7, [], none⟩ jH 6 x6 [.t .h0 .h0] ∧ qH Tryz.prog ⟨7, [], none⟩ (.fn Eg) 6 := ⟨g6, Gi env 1000000 6 (by decide) UE⟩
theorem Vx : Row Tryz.prog ⟨7, [], none⟩ jH 0 PH := eW no no no g3 g4 g5 Vw g7 g8 g9 g10 g11 g12 g13 g14 g15
theorem Gj : yD Tryz.prog ⟨7, [], none⟩ jH 0 JT := eW Vx R1 R2 R3 R4 R5 R6 R7 R8 R9 R10 R11 R12 R13 R14 R15
theorem Ct : ∀ a : H, yD Tryz.prog ⟨7, [], none⟩ jH a.nat (F3.get a Ty.fs) := eW Gj AH pn pn pn pn pn pn pn pn pn pn pn pn pn pn
theorem ask : Ask Tryz.prog jH where
 e := JU mixed JV Ct rfl
 t := ⟨by kernel_rfl, by kernel_rfl, by kernel_rfl, by kernel_rfl, by kernel_rfl, by kernel_rfl, by kernel_rfl, by kernel_rfl, by kernel_rfl, by kernel_rfl, by kernel_rfl⟩
 k := by kernel_rfl
 s := by kernel_rfl
 u := by kernel_rfl
end
end Go.Am.Seat
