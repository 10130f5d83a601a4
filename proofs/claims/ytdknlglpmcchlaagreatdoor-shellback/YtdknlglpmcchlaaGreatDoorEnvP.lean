/- The table with known as one step is the program's, too. Nothing is asked. -/
import Derived.Test.YtdknlglpmcchlaaGreatDoorEnv
import Derived.Test.YtdknlglpmcchlaaGreatDoorRun
import Derived.Test.YtdknlglpmcchlaaGreatDoorW1
import Derived.KernelRfl
set_option linter.all false
open Go.Proofs
namespace Go.Am.Seat
set_option maxRecDepth 100000
noncomputable section
theorem Tc : eQ (aw pg (exec pg 1000000) 6 [] (Nw 7)) = true := by
 have e : Nw 7 = .mk (Nat.rec (.mk .nil (fun _ _ => .none)) (fun j t => de (pK j) .dead t) 7) (pK 7) := rfl
 rw [e]; exact runK
theorem Ul : rF Tryz.prog ⟨7, [], none⟩ na 6 x6 [.t .h0 .h0] ∧ wJ Tryz.prog ⟨7, [], none⟩ (.fn Ck) 6 := ⟨g6, Ea env 1000000 6 (by decide) Tc⟩
theorem Um : Row Tryz.prog ⟨7, [], none⟩ na 0 Nx := iT no no no g3 g4 g5 Ul g7 g8 g9 g10 g11 g12 g13 g14 g15
theorem Eb : uO Tryz.prog ⟨7, [], none⟩ na 0 FV := iT Um R1 R2 R3 R4 R5 R6 R7 R8 rn R10 R11 R12 rn rn R15
theorem AH : ∀ a : H, uO Tryz.prog ⟨7, [], none⟩ na a.nat (F3.get a QR.fs) := iT Eb yb yd pn pn pn pn pn pn pn pn pn pn pn pn pn
theorem ask : Ask Tryz.prog na where
 e := FW mixed FX AH rfl
 t := ⟨by kernel_rfl, by kernel_rfl, by kernel_rfl, by kernel_rfl, by kernel_rfl, by kernel_rfl, by kernel_rfl, by kernel_rfl, by kernel_rfl, by kernel_rfl, by kernel_rfl, by kernel_rfl, by kernel_rfl⟩
 k := by kernel_rfl
end
end Go.Am.Seat
