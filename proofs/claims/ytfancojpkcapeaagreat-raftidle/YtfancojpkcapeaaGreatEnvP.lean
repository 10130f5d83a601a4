/- The table with known as one step is the program's, too. Nothing is asked. -/
import Derived.Test.YtfancojpkcapeaaGreatEnv
import Derived.Test.YtfancojpkcapeaaGreatRun
import Derived.Test.YtfancojpkcapeaaGreatW1
import Derived.KernelRfl
set_option linter.all false
open Go.Proofs
namespace Go.Am.Seat
set_option maxRecDepth 100000
noncomputable section
theorem SS : fg (aw pg (exec pg 1000000) 11 [] (Nr 0)) = true := by
 have e : Nr 0 = .mk (Nat.rec (.mk .nil (fun _ _ => .none)) (fun j t => dt (pK j) .dead t) 0) (pK 0) := rfl
 rw [e]; exact runK
theorem SU : qv Tryz.prog ⟨0, [], none⟩ mX 11 x11 [.t .h0 .h0] ∧ kc Tryz.prog ⟨0, [], none⟩ (.fn CW) 11 := ⟨g11, Eb env 1000000 11 (by decide) SS⟩
theorem Un : Row Tryz.prog ⟨0, [], none⟩ mX 0 Ns := jD no no no g3 g4 g5 g6 g7 g8 g9 g10 SU g12 g13 g14 g15
theorem Ec : yG Tryz.prog ⟨0, [], none⟩ mX 0 GA := jD Un R1 R2 R3 R4 R5 R6 R7 R8 R9 R10 R11 R12 rn R14 R15
theorem Bp : ∀ a : H, yG Tryz.prog ⟨0, [], none⟩ mX a.nat (F3.get a QE.fs) := jD Ec pn pn pn pn pn pn pn pn pn pn pn pn pn pn pn
theorem ask : Ask Tryz.prog mX where
 e := GB mixed GC Bp rfl
 i := by kernel_rfl
 t := by kernel_rfl
 s := by kernel_rfl
 l := by kernel_rfl
 k := by kernel_rfl
end
end Go.Am.Seat
