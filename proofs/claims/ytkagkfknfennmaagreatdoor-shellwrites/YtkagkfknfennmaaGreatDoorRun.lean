/- The closed run of known ends in true, whatever the variables hold. Nothing is asked. -/
import Derived.Test.YtkagkfknfennmaaGreatDoorFast0
set_option linter.all false
namespace Go.Am.Seat
set_option maxRecDepth 1000000
def pK (n : Nat) : P4 := .mk (dj (n / 4096)) (dj (n / 256 % 16)) (dj (n / 16 % 16)) (dj (n % 16))
theorem runK : eD (ar pg (exec pg 1000000) 7 [] (.mk (Nat.rec (.mk .nil (fun _ _ => .none)) (fun j t => cU (pK j) .dead t) 7) (pK 7))) = true := by decide +kernel
end Go.Am.Seat
