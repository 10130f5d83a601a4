/- The closed run of known ends in true, whatever the variables hold. Nothing is asked. -/
import Derived.Test.YtldbgpadimkeeaaGreatDoorFast0
set_option linter.all false
namespace Go.Am.Seat
set_option maxRecDepth 1000000
def pK (n : Nat) : P4 := .mk (dG (n / 4096)) (dG (n / 256 % 16)) (dG (n / 16 % 16)) (dG (n % 16))
theorem runK : eW (aB pg (exec pg 1000000) 13 [] (.mk (Nat.rec (.mk .nil (fun _ _ => .none)) (fun j t => dy (pK j) .dead t) 7) (pK 7))) = true := by decide +kernel
end Go.Am.Seat
