/- The closed run of known ends in true, whatever the variables hold. Nothing is asked. -/
import Derived.Test.YtjnmlmmfnbcnjaaGreatDoorFast1
set_option linter.all false
namespace Go.Am.Seat
set_option maxRecDepth 1000000
def pK (n : Nat) : P4 := .mk (dw (n / 4096)) (dw (n / 256 % 16)) (dw (n / 16 % 16)) (dw (n % 16))
theorem runK : eR (au pg (exec pg 1000000) 6 [] (.mk (Nat.rec (.mk .nil (fun _ _ => .none)) (fun j t => df (pK j) .dead t) 7) (pK 7))) = true := by decide +kernel
end Go.Am.Seat
