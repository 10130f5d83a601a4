/- The closed run of known ends in true, whatever the variables hold. Nothing is asked. -/
import Derived.Test.YtdknlglpmcchlaaGreatDoorFast0
set_option linter.all false
namespace Go.Am.Seat
set_option maxRecDepth 1000000
def pK (n : Nat) : P4 := .mk (dz (n / 4096)) (dz (n / 256 % 16)) (dz (n / 16 % 16)) (dz (n % 16))
theorem runK : eQ (aw pg (exec pg 1000000) 6 [] (.mk (Nat.rec (.mk .nil (fun _ _ => .none)) (fun j t => de (pK j) .dead t) 7) (pK 7))) = true := by decide +kernel
end Go.Am.Seat
