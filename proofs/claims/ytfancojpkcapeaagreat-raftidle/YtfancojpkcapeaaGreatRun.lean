/- The closed run of known ends in true, whatever the variables hold. Nothing is asked. -/
import Derived.Test.YtfancojpkcapeaaGreatFast0
set_option linter.all false
namespace Go.Am.Seat
set_option maxRecDepth 1000000
def pK (n : Nat) : P4 := .mk (dC (n / 4096)) (dC (n / 256 % 16)) (dC (n / 16 % 16)) (dC (n % 16))
theorem runK : fg (aw pg (exec pg 1000000) 11 [] (.mk (Nat.rec (.mk .nil (fun _ _ => .none)) (fun j t => dt (pK j) .dead t) 0) (pK 0))) = true := by decide +kernel
end Go.Am.Seat
