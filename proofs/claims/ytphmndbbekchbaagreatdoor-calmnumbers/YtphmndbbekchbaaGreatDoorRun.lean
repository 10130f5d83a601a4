/- The closed run ends in true whatever ways it may go. Nothing is asked. -/
import Derived.Test.YtphmndbbekchbaaGreatDoorFast1
set_option linter.all false
namespace Go.Am.Seat
set_option maxRecDepth 100000
theorem run : isTrueT (callF pg (exec pg 1000000) 3 [] hp0) = true := by decide +kernel
end Go.Am.Seat
