/- The closed run ends in true whatever ways it may go. Nothing is asked. -/
import Derived.Test.YtcbgjadbemnpcaaGreatDoorFast1
import Derived.Test.YtcbgjadbemnpcaaGreatDoorG0
set_option linter.all false
namespace Go.Am.Seat
set_option maxRecDepth 1000000
def zs : List Int := [1, 10, 100, 1000, 10000, 100000, 1000000, 10000000, 100000000, 1000000000, 10000000000, 100000000000, 1000000000000, 10000000000000, 100000000000000, 1000000000000000, 10000000000000000, 100000000000000000, 1000000000000000000, 10000000000000000000]
theorem run : isTrueH (fun h => objIs 344 .u64 zs (hget (pof 0) h)) (callF pg (exec pg 1000000) 3 [] (hpG 7 0 (gObj 344 .u64 zs))) = true := by decide +kernel
end Go.Am.Seat
