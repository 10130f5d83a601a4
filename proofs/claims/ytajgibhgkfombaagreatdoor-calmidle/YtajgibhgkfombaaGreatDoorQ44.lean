/- The closed run ends in true whatever ways it may go. Nothing is asked. -/
import Derived.Test.YtajgibhgkfombaaGreatDoorFast1
set_option linter.all false
namespace Go.Am.Seat
theorem run44 : isTrueT (callF (pg 4 4) (exec (pg 4 4) 1000000) 3 [.sym (.mk .h0 .h0 .h0 .h0), .sym (.mk .h0 .h0 .h0 .h1)] (hset (.mk .h0 .h0 .h0 .h1) .dead (hset (.mk .h0 .h0 .h0 .h0) .dead (.mk .nil (.mk .h0 .h0 .h0 .h2))))) = true := by decide +kernel
end Go.Am.Seat
