/- The names of the methods that are called through interfaces. Nothing is asked. -/
import Derived.Test.YtphjcbegmaekbaaGreatDoorH
set_option linter.all false
namespace Go.Am.Seat
set_option maxRecDepth 20000
noncomputable section
def dz:List String:=[]
end
end Go.Am.Seat
