/- Pieces of the closed run, whatever ways they may go. Nothing is asked. -/
import Derived.Test.YtphjcbegmaekbaaGreatDoorStates
import Derived.Test.YtphjcbegmaekbaaGreatDoorPure
set_option linter.all false
namespace Go.Am.Seat
set_option maxRecDepth 1000000
noncomputable section
theorem NH:fC pg Ts=true:=by decide +kernel
theorem NI:fC pg Tr=true:=by decide +kernel
theorem NJ:fC pg Tl=true:=by decide +kernel
theorem NL:fC pg Tm=true:=by decide +kernel
theorem NM:fC pg Tn=true:=by decide +kernel
theorem NN:fC pg Tp=true:=by decide +kernel
theorem NO:fC pg Tq=true:=by decide +kernel
theorem NP:fC pg Tk=true:=by decide +kernel
theorem NQ:fC pg Te=true:=by decide +kernel
theorem NT:fC pg Tf=true:=by decide +kernel
theorem NU:fC pg Th=true:=by decide +kernel
theorem NV:fC pg Ti=true:=by decide +kernel
theorem NW:fC pg Tj=true:=by decide +kernel
theorem NX:fC pg Td=true:=by decide +kernel
theorem NY:fC pg Tc=true:=by decide +kernel
theorem NZ:fC pg Tb=true:=by decide +kernel
end
end Go.Am.Seat
