/- Pieces of the closed run, whatever ways they may go. Nothing is asked. -/
import Derived.Test.YtphjcbegmaekbaaGreatDoorStates
import Derived.Test.YtphjcbegmaekbaaGreatDoorPure
set_option linter.all false
namespace Go.Am.Seat
set_option maxRecDepth 1000000
noncomputable section
theorem Mi:fC pg Ui=true:=by decide +kernel
theorem Mj:fC pg Uj=true:=by decide +kernel
theorem Mk:fC pg Uk=true:=by decide +kernel
theorem Ml:fC pg Ul=true:=by decide +kernel
theorem Mm:fC pg Um=true:=by decide +kernel
theorem Mn:fC pg Un=true:=by decide +kernel
theorem Mo:fC pg Uo=true:=by decide +kernel
theorem Mp:fC pg Up=true:=by decide +kernel
theorem Mq:fC pg Uq=true:=by decide +kernel
theorem Mr:fC pg Ur=true:=by decide +kernel
theorem Ms:fC pg Us=true:=by decide +kernel
theorem Mt:fC pg Ut=true:=by decide +kernel
theorem Mu:fC pg Uu=true:=by decide +kernel
theorem Mv:fC pg Uv=true:=by decide +kernel
theorem Mw:fC pg Uw=true:=by decide +kernel
theorem Mx:fC pg Ux=true:=by decide +kernel
end
end Go.Am.Seat
