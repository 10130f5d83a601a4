/- Pieces of the closed run, whatever ways they may go. Nothing is asked. -/
import Derived.Test.YtphjcbegmaekbaaGreatDoorStates
import Derived.Test.YtphjcbegmaekbaaGreatDoorPure
set_option linter.all false
namespace Go.Am.Seat
set_option maxRecDepth 1000000
noncomputable section
theorem LQ:fC pg TS=true:=by decide +kernel
theorem LR:fC pg TT=true:=by decide +kernel
theorem LU:fC pg TU=true:=by decide +kernel
theorem LV:fC pg TV=true:=by decide +kernel
theorem LW:fC pg TW=true:=by decide +kernel
theorem LX:fC pg TX=true:=by decide +kernel
theorem LY:fC pg TY=true:=by decide +kernel
theorem LZ:fC pg TZ=true:=by decide +kernel
theorem Ma:fC pg Ua=true:=by decide +kernel
theorem Mb:fC pg Ub=true:=by decide +kernel
theorem Mc:fC pg Uc=true:=by decide +kernel
theorem Md:fC pg Ud=true:=by decide +kernel
theorem Me:fC pg Ue=true:=by decide +kernel
theorem Mf:fC pg Uf=true:=by decide +kernel
theorem Mg:fC pg Ug=true:=by decide +kernel
theorem Mh:fC pg Uh=true:=by decide +kernel
end
end Go.Am.Seat
