/- Pieces of the closed run, whatever ways they may go. Nothing is asked. -/
import Derived.Test.YtphjcbegmaekbaaGreatDoorStates
import Derived.Test.YtphjcbegmaekbaaGreatDoorPure
set_option linter.all false
namespace Go.Am.Seat
set_option maxRecDepth 1000000
noncomputable section
theorem KE:fC pg SB=true:=by decide +kernel
theorem KG:fC pg SC=true:=by decide +kernel
theorem KH:fC pg SD=true:=by decide +kernel
theorem KI:fC pg SE=true:=by decide +kernel
theorem KJ:fC pg SF=true:=by decide +kernel
theorem KL:fC pg SG=true:=by decide +kernel
theorem KM:fC pg SH=true:=by decide +kernel
theorem KN:fC pg SI=true:=by decide +kernel
theorem KP:fC pg SJ=true:=by decide +kernel
theorem KQ:fC pg SL=true:=by decide +kernel
theorem KR:fC pg SM=true:=by decide +kernel
theorem KS:fC pg SN=true:=by decide +kernel
theorem KU:fC pg SO=true:=by decide +kernel
theorem KW:fC pg SP=true:=by decide +kernel
end
end Go.Am.Seat
