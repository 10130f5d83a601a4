/- Pieces of the closed run, whatever ways they may go. Nothing is asked. -/
import Derived.Test.YtfikinbodiohiaaGreatDoorStates
import Derived.Test.YtfikinbodiohiaaGreatDoorPure
set_option linter.all false
namespace Go.Am.Seat
set_option maxRecDepth 1000000
noncomputable section
theorem Yu:aB 7 (.nm Yc Kl) (exec pg 1000000 YY .nil (Db 7 1 (Gz 436 .u64 Ew)))=true:=by decide +kernel
theorem Yw:aB 7 (.nm Yd XG) (exec pg 1000000 YZ Yc (aN Kl))=true:=by decide +kernel
theorem Yy:aB 7 (.nm Ye br) (exec pg 1000000 Za Yd (aN XG))=true:=by decide +kernel
theorem YA:aB 7 (.nm Yf br) (exec pg 1000000 Zb Ye (aN br))=true:=by decide +kernel
theorem YB:aB 7 (.nm Yg br) (exec pg 1000000 zL Yf (aN br))=true:=by decide +kernel
theorem YC:aB 7 (.nm Yh XH) (exec pg 1000000 zM Yg (aN br))=true:=by decide +kernel
theorem YD:aB 7 (.nm Yi Km) (exec pg 1000000 zN Yh (aN XH))=true:=by decide +kernel
theorem YE:aB 7 (.nm Yj Km) (exec pg 1000000 zO Yi (aN Km))=true:=by decide +kernel
theorem YF:aB 7 (.nm Yk Km) (exec pg 1000000 zP Yj (aN Km))=true:=by decide +kernel
theorem VM:aB 7 (.nm Ym Yl) (rounds 10 (exec pg 1000000 dY) Yk (aN Km))=true:=by decide +kernel
theorem VN:aB 7 (.ex 2 Oc br) (exec pg 1000000 dY Ym (aN Yl))=true:=by decide +kernel
theorem VO:aB 7 (.nm Od br) (exec pg 1000000 lL Oc (aN br))=true:=by decide +kernel
theorem VP:aB 7 (.nm Oe br) (exec pg 1000000 zL Od (aN br))=true:=by decide +kernel
theorem VQ:aB 7 (.nm Og Ks) (exec pg 1000000 zM Oe (aN br))=true:=by decide +kernel
theorem VS:aB 7 (.nm Oh ub) (exec pg 1000000 zN Og (aN Ks))=true:=by decide +kernel
theorem VT:aB 7 (.nm Oi ub) (exec pg 1000000 zO Oh (aN ub))=true:=by decide +kernel
theorem VU:aB 7 (.nm Oj ub) (exec pg 1000000 zP Oi (aN ub))=true:=by decide +kernel
theorem VV:aB 7 (.nm Ok Ku) (rounds 5 (exec pg 1000000 dY) Oj (aN ub))=true:=by decide +kernel
end
end Go.Am.Seat
