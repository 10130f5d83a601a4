/- The table whose pure calls are answered at once. Nothing is asked. -/
import Derived.Test.YtphjcbegmaekbaaGreatDoorEnv
import Derived.Test.YtphjcbegmaekbaaGreatDoorPure
import Derived.Test.YtphjcbegmaekbaaGreatDoorG
set_option linter.all false
open Go.Proofs
namespace Go.Am.Seat
set_option maxRecDepth 20000
noncomputable section
theorem pgQ:pg=(bq 222 (.fn (aX GZ)) (bq 217 (.fn (aX GY)) (bq 215 (.fn (aX GX)) (bq 214 (.fn (aX GW)) (bq 458 (.fn (aX GV)) (bq 201 (.fn (aX GU)) (bq 456 (.fn (aX GS)) (bq 438 (.fn (aX GR)) (bq 166 (.fn (aX GQ)) (bq 417 (.fn (aX GP)) (bq 416 (.fn (aX GO)) (bq 414 (.fn (aX GN)) (bq 405 (.fn (aX GM)) (bq 147 (.fn (aX GL)) (bq 401 (.fn (aX GK)) (bq 389 (.fn (aX GJ)) (bq 129 (.fn (aX GH)) (bq 384 (.fn (aX GG)) (bq 334 (.fn (aX GF)) (bq 332 (.fn (aX GD)) (bq 331 (.fn (aX GC)) (bq 330 (.fn (aX GB)) (bq 305 (.fn (aX GA)) (bq 303 (.fn (aX Gz)) (bq 278 (.fn (aX Gy)) (bq 270 (.fn (aX Gx)) (bq 256 (.fn (aX Gw)) lZ))))))))))))))))))))))))))):=by kernel_rfl
theorem env:Env Tryz.prog ⟨7,[],none⟩ dz pg:=by
 rw [pgQ]
 exact (((((((((((((((((((((((((((fp.aE 256 (by rfl) _ (dm fp 1000000 256 7 q256)).aE 270 (by rfl) _ (dm fp 1000000 270 7 q270)).aE 278 (by rfl) _ (dm fp 1000000 278 7 q278)).aE 303 (by rfl) _ (dm fp 1000000 303 7 q303)).aE 305 (by rfl) _ (dm fp 1000000 305 7 q305)).aE 330 (by rfl) _ (dm fp 1000000 330 7 q330)).aE 331 (by rfl) _ (dm fp 1000000 331 7 q331)).aE 332 (by rfl) _ (dm fp 1000000 332 7 q332)).aE 334 (by rfl) _ (dm fp 1000000 334 7 q334)).aE 384 (by rfl) _ (dm fp 1000000 384 7 q384)).aE 129 (by rfl) _ (dm fp 1000000 129 7 q129)).aE 389 (by rfl) _ (dm fp 1000000 389 7 q389)).aE 401 (by rfl) _ (dm fp 1000000 401 7 q401)).aE 147 (by rfl) _ (dm fp 1000000 147 7 q147)).aE 405 (by rfl) _ (dm fp 1000000 405 7 q405)).aE 414 (by rfl) _ (dm fp 1000000 414 7 q414)).aE 416 (by rfl) _ (dm fp 1000000 416 7 q416)).aE 417 (by rfl) _ (dm fp 1000000 417 7 q417)).aE 166 (by rfl) _ (dm fp 1000000 166 7 q166)).aE 438 (by rfl) _ (dm fp 1000000 438 7 q438)).aE 456 (by rfl) _ (dm fp 1000000 456 7 q456)).aE 201 (by rfl) _ (dm fp 1000000 201 7 q201)).aE 458 (by rfl) _ (dm fp 1000000 458 7 q458)).aE 214 (by rfl) _ (dm fp 1000000 214 7 q214)).aE 215 (by rfl) _ (dm fp 1000000 215 7 q215)).aE 217 (by rfl) _ (dm fp 1000000 217 7 q217)).aE 222 (by rfl) _ (dm fp 1000000 222 7 q222))
end
end Go.Am.Seat
