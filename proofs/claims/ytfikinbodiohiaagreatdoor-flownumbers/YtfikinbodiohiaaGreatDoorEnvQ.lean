/- The table whose pure calls are answered at once. Nothing is asked. -/
import Derived.Test.YtfikinbodiohiaaGreatDoorEnv
import Derived.Test.YtfikinbodiohiaaGreatDoorPure
import Derived.Test.YtfikinbodiohiaaGreatDoorG
set_option linter.all false
open Go.Proofs
namespace Go.Am.Seat
set_option maxRecDepth 20000
noncomputable section
theorem pgQ:pg=(kj 255 (.fn (bg HP)) (kj 251 (.fn (bg HO)) (kj 249 (.fn (bg HN)) (kj 243 (.fn (bg HM)) (kj 242 (.fn (bg HL)) (kj 241 (.fn (bg HK)) (kj 231 (.fn (bg HJ)) (kj 184 (.fn (bg HI)) (kj 177 (.fn (bg HG)) (kj 174 (.fn (bg HF)) (kj 171 (.fn (bg HE)) (kj 158 (.fn (bg HD)) (kj 154 (.fn (bg HC)) (kj 151 (.fn (bg HB)) (kj 150 (.fn (bg Hz)) (kj 142 (.fn (bg Hy)) (kj 131 (.fn (bg Hx)) (kj 130 (.fn (bg Hw)) (kj 92 (.fn (bg Td)) (kj 90 (.fn (bg Tc)) (kj 87 (.fn (bg Tb)) (kj 305 (.fn (bg Hv)) (kj 304 (.fn (bg Hu)) (kj 302 (.fn (bg Ht)) (kj 265 (.fn (bg Hs)) nk))))))))))))))))))))))))):=by kernel_rfl
theorem env:Env Tryz.prog ⟨7,[],none⟩ fj pg:=by
 rw [pgQ]
 exact (((((((((((((((((((((((((fT.ef 265 (by rfl) _ (dC fT 1000000 265 7 q265)).ef 302 (by rfl) _ (dC fT 1000000 302 7 q302)).ef 304 (by rfl) _ (dC fT 1000000 304 7 q304)).ef 305 (by rfl) _ (dC fT 1000000 305 7 q305)).ef 87 (by rfl) _ (dC fT 1000000 87 7 q87)).ef 90 (by rfl) _ (dC fT 1000000 90 7 q90)).ef 92 (by rfl) _ (dC fT 1000000 92 7 q92)).ef 130 (by rfl) _ (dC fT 1000000 130 7 q130)).ef 131 (by rfl) _ (dC fT 1000000 131 7 q131)).ef 142 (by rfl) _ (dC fT 1000000 142 7 q142)).ef 150 (by rfl) _ (dC fT 1000000 150 7 q150)).ef 151 (by rfl) _ (dC fT 1000000 151 7 q151)).ef 154 (by rfl) _ (dC fT 1000000 154 7 q154)).ef 158 (by rfl) _ (dC fT 1000000 158 7 q158)).ef 171 (by rfl) _ (dC fT 1000000 171 7 q171)).ef 174 (by rfl) _ (dC fT 1000000 174 7 q174)).ef 177 (by rfl) _ (dC fT 1000000 177 7 q177)).ef 184 (by rfl) _ (dC fT 1000000 184 7 q184)).ef 231 (by rfl) _ (dC fT 1000000 231 7 q231)).ef 241 (by rfl) _ (dC fT 1000000 241 7 q241)).ef 242 (by rfl) _ (dC fT 1000000 242 7 q242)).ef 243 (by rfl) _ (dC fT 1000000 243 7 q243)).ef 249 (by rfl) _ (dC fT 1000000 249 7 q249)).ef 251 (by rfl) _ (dC fT 1000000 251 7 q251)).ef 255 (by rfl) _ (dC fT 1000000 255 7 q255))
end
end Go.Am.Seat
