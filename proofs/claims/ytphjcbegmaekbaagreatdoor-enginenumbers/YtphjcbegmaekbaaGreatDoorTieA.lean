/- Closed facts of the row. Nothing is asked. -/
import Derived.Test.YtphjcbegmaekbaaGreatDoorRows
import Derived.LaidByTextLater
import Derived.LaidOnce
import Derived.KernelRfl
set_option linter.all false
namespace Go.Proofs.YtphjcbegmaekbaaGreatDoor
open Go
set_option maxRecDepth 100000
theorem y1:Tryz.prog.worded (varsWordLater true)=true:=by kernel_rfl
theorem y2:Tryz.prog.worded (varsWordLater (!true))=false:=by kernel_rfl
theorem y3:Tryz.prog.worded rootWordLater=true:=by kernel_rfl
theorem y4:([("strconv.ErrSyntax",Rows.laid_strconv_ErrSyntax),("strconv.ErrRange",Rows.laid_strconv_ErrRange),("internal/strconv.uint64pow10",Rows.laid_internal_strconv_uint64pow10),("math/bits.deBruijn32tab",Rows.laid_math_bits_deBruijn32tab),("math/bits.deBruijn64tab",Rows.laid_math_bits_deBruijn64tab)]:List (String×DataW Unit)).map (fun x=>Tryz.prog.kindOfLater x.1)=([.sentinel,.sentinel,.data,.data,.data]:List LaidKind).map some:=by kernel_rfl
theorem y5:(Tryz.prog.funcNamed "gosem.cut.vars").isSome=true:=by kernel_rfl
end Go.Proofs.YtphjcbegmaekbaaGreatDoor
