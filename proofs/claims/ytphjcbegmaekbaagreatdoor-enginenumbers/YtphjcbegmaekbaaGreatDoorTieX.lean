/- Closed facts of the row. Nothing is asked. -/
import Derived.Test.YtphjcbegmaekbaaGreatDoorRows
import Derived.Test.YtphjcbegmaekbaaGreatDoorTieA
import Derived.Test.YtphjcbegmaekbaaGreatDoorTieB
import Derived.Test.YtphjcbegmaekbaaGreatDoorTieC
import Derived.LaidByTextLater
import Derived.SevenTiedAt
import Derived.LaidOnce
set_option linter.all false
namespace Go.Proofs.YtphjcbegmaekbaaGreatDoor
open Go
set_option maxRecDepth 100000
theorem tie:Tryz.prog.laidByTextLater [("strconv.ErrSyntax",Rows.laid_strconv_ErrSyntax),("strconv.ErrRange",Rows.laid_strconv_ErrRange),("internal/strconv.uint64pow10",Rows.laid_internal_strconv_uint64pow10),("math/bits.deBruijn32tab",Rows.laid_math_bits_deBruijn32tab),("math/bits.deBruijn64tab",Rows.laid_math_bits_deBruijn64tab)] [.sentinel,.sentinel,.data,.data,.data] true:=
 Program.laidByTextLater_by_one 62 8 65 y1 y2 y3 y4 y5 y6 y7
theorem engineNumbers_row_tie:Rows.engineNumbersRow.laidByTextAt .later Tryz.pinned [.sentinel,.sentinel,.data,.data,.data] true:=
 OpenClaim.laidByTextAt_later rfl rfl tie noOwnUnsafe
theorem engineNumbersUpto_row_tie:Rows.engineNumbersUptoRow.laidByTextAt .later Tryz.pinned [.sentinel,.sentinel,.data,.data,.data] true:=
 OpenClaim.laidByTextAt_later rfl rfl tie noOwnUnsafe
end Go.Proofs.YtphjcbegmaekbaaGreatDoor
