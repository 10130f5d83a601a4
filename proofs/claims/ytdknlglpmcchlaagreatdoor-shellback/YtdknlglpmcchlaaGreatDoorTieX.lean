/- Closed facts of the row. Nothing is asked. -/
import Derived.Test.YtdknlglpmcchlaaGreatDoorRows
import Derived.Test.YtdknlglpmcchlaaGreatDoorTieA
import Derived.Test.YtdknlglpmcchlaaGreatDoorTieB
import Derived.Test.YtdknlglpmcchlaaGreatDoorTieC
import Derived.LaidByTextLater
import Derived.SevenTiedAt
import Derived.LaidOnce
set_option linter.all false
namespace Go.Proofs.YtdknlglpmcchlaaGreatDoor
open Go
set_option maxRecDepth 100000
theorem tie : Tryz.prog.laidByTextLater [("strconv.ErrSyntax", Rows.laid_strconv_ErrSyntax), ("strconv.ErrRange", Rows.laid_strconv_ErrRange), ("internal/strconv.uint64pow10", Rows.laid_internal_strconv_uint64pow10), ("math/bits.deBruijn32tab", Rows.laid_math_bits_deBruijn32tab), ("math/bits.deBruijn64tab", Rows.laid_math_bits_deBruijn64tab)] [.sentinel, .sentinel, .data, .data, .data] true :=
 Program.laidByTextLater_by_one 62 8 65 y1 y2 y3 y4 y5 y6 y7
theorem shellBack_row_tie : Rows.shellBackRow.laidByTextAt .later Tryz.pinned [.sentinel, .sentinel, .data, .data, .data] true :=
 OpenClaim.laidByTextAt_later rfl rfl tie noOwnUnsafe
theorem shellBackUpto_row_tie : Rows.shellBackUptoRow.laidByTextAt .later Tryz.pinned [.sentinel, .sentinel, .data, .data, .data] true :=
 OpenClaim.laidByTextAt_later rfl rfl tie noOwnUnsafe
end Go.Proofs.YtdknlglpmcchlaaGreatDoor
