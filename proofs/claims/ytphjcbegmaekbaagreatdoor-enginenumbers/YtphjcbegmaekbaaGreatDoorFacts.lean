/- Closed facts of the row. Nothing is asked. -/
import Derived.Test.YtphjcbegmaekbaaGreatDoorFacts1
import Derived.Test.YtphjcbegmaekbaaGreatDoorFactsL
import Derived.Test.YtphjcbegmaekbaaGreatDoorFacts0
import Derived.Test.YtphjcbegmaekbaaGreatDoorFactsC
import Derived.Test.YtphjcbegmaekbaaGreatDoorRows
import Derived.JoinedOf
import Derived.KernelRfl
set_option linter.all false
namespace Go.Proofs.YtphjcbegmaekbaaGreatDoor.engineNumbers
open Go
set_option maxRecDepth 100000
theorem facts:joinedFacts Tryz.prog 3 Tryz.f3 Rows.engineNumbersSpec Rows.engineNumbersRow=true:=by
 unfold joinedFacts
 simp only [Bool.and_eq_true]
 repeat' apply And.intro
 all_goals with_reducible first
  | exact j0
  | exact j1
  | exact j2
  | exact j3
  | exact j4
  | exact j5
  | exact j6
  | exact j7
  | exact j8
  | exact j9
  | exact j10
  | exact j11
  | exact j12
  | exact j13
  | exact j14
  | exact j15
  | exact j16
  | exact j17
  | exact j18
  | exact j19
  | exact j20
  | exact j21
  | exact j22
  | exact j23
  | exact j24
  | exact j25
  | exact j26
  | exact j27
  | exact j28
  | exact j29
  | exact j30
  | exact j31
  | skip
 exact j28
end Go.Proofs.YtphjcbegmaekbaaGreatDoor.engineNumbers
