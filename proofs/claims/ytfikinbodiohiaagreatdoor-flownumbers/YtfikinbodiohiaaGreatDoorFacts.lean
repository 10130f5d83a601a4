/- Closed facts of the row. Nothing is asked. -/
import Derived.Test.YtfikinbodiohiaaGreatDoorFacts1
import Derived.Test.YtfikinbodiohiaaGreatDoorFactsL
import Derived.Test.YtfikinbodiohiaaGreatDoorFacts0
import Derived.Test.YtfikinbodiohiaaGreatDoorFactsC
import Derived.Test.YtfikinbodiohiaaGreatDoorRows
import Derived.JoinedOf
import Derived.KernelRfl
set_option linter.all false
namespace Go.Proofs.YtfikinbodiohiaaGreatDoor.flowNumbers
open Go
set_option maxRecDepth 100000
theorem facts:joinedFacts Tryz.prog 3 Tryz.f3 Rows.flowNumbersSpec Rows.flowNumbersRow=true:=by
 unfold joinedFacts
 simp only [Bool.and_eq_true]
 repeat' apply And.intro
 all_goals with_reducible first
  | exact j0
  | exact j1
  | exact j2
  | exact j3
  | exact j4
  | exact j5
  | exact j6
  | exact j7
  | exact j8
  | exact j9
  | exact j10
  | exact j11
  | exact j12
  | exact j13
  | exact j14
  | exact j15
  | exact j16
  | exact j17
  | exact j18
  | exact j19
  | exact j20
  | exact j21
  | exact j22
  | exact j23
  | exact j24
  | exact j25
  | exact j26
  | exact j27
  | exact j28
  | exact j29
  | exact j30
  | exact j31
  | skip
 exact j28
end Go.Proofs.YtfikinbodiohiaaGreatDoor.flowNumbers
