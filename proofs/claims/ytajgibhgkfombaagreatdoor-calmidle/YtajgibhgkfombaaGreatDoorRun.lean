/- The closed run ends in true whatever ways it may go. Nothing is asked. -/
import Derived.Test.YtajgibhgkfombaaGreatDoorQ00
import Derived.Test.YtajgibhgkfombaaGreatDoorQ01
import Derived.Test.YtajgibhgkfombaaGreatDoorQ02
import Derived.Test.YtajgibhgkfombaaGreatDoorQ03
import Derived.Test.YtajgibhgkfombaaGreatDoorQ04
import Derived.Test.YtajgibhgkfombaaGreatDoorQ10
import Derived.Test.YtajgibhgkfombaaGreatDoorQ11
import Derived.Test.YtajgibhgkfombaaGreatDoorQ12
import Derived.Test.YtajgibhgkfombaaGreatDoorQ13
import Derived.Test.YtajgibhgkfombaaGreatDoorQ14
import Derived.Test.YtajgibhgkfombaaGreatDoorQ20
import Derived.Test.YtajgibhgkfombaaGreatDoorQ21
import Derived.Test.YtajgibhgkfombaaGreatDoorQ22
import Derived.Test.YtajgibhgkfombaaGreatDoorQ23
import Derived.Test.YtajgibhgkfombaaGreatDoorQ24
import Derived.Test.YtajgibhgkfombaaGreatDoorQ30
import Derived.Test.YtajgibhgkfombaaGreatDoorQ31
import Derived.Test.YtajgibhgkfombaaGreatDoorQ32
import Derived.Test.YtajgibhgkfombaaGreatDoorQ33
import Derived.Test.YtajgibhgkfombaaGreatDoorQ34
import Derived.Test.YtajgibhgkfombaaGreatDoorQ40
import Derived.Test.YtajgibhgkfombaaGreatDoorQ41
import Derived.Test.YtajgibhgkfombaaGreatDoorQ42
import Derived.Test.YtajgibhgkfombaaGreatDoorQ43
import Derived.Test.YtajgibhgkfombaaGreatDoorQ44
import Derived.Test.YtajgibhgkfombaaGreatDoorP
set_option linter.all false
namespace Go.Am.Seat
theorem run (k j : Nat) (hk : k < 5) (hj : j < 5) : isTrueT (callF (pg k j) (exec (pg k j) 1000000) 3 [.sym i0, .sym i1] hp2) = true := by
  have hk : k = 0 ∨ k = 1 ∨ k = 2 ∨ k = 3 ∨ k = 4 := by omega
  have hj : j = 0 ∨ j = 1 ∨ j = 2 ∨ j = 3 ∨ j = 4 := by omega
  rcases hk with rfl | rfl | rfl | rfl | rfl
  · rcases hj with rfl | rfl | rfl | rfl | rfl
    · exact run00
    · exact run01
    · exact run02
    · exact run03
    · exact run04
  · rcases hj with rfl | rfl | rfl | rfl | rfl
    · exact run10
    · exact run11
    · exact run12
    · exact run13
    · exact run14
  · rcases hj with rfl | rfl | rfl | rfl | rfl
    · exact run20
    · exact run21
    · exact run22
    · exact run23
    · exact run24
  · rcases hj with rfl | rfl | rfl | rfl | rfl
    · exact run30
    · exact run31
    · exact run32
    · exact run33
    · exact run34
  · rcases hj with rfl | rfl | rfl | rfl | rfl
    · exact run40
    · exact run41
    · exact run42
    · exact run43
    · exact run44
end Go.Am.Seat
