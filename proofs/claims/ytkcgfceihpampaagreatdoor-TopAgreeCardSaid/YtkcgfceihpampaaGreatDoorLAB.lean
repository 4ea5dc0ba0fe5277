/- The closed facts of the row of TopAgree. -/
import Derived.Test.YtkcgfceihpampaaGreatDoorRows
import Derived.JoinedOf
import Derived.KernelRfl
namespace Go.Proofs.YtkcgfceihpampaaGreatDoor.topAgree
open Go
set_option maxRecDepth 100000
theorem closed : joinedFacts Tryz.pinned.checked.prog 5 Tryz.f5 Rows.topAgreeSpec Rows.topAgreeRow = true := by kernel_rfl
end Go.Proofs.YtkcgfceihpampaaGreatDoor.topAgree
