/- The closed facts of the row of TopPainted. -/
import Derived.Test.YtkcgfceihpampaaGreatDoorRows
import Derived.JoinedOf
import Derived.KernelRfl
namespace Go.Proofs.YtkcgfceihpampaaGreatDoor.topPainted
open Go
set_option maxRecDepth 100000
theorem closed : joinedFacts Tryz.pinned.checked.prog 4 Tryz.f4 Rows.topPaintedSpec Rows.topPaintedRow = true := by kernel_rfl
end Go.Proofs.YtkcgfceihpampaaGreatDoor.topPainted
