/- What the examples of edge come out at. -/
import Derived.Test.YtallnifoeahpiaaDW
import Derived.Test.YtallnifoeahpiaaDLD
namespace Go.Proofs.Ytallnifoeahpiaa
open Go Go.Sx
set_option linter.all false
set_option maxRecDepth 100000
theorem awake200 : F24 1000 = some true := by kernel_rfl
theorem law6 : F6 1000 = some true := by kernel_rfl
end Go.Proofs.Ytallnifoeahpiaa
