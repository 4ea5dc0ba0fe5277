/- The examples; and that all is awake. -/
import Derived.Test.YtpkhbbboedoldaaDK
import Derived.Test.YtpkhbbboedoldaaDW
import Derived.KernelRfl
namespace Go.Proofs.Ytpkhbbboedoldaa
open Go Go.Sx
theorem awake200 : F30 200 = some true := by kernel_rfl
theorem law6 : F6 200 = some true := by kernel_rfl
end Go.Proofs.Ytpkhbbboedoldaa
