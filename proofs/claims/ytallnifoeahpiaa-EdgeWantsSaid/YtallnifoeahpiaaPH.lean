/- The law EdgeWants. -/
import Derived.Test.YtallnifoeahpiaaPG
import Derived.Test.YtallnifoeahpiaaDLA
import Derived.KernelRfl
namespace Go.Proofs.Ytallnifoeahpiaa
open Go Go.Sx
set_option linter.all false
set_option maxRecDepth 100000
theorem awake : F24 1000 = some true := by kernel_rfl
theorem law3 (c : Cs) (i : Int) (l : List Int) (hl : c.Edges.length ≤ 9223372036854775807) : F3 1000 c i l = some true := by
  unfold F3
  rw [e16 (by omega), Option.bind_some, e17 (by omega), Option.bind_some, if_neg (by simp), e18 (by omega) c i hl, Option.bind_some, e19 (by omega) c i hl, Option.bind_some, if_neg (by simp), e20 (by omega), Option.bind_some, e21 (by omega), Option.bind_some, if_neg (by simp), e22 (by omega), Option.bind_some, e23 (by omega), Option.bind_some, awake]
  simp [optG]
end Go.Proofs.Ytallnifoeahpiaa
