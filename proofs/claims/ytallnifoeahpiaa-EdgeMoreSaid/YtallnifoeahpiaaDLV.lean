/- What functions of the seat compute. Printed by a program of mine. -/
import Derived.Test.YtallnifoeahpiaaP
import Derived.Test.YtallnifoeahpiaaDRA
namespace Go.Proofs.Ytallnifoeahpiaa
open Go Go.Sx
set_option linter.unusedVariables false


def F36 (fuel:Nat)  (p_c:S_api_EdCase):Option (Bool) :=
 (F17 fuel p_c).bind fun x1=>some (x1.2.2==0)
end Go.Proofs.Ytallnifoeahpiaa
