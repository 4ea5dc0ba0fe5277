/- What functions of the seat compute. Printed by a program of mine. -/
import Derived.Test.YtallnifoeahpiaaP
import Derived.Test.YtallnifoeahpiaaDEE
import Derived.Test.YtallnifoeahpiaaDEF
import Derived.Test.YtallnifoeahpiaaDRB
import Derived.Test.YtallnifoeahpiaaDRD
import Derived.Test.YtallnifoeahpiaaDW
namespace Go.Proofs.Ytallnifoeahpiaa
open Go Go.Sx
set_option linter.unusedVariables false


def F5 (fuel:Nat)  (p_c:S_api_EdCase) (proof:(List Int)):Option (Bool) :=
 (F30 fuel p_c proof).bind fun x1=>(F31 fuel p_c proof).bind fun x2=>if (cond (x1.1 != x2.1) true (x1.2 != x2.2)) then (some false) else ((F32 fuel p_c).bind fun x4=>(F33 fuel p_c).bind fun x5=>(F29 fuel x4.1 x5.1).bind fun x6=>(optG (cond x6 (x4.2==x5.2) false) (F24 fuel)).bind fun x7=>some (cond (cond x6 (x4.2==x5.2) false) x7 false))
end Go.Proofs.Ytallnifoeahpiaa
