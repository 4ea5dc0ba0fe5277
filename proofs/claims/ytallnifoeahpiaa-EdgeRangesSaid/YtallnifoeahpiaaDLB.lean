/- What functions of the seat compute. Printed by a program of mine. -/
import Derived.Test.YtallnifoeahpiaaP
import Derived.Test.YtallnifoeahpiaaDED
import Derived.Test.YtallnifoeahpiaaDEG
import Derived.Test.YtallnifoeahpiaaDRC
import Derived.Test.YtallnifoeahpiaaDW
namespace Go.Proofs.Ytallnifoeahpiaa
open Go Go.Sx
set_option linter.unusedVariables false


def F4 (fuel:Nat)  (p_c:S_api_EdCase) (sheet:Int):Option (Bool) :=
 (F25 fuel p_c sheet).bind fun x1=>(F26 fuel p_c sheet).bind fun x2=>if (cond (!((x1.1.Lo==x2.1.Lo)&&(x1.1.Hi==x2.1.Hi))) true (x1.2 != x2.2)) then (some false) else ((F27 fuel p_c).bind fun x4=>(F28 fuel p_c).bind fun x5=>(F29 fuel x4.1 x5.1).bind fun x6=>(optG (cond (cond x6 (x4.2.1==x5.2.1) false) (x4.2.2==x5.2.2) false) (F24 fuel)).bind fun x7=>some (cond (cond (cond x6 (x4.2.1==x5.2.1) false) (x4.2.2==x5.2.2) false) x7 false))
end Go.Proofs.Ytallnifoeahpiaa
