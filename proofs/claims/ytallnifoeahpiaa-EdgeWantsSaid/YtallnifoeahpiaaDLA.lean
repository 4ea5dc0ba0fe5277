/- What functions of the seat compute. Printed by a program of mine. -/
import Derived.Test.YtallnifoeahpiaaP
import Derived.Test.YtallnifoeahpiaaDEA
import Derived.Test.YtallnifoeahpiaaDEB
import Derived.Test.YtallnifoeahpiaaDEC
import Derived.Test.YtallnifoeahpiaaDRA
import Derived.Test.YtallnifoeahpiaaDRB
import Derived.Test.YtallnifoeahpiaaDW
namespace Go.Proofs.Ytallnifoeahpiaa
open Go Go.Sx
set_option linter.unusedVariables false

-- hachure/hachurelaw02.EdgeWants P
def F3 (fuel : Nat)  (p_c : S_api_EdCase) (i : Int) (changes : (List Int)) : Option (Bool) :=
  (F16 fuel p_c).bind fun x1 => (F17 fuel p_c).bind fun x2 => if (cond (cond (x1.1 != x2.1) true (x1.2.1 != x2.2.1)) true (x1.2.2 != x2.2.2)) then (some false) else ((F18 fuel p_c i).bind fun x4 => (F19 fuel p_c i).bind fun x5 => if (cond (!((x4.1.Lo == x5.1.Lo) && (x4.1.Hi == x5.1.Hi))) true (x4.2 != x5.2)) then (some false) else ((F20 fuel p_c changes).bind fun x7 => (F21 fuel p_c changes).bind fun x8 => if (cond (x7.1 != x8.1) true (x7.2 != x8.2)) then (some false) else ((F22 fuel p_c changes).bind fun x10 => (F23 fuel p_c changes).bind fun x11 => (optG (cond (x10.1 == x11.1) (x10.2 == x11.2) false) (F24 fuel)).bind fun x12 => some (cond (cond (x10.1 == x11.1) (x10.2 == x11.2) false) x12 false))))
end Go.Proofs.Ytallnifoeahpiaa
