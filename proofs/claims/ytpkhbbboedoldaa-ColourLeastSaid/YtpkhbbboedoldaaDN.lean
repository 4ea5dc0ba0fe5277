/- What functions of the seat compute. Printed by a program of mine. -/
import Derived.Test.YtpkhbbboedoldaaP
import Derived.Test.YtpkhbbboedoldaaDA
import Derived.Test.YtpkhbbboedoldaaDT
import Derived.Test.YtpkhbbboedoldaaDW
namespace Go.Proofs.Ytpkhbbboedoldaa
open Go Go.Sx
set_option linter.unusedVariables false

-- hachure/hachurelaw09.ColourLeast P
def F12 (fuel : Nat)  (p_m : S_api_ClMap) (p_x : (List Int)) : Option (Bool) :=
  (F35 fuel p_m).bind fun x1 => (F39 fuel p_m).bind fun x2 => if (!x2) then ((optG (cond (cond (x1.2.2 != 0) ((x1.1.length : Int) == 0) false) (x1.2.1 == 0) false) (F30 fuel)).bind fun x4 => some (cond (cond (cond (x1.2.2 != 0) ((x1.1.length : Int) == 0) false) (x1.2.1 == 0) false) x4 false)) else ((F40 fuel p_m p_x).bind fun x5 => if (x1.2.2 != 0) then ((optG (cond (cond (x1.2.2 == 9) ((x1.1.length : Int) == 0) false) (x1.2.1 == 0) false) (F41 fuel p_m x5)).bind fun x7 => (optG (cond (cond (cond (x1.2.2 == 9) ((x1.1.length : Int) == 0) false) (x1.2.1 == 0) false) (!x7) false) (F30 fuel)).bind fun x8 => some (cond (cond (cond (cond (x1.2.2 == 9) ((x1.1.length : Int) == 0) false) (x1.2.1 == 0) false) (!x7) false) x8 false)) else ((F24 fuel p_m x1.1).bind fun x9 => (F24 fuel p_m x5).bind fun x10 => (F41 fuel p_m x1.1).bind fun x11 => (optG (cond (cond x11 (x9.2 == 0) false) ((x9.1.length : Int) == x1.2.1) false) (F41 fuel p_m x5)).bind fun x12 => (optG (cond (cond (cond (cond x11 (x9.2 == 0) false) ((x9.1.length : Int) == x1.2.1) false) ((x10.2 == 0) == x12) false) (cond (x10.2 != 0) true (decide ((x10.1.length : Int) ≥ x1.2.1))) false) (F30 fuel)).bind fun x13 => some (cond (cond (cond (cond (cond x11 (x9.2 == 0) false) ((x9.1.length : Int) == x1.2.1) false) ((x10.2 == 0) == x12) false) (cond (x10.2 != 0) true (decide ((x10.1.length : Int) ≥ x1.2.1))) false) x13 false)))
end Go.Proofs.Ytpkhbbboedoldaa
