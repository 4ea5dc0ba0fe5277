/- What functions of the seat compute. Printed by a program of mine. -/
import Derived.Test.YtadejgckgnbaoaaP
import Derived.Test.YtadejgckgnbaoaaDA
import Derived.Test.YtadejgckgnbaoaaDV
import Derived.Test.YtadejgckgnbaoaaDY
namespace Go.Proofs.Ytadejgckgnbaoaa
open Go Go.Sx
set_option linter.unusedVariables false

-- hachure/hachurelaw04.CarvePrevents P
def F8 (fuel : Nat)  (p_r : S_api_CvRow) (p_x : (List Int)) : Option (Bool) :=
  (F21 fuel p_r).bind fun x1 => (F40 fuel p_r).bind fun x2 => if (!x2) then ((optG (cond (cond (x1.2.2 != 0) (x1.1 == 0) false) (x1.2.1 == 0) false) (F25 fuel)).bind fun x4 => some (cond (cond (cond (x1.2.2 != 0) (x1.1 == 0) false) (x1.2.1 == 0) false) x4 false)) else ((F18 fuel p_r).bind fun x5 => if (x1.2.2 != 0) then ((optG (cond (cond (cond (x1.2.2 == 4) (x1.1 == 0) false) (x1.2.1 == 0) false) (x5.2 == 0) false) (F25 fuel)).bind fun x7 => some (cond (cond (cond (cond (x1.2.2 == 4) (x1.1 == 0) false) (x1.2.1 == 0) false) (x5.2 == 0) false) x7 false)) else (if (cond (cond (decide (x1.1 < 0)) true (decide (x1.1 > x1.2.1))) true (decide (x1.2.1 ≥ (p_r.Points.length : Int)))) then (some false) else ((idx p_r.Points x1.1).bind fun x9 => (idx p_r.Points x1.2.1).bind fun x10 => (optG (cond (x5.2 == 9) (cond (decide (x9.Lo > (w64 (x10.Hi + (w64 ((w64 (x1.2.1 - x1.1)) * p_r.Steep)))))) true (decide (x10.Lo > (w64 (x9.Hi + (w64 ((w64 (x1.2.1 - x1.1)) * p_r.Steep))))))) false) (F41 fuel p_r p_x)).bind fun x11 => (optG (cond (x5.2 == 9) (cond (decide (x9.Lo > (w64 (x10.Hi + (w64 ((w64 (x1.2.1 - x1.1)) * p_r.Steep)))))) true (decide (x10.Lo > (w64 (x9.Hi + (w64 ((w64 (x1.2.1 - x1.1)) * p_r.Steep))))))) false) (F42 fuel p_r x11)).bind fun x12 => (optG (cond (cond (x5.2 == 9) (cond (decide (x9.Lo > (w64 (x10.Hi + (w64 ((w64 (x1.2.1 - x1.1)) * p_r.Steep)))))) true (decide (x10.Lo > (w64 (x9.Hi + (w64 ((w64 (x1.2.1 - x1.1)) * p_r.Steep))))))) false) (!x12) false) (F25 fuel)).bind fun x13 => some (cond (cond (cond (x5.2 == 9) (cond (decide (x9.Lo > (w64 (x10.Hi + (w64 ((w64 (x1.2.1 - x1.1)) * p_r.Steep)))))) true (decide (x10.Lo > (w64 (x9.Hi + (w64 ((w64 (x1.2.1 - x1.1)) * p_r.Steep))))))) false) (!x12) false) x13 false))))
end Go.Proofs.Ytadejgckgnbaoaa
