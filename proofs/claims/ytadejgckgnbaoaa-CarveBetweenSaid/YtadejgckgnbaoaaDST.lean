/- What functions of the seat compute. Printed by a program of mine. -/
import Derived.Test.YtadejgckgnbaoaaP
import Derived.Test.YtadejgckgnbaoaaDA
import Derived.Test.YtadejgckgnbaoaaDV
namespace Go.Proofs.Ytadejgckgnbaoaa
open Go Go.Sx
set_option linter.unusedVariables false

-- hachure/hachurelaw04.CarveSteeper P
def F11 (fuel : Nat)  (p_r : S_api_CvRow) (less : Int) : Option (Bool) :=
  (F23 fuel p_r).bind fun x1 => (F40 fuel p_r).bind fun x2 => if (!x2) then ((optG (cond (x1.2 != 0) (x1.1 == 0) false) (F25 fuel)).bind fun x4 => some (cond (cond (x1.2 != 0) (x1.1 == 0) false) x4 false)) else ((F18 fuel p_r).bind fun x5 => if (cond (cond (x1.2 != 0) true (decide (x1.1 < 0))) true (!((x5.2 == 0) == (decide (x1.1 ≤ p_r.Steep))))) then (some false) else (if (decide (x1.1 > 200)) then ((F25 fuel).bind fun x8 => some x8) else ((F18 fuel (⟨x1.1, p_r.Points⟩ : S_api_CvRow)).bind fun x9 => if (x9.2 != 0) then (some false) else (if (x1.1 == 0) then ((F25 fuel).bind fun x12 => some x12) else ((need (x1.1 ≠ 0)).bind fun x13 => (F18 fuel (⟨((IntKind.i64.wrap less).tmod x1.1), p_r.Points⟩ : S_api_CvRow)).bind fun x14 => (optG (x14.2 == 9) (F25 fuel)).bind fun x15 => some (cond (x14.2 == 9) x15 false))))))
end Go.Proofs.Ytadejgckgnbaoaa
