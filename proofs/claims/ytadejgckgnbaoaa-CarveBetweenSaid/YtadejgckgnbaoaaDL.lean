/- What functions of the seat compute. Printed by a program of mine. -/
import Derived.Test.YtadejgckgnbaoaaP
import Derived.Test.YtadejgckgnbaoaaDA
import Derived.Test.YtadejgckgnbaoaaDK
import Derived.Test.YtadejgckgnbaoaaDV
import Derived.Test.YtadejgckgnbaoaaDY
namespace Go.Proofs.Ytadejgckgnbaoaa
open Go Go.Sx
set_option linter.unusedVariables false

-- hachure/hachurelaw04.CarveLeast P
def F9L1 (fuel : Nat) (p_r : S_api_CvRow) (x6 : Bool) (x7 : Int) (x9 : Int) : Nat → Int → Option ((Bool) ⊕ (Unit))
  | 0, _ => none
  | n12 + 1, c11 => if (decide (c11 < 2)) then ((F36 fuel p_r (c11 == 1)).bind fun x14 => if (x14.2.2.2 != 0) then (if (cond (cond (x14.2.2.2 != 9) true x6) true (decide ((x14.1.length : Int) > 0))) then (some (.inl false)) else (F9L1 fuel p_r x6 x7 x9 n12 (w64 (c11 + 1)))) else ((F42 fuel p_r x14.1).bind fun x17 => (optG (!(!x17)) (F43 fuel p_r x14.1)).bind fun x18 => (optG (!(cond (!x17) true (x14.2.1 != x18))) (F45 fuel p_r x14.1)).bind fun x19 => (optG (!(cond (!x17) true (x14.2.1 != x18))) (F44 fuel x19)).bind fun x20 => if (cond (cond (!x17) true (x14.2.1 != x18)) true (x14.2.2.1 != x20)) then (some (.inl false)) else (if (cond (cond (cond x6 (c11 == 0) false) (cond (decide (x7 < x14.2.1)) true (cond (x7 == x14.2.1) (decide (x9 < x14.2.2.1)) false)) false) true (cond (cond x6 (c11 == 1) false) (cond (decide (x9 < x14.2.2.1)) true (cond (x9 == x14.2.2.1) (decide (x7 < x14.2.1)) false)) false)) then (some (.inl false)) else (F9L1 fuel p_r x6 x7 x9 n12 (w64 (c11 + 1)))))) else (some (.inr ()))

def F9 (fuel : Nat)  (p_r : S_api_CvRow) (p_x : (List Int)) : Option (Bool) :=
  (F40 fuel p_r).bind fun x1 => if (!x1) then ((F36 fuel p_r true).bind fun x3 => (optG (x3.2.2.2 != 0) (F25 fuel)).bind fun x4 => some (cond (x3.2.2.2 != 0) x4 false)) else ((F41 fuel p_r p_x).bind fun x5 => (F42 fuel p_r x5).bind fun x6 => (F43 fuel p_r x5).bind fun x7 => (F45 fuel p_r x5).bind fun x8 => (F44 fuel x8).bind fun x9 => (F9L1 fuel p_r x6 x7 x9 fuel 0).bind fun o10 => outK o10 (fun (ro10 : Bool) => some ro10) (fun (so10 : Unit) => (F25 fuel).bind fun x23 => some x23))
end Go.Proofs.Ytadejgckgnbaoaa
