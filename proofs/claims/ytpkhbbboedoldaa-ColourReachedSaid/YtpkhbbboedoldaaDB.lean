/- What functions of the seat compute. Printed by a program of mine. -/
import Derived.Test.YtpkhbbboedoldaaP
import Derived.Test.YtpkhbbboedoldaaDA
import Derived.Test.YtpkhbbboedoldaaDE
import Derived.Test.YtpkhbbboedoldaaDH
import Derived.Test.YtpkhbbboedoldaaDQ
import Derived.Test.YtpkhbbboedoldaaDW
namespace Go.Proofs.Ytpkhbbboedoldaa
open Go Go.Sx
set_option linter.unusedVariables false

-- hachure/hachureref09.Bands P
def F22 (fuel : Nat)  (p_m : S_api_ClMap) (legend : (List Int)) : Option ((List S_api_Span) × Int) :=
  (F20 fuel p_m legend).bind fun x1 => if (x1.2 != 0) then (some (([] : List S_api_Span), x1.2)) else ((F65 fuel p_m legend).bind fun x3 => some (x3, 0))

-- hachure/hachureref09.Doubt P
def F66L1 (x1 : (List S_api_Span)) : Nat → (Int × (List Int)) → Option (((List Int)) ⊕ ((List Int)))
  | 0, _ => none
  | n5 + 1, c4 => if (decide (c4.1 < (x1.length : Int))) then ((idx x1 c4.1).bind fun x7 => (idx x1 c4.1).bind fun x8 => if (decide (x7.Lo < x8.Hi)) then ((need ((c4.2.length + ([c4.1] : List Int).length) * 8 ≤ 140737488355328 ∧ c4.2.length + ([c4.1] : List Int).length ≤ 9223372036854775807)).bind fun x10 => F66L1 x1 n5 ((w64 (c4.1 + 1)), (c4.2 ++ ([c4.1] : List Int)))) else (F66L1 x1 n5 ((w64 (c4.1 + 1)), c4.2))) else (some (.inr c4.2))

def F66 (fuel : Nat)  (p_m : S_api_ClMap) (legend : (List Int)) : Option ((List Int)) :=
  (F65 fuel p_m legend).bind fun x1 => (F66L1 x1 fuel (0, ([] : List Int))).bind fun o3 => outK o3 (fun (ro3 : (List Int)) => some ro3) (fun (so3 : (List Int)) => some so3)

-- hachure/hachureref09.Unsure P
def F25 (fuel : Nat)  (p_m : S_api_ClMap) (legend : (List Int)) : Option ((List Int) × Int) :=
  (F20 fuel p_m legend).bind fun x1 => if (x1.2 != 0) then (some (([] : List Int), x1.2)) else ((F66 fuel p_m legend).bind fun x3 => some (x3, 0))

-- hachure/hachureref09.Meets P
def F28 (fuel : Nat)  (p_m : S_api_ClMap) (legend : (List Int)) : Option ((List S_api_ClPair) × Int) :=
  (F20 fuel p_m legend).bind fun x1 => if (x1.2 != 0) then (some (([] : List S_api_ClPair), x1.2)) else ((F67 fuel p_m legend).bind fun x3 => some (x3, 0))

-- hachure/hachurelaw09.ColourBands P
def F3 (fuel : Nat)  (p_m : S_api_ClMap) (legend : (List Int)) : Option (Bool) :=
  (F17 fuel p_m).bind fun x1 => (F18 fuel p_m).bind fun x2 => if (cond (cond (x1.1 != x2.1) true (x1.2.1 != x2.2.1)) true (x1.2.2 != x2.2.2)) then (some false) else ((F19 fuel p_m legend).bind fun x4 => (F20 fuel p_m legend).bind fun x5 => if (cond (x4.1 != x5.1) true (x4.2 != x5.2)) then (some false) else ((F21 fuel p_m legend).bind fun x7 => (F22 fuel p_m legend).bind fun x8 => (F23 fuel x7.1 x8.1).bind fun x9 => if (cond (!x9) true (x7.2 != x8.2)) then (some false) else ((F24 fuel p_m legend).bind fun x11 => (F25 fuel p_m legend).bind fun x12 => (F26 fuel x11.1 x12.1).bind fun x13 => if (cond (!x13) true (x11.2 != x12.2)) then (some false) else ((F27 fuel p_m legend).bind fun x15 => (F28 fuel p_m legend).bind fun x16 => (F29 fuel x15.1 x16.1).bind fun x17 => (optG (cond x17 (x15.2 == x16.2) false) (F30 fuel)).bind fun x18 => some (cond (cond x17 (x15.2 == x16.2) false) x18 false)))))
end Go.Proofs.Ytpkhbbboedoldaa
