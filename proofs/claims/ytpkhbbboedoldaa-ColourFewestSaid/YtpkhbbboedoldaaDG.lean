/- What functions of the seat compute. Printed by a program of mine. -/
import Derived.Test.YtpkhbbboedoldaaP
import Derived.Test.YtpkhbbboedoldaaDM
import Derived.Test.YtpkhbbboedoldaaDP
import Derived.Test.YtpkhbbboedoldaaDR
import Derived.Test.YtpkhbbboedoldaaDT
import Derived.Test.YtpkhbbboedoldaaDW
namespace Go.Proofs.Ytpkhbbboedoldaa
open Go Go.Sx
set_option linter.unusedVariables false

-- hachure/hachurelaw09.Inks P
def F50L1 (p_m : S_api_ClMap) (p_x : (List Int)) : Nat → (Int × (List Int)) → Option (((List Int)) ⊕ ((List Int)))
  | 0, _ => none
  | n4 + 1, c3 => if (decide (c3.1 ≤ (p_m.Borders.length : Int))) then ((F44 p_x c3.1).bind fun x6 => (need (p_m.Inks ≠ 0)).bind fun x7 => (need ((c3.2.length + ([(x6.tmod p_m.Inks)] : List Int).length) * 8 ≤ 140737488355328 ∧ c3.2.length + ([(x6.tmod p_m.Inks)] : List Int).length ≤ 9223372036854775807)).bind fun x8 => F50L1 p_m p_x n4 ((w64 (c3.1 + 1)), (c3.2 ++ ([(x6.tmod p_m.Inks)] : List Int)))) else (some (.inr c3.2))

def F50 (fuel : Nat)  (p_m : S_api_ClMap) (p_x : (List Int)) : Option ((List Int)) :=
  (F50L1 p_m p_x fuel (0, ([] : List Int))).bind fun o2 => outK o2 (fun (ro2 : (List Int)) => some ro2) (fun (so2 : (List Int)) => some so2)

-- hachure/hachurelaw09.ColourFewest P
def F10 (fuel : Nat)  (p_m : S_api_ClMap) (p_x : (List Int)) (y : (List Int)) : Option (Bool) :=
  (F39 fuel p_m).bind fun x1 => if (!x1) then ((F30 fuel).bind fun x3 => some x3) else ((F40 fuel p_m p_x).bind fun x4 => (F41 fuel p_m x4).bind fun x5 => if (!x5) then ((F30 fuel).bind fun x7 => some x7) else ((F31 fuel p_m x4).bind fun x8 => (F50 fuel p_m y).bind fun x9 => (F33 fuel p_m x4 x9).bind fun x10 => if (x10.2 != 0) then (some false) else (if (x8.2.2 != 0) then ((optG (cond (x8.2.2 == 9) (decide ((x10.1.length : Int) > 0)) false) (F30 fuel)).bind fun x13 => some (cond (cond (x8.2.2 == 9) (decide ((x10.1.length : Int) > 0)) false) x13 false)) else ((optG ((decide (x8.2.1 > 0)) && (!(decide ((x10.1.length : Int) > 0)))) (F48 fuel x9)).bind fun x14 => (optG (cond (decide (x8.2.1 > 0)) (cond (decide ((x10.1.length : Int) > 0)) true (decide (x14 ≥ x8.2.1))) false) (F30 fuel)).bind fun x15 => some (cond (cond (decide (x8.2.1 > 0)) (cond (decide ((x10.1.length : Int) > 0)) true (decide (x14 ≥ x8.2.1))) false) x15 false)))))
end Go.Proofs.Ytpkhbbboedoldaa
