/- What functions of the seat compute. Printed by a program of mine. -/
import Derived.Test.YtpkhbbboedoldaaP
import Derived.Test.YtpkhbbboedoldaaDLG
namespace Go.Proofs.Ytpkhbbboedoldaa
open Go Go.Sx
set_option linter.unusedVariables false

-- hachure/hachurelaw09.Inks P
def F50L1 (p_m : S_api_ClMap) (p_x : (List Int)) : Nat → (Int × (List Int)) → Option (((List Int)) ⊕ ((List Int)))
  | 0, _ => none
  | n4 + 1, c3 => if (decide (c3.1 ≤ (p_m.Borders.length : Int))) then ((F44 p_x c3.1).bind fun x6 => (need (p_m.Inks ≠ 0)).bind fun x7 => (need ((c3.2.length + ([(x6.tmod p_m.Inks)] : List Int).length) * 8 ≤ 140737488355328 ∧ c3.2.length + ([(x6.tmod p_m.Inks)] : List Int).length ≤ 9223372036854775807)).bind fun x8 => F50L1 p_m p_x n4 ((w64 (c3.1 + 1)), (c3.2 ++ ([(x6.tmod p_m.Inks)] : List Int)))) else (some (.inr c3.2))

def F50 (fuel : Nat)  (p_m : S_api_ClMap) (p_x : (List Int)) : Option ((List Int)) :=
  (F50L1 p_m p_x fuel (0, ([] : List Int))).bind fun o2 => outK o2 (fun (ro2 : (List Int)) => some ro2) (fun (so2 : (List Int)) => some so2)
end Go.Proofs.Ytpkhbbboedoldaa
