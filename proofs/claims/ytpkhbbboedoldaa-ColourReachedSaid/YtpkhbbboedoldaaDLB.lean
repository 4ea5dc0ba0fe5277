/- What functions of the seat compute. Printed by a program of mine. -/
import Derived.Test.YtpkhbbboedoldaaP
namespace Go.Proofs.Ytpkhbbboedoldaa
open Go Go.Sx
set_option linter.unusedVariables false

-- hachure/hachurelaw09.band P
def F42L1 (legend : (List Int)) (high : Int) : Nat → (Int × Int) → Option ((Int) ⊕ (Int))
  | 0, _ => none
  | n3 + 1, c2 => if (decide (c2.2 < (legend.length : Int))) then ((idx legend c2.2).bind fun x5 => if (decide (x5 ≤ high)) then (F42L1 legend high n3 ((w64 (c2.1 + 1)), (w64 (c2.2 + 1)))) else (F42L1 legend high n3 (c2.1, (w64 (c2.2 + 1))))) else (some (.inr c2.1))

def F42 (fuel : Nat)  (legend : (List Int)) (high : Int) : Option (Int) :=
  (F42L1 legend high fuel (0, 0)).bind fun o1 => outK o1 (fun (ro1 : Int) => some ro1) (fun (so1 : Int) => some so1)

-- hachure/hachurelaw09.in P
def F45  (p_n : Int) (p_s : S_api_Span) : Option (Bool) :=
  some (cond (decide (p_n ≥ p_s.Lo)) (decide (p_n ≤ p_s.Hi)) false)
end Go.Proofs.Ytpkhbbboedoldaa
