/- What functions of the seat compute. Printed by a program of mine. -/
import Derived.Test.YtpkhbbboedoldaaP
import Derived.Test.YtpkhbbboedoldaaDE
namespace Go.Proofs.Ytpkhbbboedoldaa
open Go Go.Sx
set_option linter.unusedVariables false

-- hachure/colour.Unsure P
def F24L1 (x3 : S_colour_chart) : Nat → (Int × (List Int)) → Option (((List Int) × Int) ⊕ ((List Int)))
  | 0, _ => none
  | n7 + 1, c6 => if (decide (c6.1 < (x3.bands.length : Int))) then ((idx x3.bands c6.1).bind fun x9 => if (x9.Lo != x9.Hi) then ((need ((c6.2.length + ([c6.1] : List Int).length) * 8 ≤ 140737488355328 ∧ c6.2.length + ([c6.1] : List Int).length ≤ 9223372036854775807)).bind fun x11 => F24L1 x3 n7 ((w64 (c6.1 + 1)), (c6.2 ++ ([c6.1] : List Int)))) else (F24L1 x3 n7 ((w64 (c6.1 + 1)), c6.2))) else (some (.inr c6.2))

def F24 (fuel : Nat)  (p_m : S_api_ClMap) (legend : (List Int)) : Option ((List Int) × Int) :=
  (F64 fuel p_m legend).bind fun x1 => if (x1.2 != 0) then (some (([] : List Int), x1.2)) else ((x1.1).bind fun x3 => (F24L1 x3 fuel (0, ([] : List Int))).bind fun o5 => outK o5 (fun (ro5 : (List Int) × Int) => some ro5) (fun (so5 : (List Int)) => some (so5, 0)))

-- hachure/colour.Bands P
def F21 (fuel : Nat)  (p_m : S_api_ClMap) (legend : (List Int)) : Option ((List S_api_Span) × Int) :=
  (F64 fuel p_m legend).bind fun x1 => if (x1.2 != 0) then (some (([] : List S_api_Span), x1.2)) else ((x1.1).bind fun x3 => some (x3.bands, 0))

-- hachure/colour.Meets P
def F27L2 (c7 : Int × (List S_api_ClPair)) (x13 : List Int) : Nat → (Int × (List S_api_ClPair)) → Option (((List S_api_ClPair) × Int) ⊕ ((List S_api_ClPair)))
  | 0, _ => none
  | n16 + 1, c15 => if (decide (c15.1 < 6)) then ((need (0 ≤ c15.1 ∧ c15.1 < 6)).bind fun x18 => (x13[0 + c15.1.toNat * 1]?).bind fun x19 => if (cond (decide (c7.1 < c15.1)) (decide (x19 > 0)) false) then ((need ((c15.2.length + ([(⟨c7.1, c15.1⟩ : S_api_ClPair)] : List S_api_ClPair).length) * 16 ≤ 140737488355328 ∧ c15.2.length + ([(⟨c7.1, c15.1⟩ : S_api_ClPair)] : List S_api_ClPair).length ≤ 9223372036854775807)).bind fun x21 => F27L2 c7 x13 n16 ((w64 (c15.1 + 1)), (c15.2 ++ ([(⟨c7.1, c15.1⟩ : S_api_ClPair)] : List S_api_ClPair)))) else (F27L2 c7 x13 n16 ((w64 (c15.1 + 1)), c15.2))) else (some (.inr c15.2))

def F27L1 (fuel : Nat) (x4 : List Int) : Nat → (Int × (List S_api_ClPair)) → Option (((List S_api_ClPair) × Int) ⊕ ((List S_api_ClPair)))
  | 0, _ => none
  | n8 + 1, c7 => if (decide (c7.1 < 6)) then ((need (0 ≤ c7.1 ∧ c7.1 < 6)).bind fun x10 => (cutN x4 (0 + c7.1.toNat * 6) 6).bind fun x11 => (need (x11.length = 6)).bind fun x12 => (cutN x11 0 6).bind fun x13 => (F27L2 c7 x13 fuel (0, c7.2)).bind fun o14 => outK o14 (fun (ro14 : (List S_api_ClPair) × Int) => some (.inl ro14)) (fun (so14 : (List S_api_ClPair)) => F27L1 fuel x4 n8 ((w64 (c7.1 + 1)), so14))) else (some (.inr c7.2))

def F27 (fuel : Nat)  (p_m : S_api_ClMap) (legend : (List Int)) : Option ((List S_api_ClPair) × Int) :=
  (F64 fuel p_m legend).bind fun x1 => if (x1.2 != 0) then (some (([] : List S_api_ClPair), x1.2)) else ((x1.1).bind fun x3 => (cutN x3.vec 0 36).bind fun x4 => (F27L1 fuel x4 fuel (0, ([] : List S_api_ClPair))).bind fun o6 => outK o6 (fun (ro6 : (List S_api_ClPair) × Int) => some ro6) (fun (so6 : (List S_api_ClPair)) => some (so6, 0)))
end Go.Proofs.Ytpkhbbboedoldaa
