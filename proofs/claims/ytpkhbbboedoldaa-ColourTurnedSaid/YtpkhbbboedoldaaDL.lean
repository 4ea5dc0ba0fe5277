/- What functions of the seat compute. Printed by a program of mine. -/
import Derived.Test.YtpkhbbboedoldaaP
import Derived.Test.YtpkhbbboedoldaaDA
import Derived.Test.YtpkhbbboedoldaaDT
import Derived.Test.YtpkhbbboedoldaaDW
namespace Go.Proofs.Ytpkhbbboedoldaa
open Go Go.Sx
set_option linter.unusedVariables false

-- hachure/hachurelaw09.ColourTurned P
def F16L1 (p_m : S_api_ClMap) : Nat → (Int × (List S_api_Span)) → Option ((Bool) ⊕ ((List S_api_Span)))
  | 0, _ => none
  | n7 + 1, c6 => if (decide (c6.1 ≥ 0)) then ((idx p_m.Borders c6.1).bind fun x9 => (idx p_m.Borders c6.1).bind fun x10 => (F47 (w64 (9001 - x9.Hi)) (w64 (9001 - x10.Lo))).bind fun x11 => (need ((c6.2.length + ([(⟨x11.Lo, x11.Hi⟩ : S_api_Span)] : List S_api_Span).length) * 16 ≤ 140737488355328 ∧ c6.2.length + ([(⟨x11.Lo, x11.Hi⟩ : S_api_Span)] : List S_api_Span).length ≤ 9223372036854775807)).bind fun x12 => F16L1 p_m n7 ((w64 (c6.1 - 1)), (c6.2 ++ ([(⟨x11.Lo, x11.Hi⟩ : S_api_Span)] : List S_api_Span)))) else (some (.inr c6.2))

def F16L2 (p_m : S_api_ClMap) : Nat → (Int × (List S_api_Span)) → Option ((Bool) ⊕ ((List S_api_Span)))
  | 0, _ => none
  | n16 + 1, c15 => if (decide (c15.1 < (p_m.Heights.length : Int))) then ((idx p_m.Heights c15.1).bind fun x18 => (idx p_m.Heights c15.1).bind fun x19 => (F47 (w64 (9000 - x18.Hi)) (w64 (9000 - x19.Lo))).bind fun x20 => (need ((c15.2.length + ([(⟨x20.Lo, x20.Hi⟩ : S_api_Span)] : List S_api_Span).length) * 16 ≤ 140737488355328 ∧ c15.2.length + ([(⟨x20.Lo, x20.Hi⟩ : S_api_Span)] : List S_api_Span).length ≤ 9223372036854775807)).bind fun x21 => F16L2 p_m n16 ((w64 (c15.1 + 1)), (c15.2 ++ ([(⟨x20.Lo, x20.Hi⟩ : S_api_Span)] : List S_api_Span)))) else (some (.inr c15.2))

def F16L3 (x28 : (List Int)) : Nat → (Int × (List Int)) → Option ((Bool) ⊕ ((List Int)))
  | 0, _ => none
  | n35 + 1, c34 => if (decide (c34.1 ≥ 0)) then ((idx x28 c34.1).bind fun x37 => (need ((c34.2.length + ([(w64 (9001 - x37))] : List Int).length) * 8 ≤ 140737488355328 ∧ c34.2.length + ([(w64 (9001 - x37))] : List Int).length ≤ 9223372036854775807)).bind fun x38 => F16L3 x28 n35 ((w64 (c34.1 - 1)), (c34.2 ++ ([(w64 (9001 - x37))] : List Int)))) else (some (.inr c34.2))

def F16L4 (x28 : (List Int)) (x39 : (List S_api_Span) × Int) (x40 : (List S_api_Span) × Int) : Nat → Int → Option ((Bool) ⊕ (Unit))
  | 0, _ => none
  | n44 + 1, c43 => if (decide (c43 < (x39.1.length : Int))) then ((idx x40.1 c43).bind fun x46 => (idx x39.1 c43).bind fun x47 => (idx x39.1 c43).bind fun x48 => (F47 (w64 ((x28.length : Int) - x47.Hi)) (w64 ((x28.length : Int) - x48.Lo))).bind fun x49 => if (!((x46.Lo == x49.Lo) && (x46.Hi == x49.Hi))) then (some (.inl false)) else (F16L4 x28 x39 x40 n44 (w64 (c43 + 1)))) else (some (.inr ()))

def F16 (fuel : Nat)  (p_m : S_api_ClMap) (p_x : (List Int)) : Option (Bool) :=
  (F39 fuel p_m).bind fun x1 => if (!x1) then ((F30 fuel).bind fun x3 => some x3) else ((F16L1 p_m fuel ((w64 ((p_m.Borders.length : Int) - 1)), ([] : List S_api_Span))).bind fun o5 => outK o5 (fun (ro5 : Bool) => some ro5) (fun (so5 : (List S_api_Span)) => (F16L2 p_m fuel (0, ([] : List S_api_Span))).bind fun o14 => outK o14 (fun (ro14 : Bool) => some ro14) (fun (so14 : (List S_api_Span)) => (F39 fuel (⟨so5, p_m.Step, so14, p_m.Sides, p_m.Inks, p_m.Like⟩ : S_api_ClMap)).bind fun x22 => if (!x22) then ((F30 fuel).bind fun x24 => some x24) else ((F35 fuel p_m).bind fun x25 => (F35 fuel (⟨so5, p_m.Step, so14, p_m.Sides, p_m.Inks, p_m.Like⟩ : S_api_ClMap)).bind fun x26 => if (cond (x25.2.1 != x26.2.1) true (x25.2.2 != x26.2.2)) then (some false) else ((F40 fuel p_m p_x).bind fun x28 => (F41 fuel p_m x28).bind fun x29 => if (!x29) then ((F30 fuel).bind fun x31 => some x31) else ((F16L3 x28 fuel ((w64 ((x28.length : Int) - 1)), ([] : List Int))).bind fun o33 => outK o33 (fun (ro33 : Bool) => some ro33) (fun (so33 : (List Int)) => (F21 fuel p_m x28).bind fun x39 => (F21 fuel (⟨so5, p_m.Step, so14, p_m.Sides, p_m.Inks, p_m.Like⟩ : S_api_ClMap) so33).bind fun x40 => if (cond (cond (x39.2 != 0) true (x40.2 != 0)) true ((x39.1.length : Int) != (x40.1.length : Int))) then (some false) else ((F16L4 x28 x39 x40 fuel 0).bind fun o42 => outK o42 (fun (ro42 : Bool) => some ro42) (fun (so42 : Unit) => (F30 fuel).bind fun x51 => some x51)))))))))
end Go.Proofs.Ytpkhbbboedoldaa
