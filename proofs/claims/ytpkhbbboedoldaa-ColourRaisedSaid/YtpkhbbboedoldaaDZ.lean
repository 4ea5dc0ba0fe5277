/- What functions of the seat compute. Printed by a program of mine. -/
import Derived.Test.YtpkhbbboedoldaaP
import Derived.Test.YtpkhbbboedoldaaDA
import Derived.Test.YtpkhbbboedoldaaDLG
import Derived.Test.YtpkhbbboedoldaaDP
import Derived.Test.YtpkhbbboedoldaaDW
namespace Go.Proofs.Ytpkhbbboedoldaa
open Go Go.Sx
set_option linter.unusedVariables false

-- hachure/hachurelaw09.ColourRaised P
def F14L1 (p_m : S_api_ClMap) (by_ : Int) : Nat → (Int × (List S_api_Span)) → Option ((Bool) ⊕ ((List S_api_Span)))
  | 0, _ => none
  | n7 + 1, c6 => if (decide (c6.1 < (p_m.Borders.length : Int))) then ((idx p_m.Borders c6.1).bind fun x9 => (idx p_m.Borders c6.1).bind fun x10 => (F47 (w64 (x9.Lo + (IntKind.i64.wrap by_))) (w64 (x10.Hi + (IntKind.i64.wrap by_)))).bind fun x11 => (need ((c6.2.length + ([(⟨x11.Lo, x11.Hi⟩ : S_api_Span)] : List S_api_Span).length) * 16 ≤ 140737488355328 ∧ c6.2.length + ([(⟨x11.Lo, x11.Hi⟩ : S_api_Span)] : List S_api_Span).length ≤ 9223372036854775807)).bind fun x12 => F14L1 p_m by_ n7 ((w64 (c6.1 + 1)), (c6.2 ++ ([(⟨x11.Lo, x11.Hi⟩ : S_api_Span)] : List S_api_Span)))) else (some (.inr c6.2))

def F14L2 (p_m : S_api_ClMap) (by_ : Int) : Nat → (Int × (List S_api_Span)) → Option ((Bool) ⊕ ((List S_api_Span)))
  | 0, _ => none
  | n16 + 1, c15 => if (decide (c15.1 < (p_m.Heights.length : Int))) then ((idx p_m.Heights c15.1).bind fun x18 => (idx p_m.Heights c15.1).bind fun x19 => (F47 (w64 (x18.Lo + (IntKind.i64.wrap by_))) (w64 (x19.Hi + (IntKind.i64.wrap by_)))).bind fun x20 => (need ((c15.2.length + ([(⟨x20.Lo, x20.Hi⟩ : S_api_Span)] : List S_api_Span).length) * 16 ≤ 140737488355328 ∧ c15.2.length + ([(⟨x20.Lo, x20.Hi⟩ : S_api_Span)] : List S_api_Span).length ≤ 9223372036854775807)).bind fun x21 => F14L2 p_m by_ n16 ((w64 (c15.1 + 1)), (c15.2 ++ ([(⟨x20.Lo, x20.Hi⟩ : S_api_Span)] : List S_api_Span)))) else (some (.inr c15.2))

def F14L3 (by_ : Int) (x25 : (List Int)) : Nat → (Int × (List Int)) → Option ((Bool) ⊕ ((List Int)))
  | 0, _ => none
  | n29 + 1, c28 => if (decide (c28.1 < (x25.length : Int))) then ((idx x25 c28.1).bind fun x31 => (need ((c28.2.length + ([(w64 (x31 + (IntKind.i64.wrap by_)))] : List Int).length) * 8 ≤ 140737488355328 ∧ c28.2.length + ([(w64 (x31 + (IntKind.i64.wrap by_)))] : List Int).length ≤ 9223372036854775807)).bind fun x32 => F14L3 by_ x25 n29 ((w64 (c28.1 + 1)), (c28.2 ++ ([(w64 (x31 + (IntKind.i64.wrap by_)))] : List Int)))) else (some (.inr c28.2))

def F14L4 (by_ : Int) (x43 : (List Int) × Int × Int) (x44 : (List Int) × Int × Int) : Nat → Int → Option ((Bool) ⊕ (Unit))
  | 0, _ => none
  | n48 + 1, c47 => if (decide (c47 < (x43.1.length : Int))) then ((idx x44.1 c47).bind fun x50 => (idx x43.1 c47).bind fun x51 => if (x50 != (w64 (x51 + (IntKind.i64.wrap by_)))) then (some (.inl false)) else (F14L4 by_ x43 x44 n48 (w64 (c47 + 1)))) else (some (.inr ()))

def F14 (fuel : Nat)  (p_m : S_api_ClMap) (p_x : (List Int)) (by_ : Int) : Option (Bool) :=
  (F39 fuel p_m).bind fun x1 => if (!x1) then ((F30 fuel).bind fun x3 => some x3) else ((F14L1 p_m by_ fuel (0, ([] : List S_api_Span))).bind fun o5 => outK o5 (fun (ro5 : Bool) => some ro5) (fun (so5 : (List S_api_Span)) => (F14L2 p_m by_ fuel (0, ([] : List S_api_Span))).bind fun o14 => outK o14 (fun (ro14 : Bool) => some ro14) (fun (so14 : (List S_api_Span)) => (F39 fuel (⟨so5, p_m.Step, so14, p_m.Sides, p_m.Inks, p_m.Like⟩ : S_api_ClMap)).bind fun x22 => if (!x22) then ((F30 fuel).bind fun x24 => some x24) else ((F40 fuel p_m p_x).bind fun x25 => (F14L3 by_ x25 fuel (0, ([] : List Int))).bind fun o27 => outK o27 (fun (ro27 : Bool) => some ro27) (fun (so27 : (List Int)) => (F21 fuel p_m x25).bind fun x33 => (F21 fuel (⟨so5, p_m.Step, so14, p_m.Sides, p_m.Inks, p_m.Like⟩ : S_api_ClMap) so27).bind fun x34 => (F27 fuel p_m x25).bind fun x35 => (F27 fuel (⟨so5, p_m.Step, so14, p_m.Sides, p_m.Inks, p_m.Like⟩ : S_api_ClMap) so27).bind fun x36 => (F31 fuel p_m x25).bind fun x37 => (F31 fuel (⟨so5, p_m.Step, so14, p_m.Sides, p_m.Inks, p_m.Like⟩ : S_api_ClMap) so27).bind fun x38 => (F23 fuel x33.1 x34.1).bind fun x39 => (optG (!(cond (!x39) true (x33.2 != x34.2))) (F29 fuel x35.1 x36.1)).bind fun x40 => (optG (!(cond (cond (cond (!x39) true (x33.2 != x34.2)) true (!x40)) true (x35.2 != x36.2))) (F26 fuel x37.1 x38.1)).bind fun x41 => if (cond (cond (cond (cond (cond (!x39) true (x33.2 != x34.2)) true (!x40)) true (x35.2 != x36.2)) true (!x41)) true (x37.2.2 != x38.2.2)) then (some false) else ((F35 fuel p_m).bind fun x43 => (F35 fuel (⟨so5, p_m.Step, so14, p_m.Sides, p_m.Inks, p_m.Like⟩ : S_api_ClMap)).bind fun x44 => if (cond (cond (x43.2.1 != x44.2.1) true (x43.2.2 != x44.2.2)) true ((x43.1.length : Int) != (x44.1.length : Int))) then (some false) else ((F14L4 by_ x43 x44 fuel 0).bind fun o46 => outK o46 (fun (ro46 : Bool) => some ro46) (fun (so46 : Unit) => (F30 fuel).bind fun x53 => some x53))))))))
end Go.Proofs.Ytpkhbbboedoldaa
