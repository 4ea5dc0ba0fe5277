/- What functions of the seat compute. Printed by a program of mine. -/
import Derived.Test.YtpkhbbboedoldaaP
import Derived.Test.YtpkhbbboedoldaaDE
import Derived.Test.YtpkhbbboedoldaaDP
namespace Go.Proofs.Ytpkhbbboedoldaa
open Go Go.Sx
set_option linter.unusedVariables false

-- (*hachure/colour.chart).pairs H
def F72v2  (p_c : (Option S_colour_chart)) (p_s : S_api_ClPair) : Option ((Option S_colour_chart) × Int × Int) :=
  some (p_c, p_s.A, p_s.B)

-- hachure/colour.Mistaken R
def F33r  (y1 : Int) (y2 : Int) (b1x0 : List Int) (b2x0 : (Option S_colour_chart)) (b3x0 : Bool) : Option (Bool) :=
  (optG (!b3x0) (idx b1x0 y1)).bind fun x1 => (optG (!b3x0) (idx b1x0 y2)).bind fun x2 => (optG (!b3x0) (F68 b2x0 x1 x2)).bind fun x3 => some (cond b3x0 true x3)

-- (*hachure/colour.chart).pairs.1 H
def F88v1L2 (b1x0 : List Int) (b2x0 : (Option S_colour_chart)) (x2 : S_api_Span) (x4 : S_api_Span) (c6 : Int × Bool) : Nat → (Int × Bool) → Option ((Bool) ⊕ (Bool))
  | 0, _ => none
  | n11 + 1, c10 => if (decide (c10.1 < (w64 ((w64 (x4.Hi - x4.Lo)) + 1)))) then ((optG ((w64 (x2.Lo + c6.1)) != (w64 (x4.Lo + c10.1))) (F33r (w64 (x2.Lo + c6.1)) (w64 (x4.Lo + c10.1)) b1x0 b2x0 c10.2)).bind fun x13 => if (cond ((w64 (x2.Lo + c6.1)) != (w64 (x4.Lo + c10.1))) false false) then (some (.inl (cond ((w64 (x2.Lo + c6.1)) != (w64 (x4.Lo + c10.1))) x13 c10.2))) else (F88v1L2 b1x0 b2x0 x2 x4 c6 n11 ((w64 (c10.1 + 1)), (cond ((w64 (x2.Lo + c6.1)) != (w64 (x4.Lo + c10.1))) x13 c10.2)))) else (some (.inr c10.2))

def F88v1L1 (fuel : Nat) (b1x0 : List Int) (b2x0 : (Option S_colour_chart)) (x2 : S_api_Span) (x4 : S_api_Span) : Nat → (Int × Bool) → Option ((Bool) ⊕ (Bool))
  | 0, _ => none
  | n7 + 1, c6 => if (decide (c6.1 < (w64 ((w64 (x2.Hi - x2.Lo)) + 1)))) then ((F88v1L2 b1x0 b2x0 x2 x4 c6 fuel (0, c6.2)).bind fun o9 => outK o9 (fun (ro9 : Bool) => some (.inl ro9)) (fun (so9 : Bool) => F88v1L1 fuel b1x0 b2x0 x2 x4 n7 ((w64 (c6.1 + 1)), so9))) else (some (.inr c6.2))

def F88v1 (fuel : Nat)  (b1x0 : List Int) (b2x0 : (Option S_colour_chart)) (b3x0 : Bool) (b4x0 : (Option S_colour_chart)) (b5x0 : Int) (b5x1 : Int) : Option (Bool) :=
  (b4x0).bind fun x1 => (idx x1.bands b5x0).bind fun x2 => (b4x0).bind fun x3 => (idx x3.bands b5x1).bind fun x4 => (F88v1L1 fuel b1x0 b2x0 x2 x4 fuel (0, b3x0)).bind fun o5 => outK o5 (fun (ro5 : Bool) => some ro5) (fun (so5 : Bool) => some so5)

-- hachure/colour.Mistaken P
def F33L1 (fuel : Nat) (p_m : S_api_ClMap) (inks : (List Int)) (x1 : (Option S_colour_chart) × Int) : Nat → (Int × (List Int)) → Option (((List Int) × Int) ⊕ ((List Int)))
  | 0, _ => none
  | n9 + 1, c8 => if (decide (c8.1 < (p_m.Sides.length : Int))) then ((idx p_m.Sides c8.1).bind fun x11 => (F72v2 x1.1 x11).bind fun x12 => (F88v1 fuel inks x1.1 false x12.1 x12.2.1 x12.2.2).bind fun x13 => if x13 then ((need ((c8.2.length + ([c8.1] : List Int).length) * 8 ≤ 140737488355328 ∧ c8.2.length + ([c8.1] : List Int).length ≤ 9223372036854775807)).bind fun x15 => F33L1 fuel p_m inks x1 n9 ((w64 (c8.1 + 1)), (c8.2 ++ ([c8.1] : List Int)))) else (F33L1 fuel p_m inks x1 n9 ((w64 (c8.1 + 1)), c8.2))) else (some (.inr c8.2))

def F33 (fuel : Nat)  (p_m : S_api_ClMap) (legend : (List Int)) (inks : (List Int)) : Option ((List Int) × Int) :=
  (F64 fuel p_m legend).bind fun x1 => if (x1.2 != 0) then (some (([] : List Int), x1.2)) else (if ((inks.length : Int) != (w64 ((legend.length : Int) + 1))) then (some (([] : List Int), 3)) else ((F52 fuel 0 (w64 (p_m.Inks - 1)) inks).bind fun x4 => if x4 then (some (([] : List Int), 4)) else ((F33L1 fuel p_m inks x1 fuel (0, ([] : List Int))).bind fun o7 => outK o7 (fun (ro7 : (List Int) × Int) => some ro7) (fun (so7 : (List Int)) => some (so7, 0)))))
end Go.Proofs.Ytpkhbbboedoldaa
