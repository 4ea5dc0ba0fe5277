/- What functions of the seat compute. Printed by a program of mine. -/
import Derived.Test.YtpkhbbboedoldaaP
import Derived.Test.YtpkhbbboedoldaaDE
import Derived.Test.YtpkhbbboedoldaaDO
namespace Go.Proofs.Ytpkhbbboedoldaa
open Go Go.Sx
set_option linter.unusedVariables false

-- (*hachure/colour.chart).alike P
def F68  (p_c : (Option S_colour_chart)) (p_a : Int) (p_b : Int) : Option (Bool) :=
  (p_c).bind fun x1 => (need (0 ≤ p_a ∧ p_a < 6)).bind fun x2 => (x1.vec[36 + p_a.toNat * 1]?).bind fun x3 => (need (0 ≤ p_b)).bind fun x4 => some ((Go.bits .and .i64 (x3 / 2 ^ min p_b.toNat 64) 1) == 1)

-- hachure/colour.Paint.1 H
def F69L2 (band : Int) (b5x0 : (Option S_colour_chart)) (b6x0f0 : (Option S_colour_chart)) (c7 : Int × (List Int) × Int × (List Int)) : Nat → Int → Option (((List Int) × Int × (List Int)) ⊕ ((Unit) ⊕ (Unit)))
  | 0, _ => none
  | n13 + 1, c12 => if (decide (c12 < ((band - 0).toNat : Int))) then ((idx c7.2.2.2 c12).bind fun x15 => (need (c12 < ((band - 0).toNat : Int))).bind fun x16 => (b5x0).bind fun x17 => (need (0 ≤ band ∧ band < 6)).bind fun x18 => (cutN x17.vec (0 + band.toNat * 6) 6).bind fun x19 => (need (0 ≤ c12 ∧ c12 < 6)).bind fun x20 => (x19[0 + c12.toNat * 1]?).bind fun x21 => (optG (decide (x21 > 0)) (F68 b6x0f0 c7.1 x15)).bind fun x22 => if (cond (decide (x21 > 0)) x22 false) then (some (.inr (.inl ()))) else (F69L2 band b5x0 b6x0f0 c7 n13 (w64 (c12 + 1)))) else (some (.inr (.inr ())))

def F69L1 (fuel : Nat) (rec33 : Int → Int → (List Int) → Int → (List Int) → (List S_api_Span) → Int → (List S_api_Span) → (List S_api_ClPair) → Int → (List S_api_ClPair) → (Option S_colour_chart) → (Option S_colour_chart) → Option ((List Int) × Int × (List Int))) (band : Int) (used : Int) (b4x0 : List S_api_Span) (b4x1 : Int) (b4x2 : List S_api_Span) (b4x3 : List S_api_ClPair) (b4x4 : Int) (b4x5 : List S_api_ClPair) (b5x0 : (Option S_colour_chart)) (b6x0f0 : (Option S_colour_chart)) : Nat → (Int × (List Int) × Int × (List Int)) → Option (((List Int) × Int × (List Int)) ⊕ ((List Int) × Int × (List Int)))
  | 0, _ => none
  | n8 + 1, c7 => if (decide (c7.1 < b4x4)) then ((sub c7.2.2.2 0 band).bind fun x10 => (F69L2 band b5x0 b6x0f0 c7 fuel 0).bind fun o11 => outK o11 (fun (ro11 : (List Int) × Int × (List Int)) => some (.inl ro11)) (fun yo11 => outK yo11 (fun (qo11 : Unit) => F69L1 fuel rec33 band used b4x0 b4x1 b4x2 b4x3 b4x4 b4x5 b5x0 b6x0f0 n8 ((w64 (c7.1 + 1)), c7.2.1, c7.2.2.1, c7.2.2.2)) (fun (so11 : Unit) => (idx c7.2.2.2 band).bind fun x24 => (need (0 ≤ c7.1)).bind fun x25 => (rec33 (w64 (band + 1)) (Go.bits .or .i64 used (w64 ((1 : Int) * 2 ^ min c7.1.toNat 64))) c7.2.1 c7.2.2.1 (c7.2.2.2.set band.toNat c7.1) b4x0 b4x1 b4x2 b4x3 b4x4 b4x5 b5x0 b6x0f0).bind fun x26 => F69L1 fuel rec33 band used b4x0 b4x1 b4x2 b4x3 b4x4 b4x5 b5x0 b6x0f0 n8 ((w64 (c7.1 + 1)), x26.1, x26.2.1, x26.2.2)))) else (some (.inr (c7.2.1, c7.2.2.1, c7.2.2.2)))

def B69 (fuel : Nat) (rec33 : Int → Int → (List Int) → Int → (List Int) → (List S_api_Span) → Int → (List S_api_Span) → (List S_api_ClPair) → Int → (List S_api_ClPair) → (Option S_colour_chart) → (Option S_colour_chart) → Option ((List Int) × Int × (List Int))) (band : Int) (used : Int) (b0x0 : List Int) (b1x0 : Int) (a3 : List Int) (b4x0 : List S_api_Span) (b4x1 : Int) (b4x2 : List S_api_Span) (b4x3 : List S_api_ClPair) (b4x4 : Int) (b4x5 : List S_api_ClPair) (b5x0 : (Option S_colour_chart)) (b6x0f0 : (Option S_colour_chart)) : Option ((List Int) × Int × (List Int)) :=
  (F70 (IntKind.u64.wrap used)).bind fun x1 => if (cond (!(Nat.beq b0x0.length 0)) (decide (x1 ≥ b1x0)) false) then (some (b0x0, b1x0, a3)) else (if (band == (a3.length : Int)) then ((need (0 ≤ (a3.length : Int) ∧ (a3.length : Int) * 8 ≤ 140737488355328 ∧ (a3.length : Int) ≤ 9223372036854775807)).bind fun x4 => (need (0 < (a3.take (List.replicate (a3.length : Int).toNat (0 : Int)).length ++ (List.replicate (a3.length : Int).toNat (0 : Int)).drop a3.length).length)).bind fun x5 => some ((a3.take (List.replicate (a3.length : Int).toNat (0 : Int)).length ++ (List.replicate (a3.length : Int).toNat (0 : Int)).drop a3.length), x1, a3)) else ((F69L1 fuel rec33 band used b4x0 b4x1 b4x2 b4x3 b4x4 b4x5 b5x0 b6x0f0 fuel (0, b0x0, b1x0, a3)).bind fun o6 => outK o6 (fun (ro6 : (List Int) × Int × (List Int)) => some ro6) (fun (so6 : (List Int) × Int × (List Int)) => some (so6.1, so6.2.1, so6.2.2))))

def F69 : Nat → Int → Int → (List Int) → Int → (List Int) → (List S_api_Span) → Int → (List S_api_Span) → (List S_api_ClPair) → Int → (List S_api_ClPair) → (Option S_colour_chart) → (Option S_colour_chart) → Option ((List Int) × Int × (List Int))
  | 0, _, _, _, _, _, _, _, _, _, _, _, _, _ => none
  | n + 1, band, used, b0x0, b1x0, a3, b4x0, b4x1, b4x2, b4x3, b4x4, b4x5, b5x0, b6x0f0 => B69 (n + 1) (F69 n) band used b0x0 b1x0 a3 b4x0 b4x1 b4x2 b4x3 b4x4 b4x5 b5x0 b6x0f0

-- hachure/colour.Paint P
def F31 (fuel : Nat)  (p_m : S_api_ClMap) (legend : (List Int)) : Option ((List Int) × Int × Int) :=
  (F64 fuel p_m legend).bind fun x1 => if (x1.2 != 0) then (some (([] : List Int), 0, x1.2)) else ((need (0 ≤ (w64 ((legend.length : Int) + 1)) ∧ (w64 ((legend.length : Int) + 1)) * 8 ≤ 140737488355328 ∧ (w64 ((legend.length : Int) + 1)) ≤ 9223372036854775807)).bind fun x3 => (F69 fuel 0 0 ([] : List Int) 0 (List.replicate (w64 ((legend.length : Int) + 1)).toNat (0 : Int)) p_m.Borders p_m.Step p_m.Heights p_m.Sides p_m.Inks p_m.Like x1.1 x1.1).bind fun x4 => if (Nat.beq x4.1.length 0) then (some (([] : List Int), 0, 9)) else (some (x4.1, x4.2.1, 0)))
end Go.Proofs.Ytpkhbbboedoldaa
