/- What functions of the seat compute. Printed by a program of mine. -/
import Derived.Test.YtpkhbbboedoldaaP
import Derived.Test.YtpkhbbboedoldaaDH
import Derived.Test.YtpkhbbboedoldaaDHS
import Derived.Test.YtpkhbbboedoldaaDQ
namespace Go.Proofs.Ytpkhbbboedoldaa
open Go Go.Sx
set_option linter.unusedVariables false

-- hachure/hachureref09.Painted P
def F87L1 (fuel : Nat) (p_m : S_api_ClMap) (met : (List S_api_ClPair)) (inks : (List Int)) : Nat → Int → Option ((Bool) ⊕ (Unit))
  | 0, _ => none
  | n3 + 1, c2 => if (decide (c2 < (met.length : Int))) then ((idx met c2).bind fun x5 => (optG (decide (x5.B < (inks.length : Int))) (idx met c2)).bind fun x6 => (optG (decide (x5.B < (inks.length : Int))) (idx inks x6.A)).bind fun x7 => (optG (decide (x5.B < (inks.length : Int))) (idx met c2)).bind fun x8 => (optG (decide (x5.B < (inks.length : Int))) (idx inks x8.B)).bind fun x9 => (optG (decide (x5.B < (inks.length : Int))) (F49 fuel p_m x7 x9)).bind fun x10 => if (cond (decide (x5.B < (inks.length : Int))) x10 false) then (some (.inl false)) else (F87L1 fuel p_m met inks n3 (w64 (c2 + 1)))) else (some (.inr ()))

def F87 (fuel : Nat)  (p_m : S_api_ClMap) (met : (List S_api_ClPair)) (inks : (List Int)) : Option (Bool) :=
  (F87L1 fuel p_m met inks fuel 0).bind fun o1 => outK o1 (fun (ro1 : Bool) => some ro1) (fun (so1 : Unit) => some true)

-- hachure/hachureref09.paint P
def F71L1 (fuel : Nat) (rec65 : S_api_ClMap → (List S_api_ClPair) → (List Int) → Int → Option ((List Int))) (p_m : S_api_ClMap) (met : (List S_api_ClPair)) (begin : (List Int)) (bands : Int) : Nat → ((List Int) × Int) → Option (((List Int)) ⊕ ((List Int)))
  | 0, _ => none
  | n6 + 1, c5 => if (decide (c5.2 < p_m.Inks)) then ((need ((([] : List Int).length + begin.length) * 8 ≤ 140737488355328 ∧ ([] : List Int).length + begin.length ≤ 9223372036854775807)).bind fun x8 => (need (((([] : List Int) ++ begin).length + ([c5.2] : List Int).length) * 8 ≤ 140737488355328 ∧ (([] : List Int) ++ begin).length + ([c5.2] : List Int).length ≤ 9223372036854775807)).bind fun x9 => (F87 fuel p_m met ((([] : List Int) ++ begin) ++ ([c5.2] : List Int))).bind fun x10 => if (!x10) then (F71L1 fuel rec65 p_m met begin bands n6 (c5.1, (w64 (c5.2 + 1)))) else ((rec65 p_m met ((([] : List Int) ++ begin) ++ ([c5.2] : List Int)) bands).bind fun x12 => (optG ((!(Nat.beq x12.length 0)) && (!(Nat.beq c5.1.length 0))) (F48 fuel x12)).bind fun x13 => (optG ((!(Nat.beq x12.length 0)) && (!(Nat.beq c5.1.length 0))) (F48 fuel c5.1)).bind fun x14 => if (cond (!(Nat.beq x12.length 0)) (cond (Nat.beq c5.1.length 0) true (decide (x13 < x14))) false) then (F71L1 fuel rec65 p_m met begin bands n6 (x12, (w64 (c5.2 + 1)))) else (F71L1 fuel rec65 p_m met begin bands n6 (c5.1, (w64 (c5.2 + 1)))))) else (some (.inr c5.1))

def B71 (fuel : Nat) (rec65 : S_api_ClMap → (List S_api_ClPair) → (List Int) → Int → Option ((List Int))) (p_m : S_api_ClMap) (met : (List S_api_ClPair)) (begin : (List Int)) (bands : Int) : Option ((List Int)) :=
  if ((begin.length : Int) == bands) then ((need (0 < begin.length)).bind fun x2 => some begin) else ((F71L1 fuel rec65 p_m met begin bands fuel (([] : List Int), 0)).bind fun o4 => outK o4 (fun (ro4 : (List Int)) => some ro4) (fun (so4 : (List Int)) => some so4))

def F71 : Nat → S_api_ClMap → (List S_api_ClPair) → (List Int) → Int → Option ((List Int))
  | 0, _, _, _, _ => none
  | n + 1, p_m, met, begin, bands => B71 (n + 1) (F71 n) p_m met begin bands

-- hachure/hachureref09.paint P
def F71v1L1 (fuel : Nat) (p_m : S_api_ClMap) (met : (List S_api_ClPair)) (bands : Int) : Nat → ((List Int) × Int) → Option (((List Int)) ⊕ ((List Int)))
  | 0, _ => none
  | n5 + 1, c4 => if (decide (c4.2 < p_m.Inks)) then ((need ((([] : List Int).length + ([] : List Int).length) * 8 ≤ 140737488355328 ∧ ([] : List Int).length + ([] : List Int).length ≤ 9223372036854775807)).bind fun x7 => (need (((([] : List Int) ++ ([] : List Int)).length + ([c4.2] : List Int).length) * 8 ≤ 140737488355328 ∧ (([] : List Int) ++ ([] : List Int)).length + ([c4.2] : List Int).length ≤ 9223372036854775807)).bind fun x8 => (F87 fuel p_m met ((([] : List Int) ++ ([] : List Int)) ++ ([c4.2] : List Int))).bind fun x9 => if (!x9) then (F71v1L1 fuel p_m met bands n5 (c4.1, (w64 (c4.2 + 1)))) else ((F71 fuel p_m met ((([] : List Int) ++ ([] : List Int)) ++ ([c4.2] : List Int)) bands).bind fun x11 => (optG ((!(Nat.beq x11.length 0)) && (!(Nat.beq c4.1.length 0))) (F48 fuel x11)).bind fun x12 => (optG ((!(Nat.beq x11.length 0)) && (!(Nat.beq c4.1.length 0))) (F48 fuel c4.1)).bind fun x13 => if (cond (!(Nat.beq x11.length 0)) (cond (Nat.beq c4.1.length 0) true (decide (x12 < x13))) false) then (F71v1L1 fuel p_m met bands n5 (x11, (w64 (c4.2 + 1)))) else (F71v1L1 fuel p_m met bands n5 (c4.1, (w64 (c4.2 + 1)))))) else (some (.inr c4.1))

def F71v1 (fuel : Nat)  (p_m : S_api_ClMap) (met : (List S_api_ClPair)) (begin : (List Int)) (bands : Int) : Option ((List Int)) :=
  if (0 == bands) then (some ([] : List Int)) else ((F71v1L1 fuel p_m met bands fuel (([] : List Int), 0)).bind fun o3 => outK o3 (fun (ro3 : (List Int)) => some ro3) (fun (so3 : (List Int)) => some so3))

-- hachure/hachureref09.Paint P
def F32 (fuel : Nat)  (p_m : S_api_ClMap) (legend : (List Int)) : Option ((List Int) × Int × Int) :=
  (F20 fuel p_m legend).bind fun x1 => if (x1.2 != 0) then (some (([] : List Int), 0, x1.2)) else ((F67 fuel p_m legend).bind fun x3 => (F71v1 fuel p_m x3 ([] : (List Int)) (w64 ((legend.length : Int) + 1))).bind fun x4 => if (Nat.beq x4.length 0) then (some (([] : List Int), 0, 9)) else ((F48 fuel x4).bind fun x6 => some (x4, x6, 0)))
end Go.Proofs.Ytpkhbbboedoldaa
