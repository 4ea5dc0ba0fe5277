/- What functions of the seat compute. Printed by a program of mine. -/
import Derived.Test.YtpkhbbboedoldaaP
import Derived.Test.YtpkhbbboedoldaaDQ
namespace Go.Proofs.Ytpkhbbboedoldaa
open Go Go.Sx
set_option linter.unusedVariables false

-- hachure/hachurelaw09.valid P
def F39 (fuel : Nat)  (p_m : S_api_ClMap) : Option (Bool) :=
  (F18 fuel p_m).bind fun x1 => some (x1.2.2 == 0)

-- hachure/hachurelaw09.turn P
def F44  (l : (List Int)) (p_n : Int) : Option (Int) :=
  if ((l.length : Int) == 0) then (some 0) else ((need ((l.length : Int) ≠ 0)).bind fun x2 => (idx l (p_n.tmod (l.length : Int))).bind fun x3 => some (IntKind.i64.wrap x3))

-- hachure/hachurelaw09.among P
def F43  (p_s : S_api_Span) (p_n : Int) : Option (Int) :=
  (need ((w64 ((w64 (p_s.Hi - p_s.Lo)) + 1)) ≠ 0)).bind fun x1 => some (w64 (p_s.Lo + (p_n.tmod (w64 ((w64 (p_s.Hi - p_s.Lo)) + 1)))))

-- hachure/hachurelaw09.Legend P
def F40L1 (p_m : S_api_ClMap) (p_x : (List Int)) : Nat → (Int × (List Int)) → Option (((List Int)) ⊕ ((List Int)))
  | 0, _ => none
  | n4 + 1, c3 => if (decide (c3.1 < (p_m.Borders.length : Int))) then ((idx p_m.Borders c3.1).bind fun x6 => (optG (decide (c3.1 > 0)) (idx c3.2 (w64 (c3.1 - 1)))).bind fun x7 => if (cond (decide (c3.1 > 0)) (decide ((w64 (x7 + p_m.Step)) ≤ x6.Hi)) false) then ((idx c3.2 (w64 (c3.1 - 1))).bind fun x9 => (F44 p_x c3.1).bind fun x10 => (F43 (⟨(if (w64 (x9 + p_m.Step)) > x6.Lo then (w64 (x9 + p_m.Step)) else x6.Lo), x6.Hi⟩ : S_api_Span) x10).bind fun x11 => (need ((c3.2.length + ([x11] : List Int).length) * 8 ≤ 140737488355328 ∧ c3.2.length + ([x11] : List Int).length ≤ 9223372036854775807)).bind fun x12 => F40L1 p_m p_x n4 ((w64 (c3.1 + 1)), (c3.2 ++ ([x11] : List Int)))) else ((F44 p_x c3.1).bind fun x13 => (F43 x6 x13).bind fun x14 => (need ((c3.2.length + ([x14] : List Int).length) * 8 ≤ 140737488355328 ∧ c3.2.length + ([x14] : List Int).length ≤ 9223372036854775807)).bind fun x15 => F40L1 p_m p_x n4 ((w64 (c3.1 + 1)), (c3.2 ++ ([x14] : List Int))))) else (some (.inr c3.2))

def F40 (fuel : Nat)  (p_m : S_api_ClMap) (p_x : (List Int)) : Option ((List Int)) :=
  (F40L1 p_m p_x fuel (0, ([] : List Int))).bind fun o2 => outK o2 (fun (ro2 : (List Int)) => some ro2) (fun (so2 : (List Int)) => some so2)

-- hachure/hachurelaw09.good P
def F41 (fuel : Nat)  (p_m : S_api_ClMap) (legend : (List Int)) : Option (Bool) :=
  (F20 fuel p_m legend).bind fun x1 => some (x1.2 == 0)
end Go.Proofs.Ytpkhbbboedoldaa
