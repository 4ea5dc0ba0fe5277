/- What functions of the seat compute. Printed by a program of mine. -/
import Derived.Test.YtpkhbbboedoldaaP
import Derived.Test.YtpkhbbboedoldaaDA
import Derived.Test.YtpkhbbboedoldaaDHS
import Derived.Test.YtpkhbbboedoldaaDQ
import Derived.Test.YtpkhbbboedoldaaDW
namespace Go.Proofs.Ytpkhbbboedoldaa
open Go Go.Sx
set_option linter.unusedVariables false

-- hachure/hachurelaw09.valid P
def F39 (fuel : Nat)  (p_m : S_api_ClMap) : Option (Bool) :=
  (F18 fuel p_m).bind fun x1 => some (x1.2.2 == 0)

-- hachure/hachurelaw09.turn P
def F44  (l : (List Int)) (p_n : Int) : Option (Int) :=
  if ((l.length : Int) == 0) then (some 0) else ((need ((l.length : Int) ≠ 0)).bind fun x2 => (idx l (p_n.tmod (l.length : Int))).bind fun x3 => some (IntKind.i64.wrap x3))

-- hachure/hachurelaw09.among P
def F43  (p_s : S_api_Span) (p_n : Int) : Option (Int) :=
  (need ((w64 ((w64 (p_s.Hi - p_s.Lo)) + 1)) ≠ 0)).bind fun x1 => some (w64 (p_s.Lo + (p_n.tmod (w64 ((w64 (p_s.Hi - p_s.Lo)) + 1)))))

-- hachure/hachurelaw09.Legend P
def F40L1 (p_m : S_api_ClMap) (p_x : (List Int)) : Nat → (Int × (List Int)) → Option (((List Int)) ⊕ ((List Int)))
  | 0, _ => none
  | n4 + 1, c3 => if (decide (c3.1 < (p_m.Borders.length : Int))) then ((idx p_m.Borders c3.1).bind fun x6 => (optG (decide (c3.1 > 0)) (idx c3.2 (w64 (c3.1 - 1)))).bind fun x7 => if (cond (decide (c3.1 > 0)) (decide ((w64 (x7 + p_m.Step)) ≤ x6.Hi)) false) then ((idx c3.2 (w64 (c3.1 - 1))).bind fun x9 => (F44 p_x c3.1).bind fun x10 => (F43 (⟨(if (w64 (x9 + p_m.Step)) > x6.Lo then (w64 (x9 + p_m.Step)) else x6.Lo), x6.Hi⟩ : S_api_Span) x10).bind fun x11 => (need ((c3.2.length + ([x11] : List Int).length) * 8 ≤ 140737488355328 ∧ c3.2.length + ([x11] : List Int).length ≤ 9223372036854775807)).bind fun x12 => F40L1 p_m p_x n4 ((w64 (c3.1 + 1)), (c3.2 ++ ([x11] : List Int)))) else ((F44 p_x c3.1).bind fun x13 => (F43 x6 x13).bind fun x14 => (need ((c3.2.length + ([x14] : List Int).length) * 8 ≤ 140737488355328 ∧ c3.2.length + ([x14] : List Int).length ≤ 9223372036854775807)).bind fun x15 => F40L1 p_m p_x n4 ((w64 (c3.1 + 1)), (c3.2 ++ ([x14] : List Int))))) else (some (.inr c3.2))

def F40 (fuel : Nat)  (p_m : S_api_ClMap) (p_x : (List Int)) : Option ((List Int)) :=
  (F40L1 p_m p_x fuel (0, ([] : List Int))).bind fun o2 => outK o2 (fun (ro2 : (List Int)) => some ro2) (fun (so2 : (List Int)) => some so2)

-- hachure/hachurelaw09.good P
def F41 (fuel : Nat)  (p_m : S_api_ClMap) (legend : (List Int)) : Option (Bool) :=
  (F20 fuel p_m legend).bind fun x1 => some (x1.2 == 0)

-- hachure/hachurelaw09.band P
def F42L1 (legend : (List Int)) (high : Int) : Nat → (Int × Int) → Option ((Int) ⊕ (Int))
  | 0, _ => none
  | n3 + 1, c2 => if (decide (c2.2 < (legend.length : Int))) then ((idx legend c2.2).bind fun x5 => if (decide (x5 ≤ high)) then (F42L1 legend high n3 ((w64 (c2.1 + 1)), (w64 (c2.2 + 1)))) else (F42L1 legend high n3 (c2.1, (w64 (c2.2 + 1))))) else (some (.inr c2.1))

def F42 (fuel : Nat)  (legend : (List Int)) (high : Int) : Option (Int) :=
  (F42L1 legend high fuel (0, 0)).bind fun o1 => outK o1 (fun (ro1 : Int) => some ro1) (fun (so1 : Int) => some so1)

-- hachure/hachurelaw09.in P
def F45  (p_n : Int) (p_s : S_api_Span) : Option (Bool) :=
  some (cond (decide (p_n ≥ p_s.Lo)) (decide (p_n ≤ p_s.Hi)) false)

-- hachure/hachurelaw09.ColourTrue P
def F7L1 (fuel : Nat) (p_m : S_api_ClMap) (p_x : S_hachurelaw09qPast) (x5 : (List Int)) (x6 : (List S_api_Span) × Int) (x7 : (List Int) × Int) : Nat → (Int × (List Int)) → Option ((Bool) ⊕ ((List Int)))
  | 0, _ => none
  | n16 + 1, c15 => if (decide (c15.1 < (x6.1.length : Int))) then ((idx p_m.Heights c15.1).bind fun x18 => (F44 p_x.Truth c15.1).bind fun x19 => (F43 x18 x19).bind fun x20 => (F42 fuel x5 x20).bind fun x21 => (idx x6.1 c15.1).bind fun x22 => (F45 x21 x22).bind fun x23 => (optG (!(!x23)) (idx x6.1 c15.1)).bind fun x24 => (optG (!(!x23)) (idx x6.1 c15.1)).bind fun x25 => (optG (!(!x23)) (F46 fuel x7.1 c15.1)).bind fun x26 => if (cond (!x23) true ((x24.Lo == x25.Hi) == x26)) then (some (.inl false)) else ((need ((c15.2.length + ([x21] : List Int).length) * 8 ≤ 140737488355328 ∧ c15.2.length + ([x21] : List Int).length ≤ 9223372036854775807)).bind fun x28 => F7L1 fuel p_m p_x x5 x6 x7 n16 ((w64 (c15.1 + 1)), (c15.2 ++ ([x21] : List Int))))) else (some (.inr c15.2))

def F7L3 (x8 : (List S_api_ClPair) × Int) (x34 : Int) (x36 : Int) : Nat → (Bool × Int) → Option ((Bool) ⊕ (Bool))
  | 0, _ => none
  | n39 + 1, c38 => if (decide (c38.2 < (x8.1.length : Int))) then ((optG (!c38.1) (idx x8.1 c38.2)).bind fun x41 => (optG (!c38.1) (F38 (if x36 < x34 then x36 else x34) (if x36 > x34 then x36 else x34))).bind fun x42 => F7L3 x8 x34 x36 n39 ((cond c38.1 true ((x41.A == x42.A) && (x41.B == x42.B))), (w64 (c38.2 + 1)))) else (some (.inr c38.1))

def F7L2 (fuel : Nat) (p_m : S_api_ClMap) (x8 : (List S_api_ClPair) × Int) (so14 : (List Int)) : Nat → Int → Option ((Bool) ⊕ (Unit))
  | 0, _ => none
  | n31 + 1, c30 => if (decide (c30 < (p_m.Sides.length : Int))) then ((idx p_m.Sides c30).bind fun x33 => (idx so14 x33.A).bind fun x34 => (idx p_m.Sides c30).bind fun x35 => (idx so14 x35.B).bind fun x36 => (F7L3 x8 x34 x36 fuel ((x34 == x36), 0)).bind fun o37 => outK o37 (fun (ro37 : Bool) => some (.inl ro37)) (fun (so37 : Bool) => if (!so37) then (some (.inl false)) else (F7L2 fuel p_m x8 so14 n31 (w64 (c30 + 1))))) else (some (.inr ()))

def F7 (fuel : Nat)  (p_m : S_api_ClMap) (p_x : S_hachurelaw09qPast) : Option (Bool) :=
  (F39 fuel p_m).bind fun x1 => if (!x1) then ((F35 fuel p_m).bind fun x3 => (optG (x3.2.2 != 0) (F30 fuel)).bind fun x4 => some (cond (x3.2.2 != 0) x4 false)) else ((F40 fuel p_m p_x.Legend).bind fun x5 => (F21 fuel p_m x5).bind fun x6 => (F24 fuel p_m x5).bind fun x7 => (F27 fuel p_m x5).bind fun x8 => (F41 fuel p_m x5).bind fun x9 => if (!x9) then ((optG (cond (cond (x6.2 != 0) (x7.2 == x6.2) false) (x8.2 == x6.2) false) (F30 fuel)).bind fun x11 => some (cond (cond (cond (x6.2 != 0) (x7.2 == x6.2) false) (x8.2 == x6.2) false) x11 false)) else (if (cond (cond (cond (x6.2 != 0) true (x7.2 != 0)) true (x8.2 != 0)) true ((x6.1.length : Int) != (p_m.Heights.length : Int))) then (some false) else ((F7L1 fuel p_m p_x x5 x6 x7 fuel (0, ([] : List Int))).bind fun o14 => outK o14 (fun (ro14 : Bool) => some ro14) (fun (so14 : (List Int)) => (F7L2 fuel p_m x8 so14 fuel 0).bind fun o29 => outK o29 (fun (ro29 : Bool) => some ro29) (fun (so29 : Unit) => (F30 fuel).bind fun x44 => some x44)))))
end Go.Proofs.Ytpkhbbboedoldaa
