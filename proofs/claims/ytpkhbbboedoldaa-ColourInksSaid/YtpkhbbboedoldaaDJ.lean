/- What functions of the seat compute. Printed by a program of mine. -/
import Derived.Test.YtpkhbbboedoldaaP
import Derived.Test.YtpkhbbboedoldaaDH
import Derived.Test.YtpkhbbboedoldaaDHS
import Derived.Test.YtpkhbbboedoldaaDM
import Derived.Test.YtpkhbbboedoldaaDP
import Derived.Test.YtpkhbbboedoldaaDQ
import Derived.Test.YtpkhbbboedoldaaDR
import Derived.Test.YtpkhbbboedoldaaDW
namespace Go.Proofs.Ytpkhbbboedoldaa
open Go Go.Sx
set_option linter.unusedVariables false

-- hachure/hachureref09.Inks P
def F73L1 (p_m : S_api_ClMap) (inks : (List Int)) : Nat → (Int × Int) → Option ((Int) ⊕ (Int))
  | 0, _ => none
  | n6 + 1, c5 => if (cond (decide (c5.2 < (inks.length : Int))) (c5.1 == 0) false) then ((idx inks c5.2).bind fun x8 => (F61 x8 0 (w64 (p_m.Inks - 1))).bind fun x9 => if (!x9) then (F73L1 p_m inks n6 (4, (w64 (c5.2 + 1)))) else (F73L1 p_m inks n6 (c5.1, (w64 (c5.2 + 1))))) else (some (.inr c5.1))

def F73 (fuel : Nat)  (p_m : S_api_ClMap) (legend : (List Int)) (inks : (List Int)) : Option (Int) :=
  (F20 fuel p_m legend).bind fun x1 => (if (cond (x1.2 == 0) ((inks.length : Int) != (w64 ((legend.length : Int) + 1))) false) then (some (.inr 3)) else (some (.inr x1.2))).bind fun o2 => outK o2 (fun (ro2 : Int) => some ro2) (fun (so2 : Int) => (F73L1 p_m inks fuel (so2, 0)).bind fun o4 => outK o4 (fun (ro4 : Int) => some ro4) (fun (so4 : Int) => some so4))

-- hachure/hachureref09.Wrong P
def F74L2 (fuel : Nat) (p_m : S_api_ClMap) (inks : (List Int)) (side : S_api_ClPair) (x1 : (List S_api_Span)) (c3 : Int) : Nat → Int → Option ((Bool) ⊕ (Unit))
  | 0, _ => none
  | n8 + 1, c7 => if (decide (c7 < c3)) then ((idx inks c3).bind fun x10 => (idx inks c7).bind fun x11 => (F49 fuel p_m x10 x11).bind fun x12 => (optG x12 (F84 x1 side c3 c7)).bind fun x13 => if (cond x12 x13 false) then (some (.inl true)) else (F74L2 fuel p_m inks side x1 c3 n8 (w64 (c7 + 1)))) else (some (.inr ()))

def F74L1 (fuel : Nat) (p_m : S_api_ClMap) (inks : (List Int)) (side : S_api_ClPair) (x1 : (List S_api_Span)) : Nat → Int → Option ((Bool) ⊕ (Unit))
  | 0, _ => none
  | n4 + 1, c3 => if (decide (c3 < (inks.length : Int))) then ((F74L2 fuel p_m inks side x1 c3 fuel 0).bind fun o6 => outK o6 (fun (ro6 : Bool) => some (.inl ro6)) (fun (so6 : Unit) => F74L1 fuel p_m inks side x1 n4 (w64 (c3 + 1)))) else (some (.inr ()))

def F74 (fuel : Nat)  (p_m : S_api_ClMap) (legend : (List Int)) (inks : (List Int)) (side : S_api_ClPair) : Option (Bool) :=
  (F65 fuel p_m legend).bind fun x1 => (F74L1 fuel p_m inks side x1 fuel 0).bind fun o2 => outK o2 (fun (ro2 : Bool) => some ro2) (fun (so2 : Unit) => some false)

-- hachure/hachureref09.Mistaken P
def F34L1 (fuel : Nat) (p_m : S_api_ClMap) (legend : (List Int)) (inks : (List Int)) : Nat → (Int × (List Int)) → Option (((List Int) × Int) ⊕ ((List Int)))
  | 0, _ => none
  | n6 + 1, c5 => if (decide (c5.1 < (p_m.Sides.length : Int))) then ((idx p_m.Sides c5.1).bind fun x8 => (F74 fuel p_m legend inks x8).bind fun x9 => if x9 then ((need ((c5.2.length + ([c5.1] : List Int).length) * 8 ≤ 140737488355328 ∧ c5.2.length + ([c5.1] : List Int).length ≤ 9223372036854775807)).bind fun x11 => F34L1 fuel p_m legend inks n6 ((w64 (c5.1 + 1)), (c5.2 ++ ([c5.1] : List Int)))) else (F34L1 fuel p_m legend inks n6 ((w64 (c5.1 + 1)), c5.2))) else (some (.inr c5.2))

def F34 (fuel : Nat)  (p_m : S_api_ClMap) (legend : (List Int)) (inks : (List Int)) : Option ((List Int) × Int) :=
  (F73 fuel p_m legend inks).bind fun x1 => if (x1 != 0) then (some (([] : List Int), x1)) else ((F34L1 fuel p_m legend inks fuel (0, ([] : List Int))).bind fun o4 => outK o4 (fun (ro4 : (List Int) × Int) => some ro4) (fun (so4 : (List Int)) => some (so4, 0)))

-- hachure/hachurelaw09.ColourPaints P
def F4 (fuel : Nat)  (p_m : S_api_ClMap) (legend : (List Int)) (inks : (List Int)) : Option (Bool) :=
  (F31 fuel p_m legend).bind fun x1 => (F32 fuel p_m legend).bind fun x2 => (F26 fuel x1.1 x2.1).bind fun x3 => if (cond (cond (!x3) true (x1.2.1 != x2.2.1)) true (x1.2.2 != x2.2.2)) then (some false) else ((F33 fuel p_m legend inks).bind fun x5 => (F34 fuel p_m legend inks).bind fun x6 => (F26 fuel x5.1 x6.1).bind fun x7 => (optG (cond x7 (x5.2 == x6.2) false) (F30 fuel)).bind fun x8 => some (cond (cond x7 (x5.2 == x6.2) false) x8 false))
end Go.Proofs.Ytpkhbbboedoldaa
