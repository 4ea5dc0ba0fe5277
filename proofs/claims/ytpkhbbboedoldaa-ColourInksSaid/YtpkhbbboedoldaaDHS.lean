/- What functions of the seat compute. Printed by a program of mine. -/
import Derived.Test.YtpkhbbboedoldaaP
namespace Go.Proofs.Ytpkhbbboedoldaa
open Go Go.Sx
set_option linter.unusedVariables false

-- hachure/hachureref01.Has P
def F46L1 (l : (List Int)) (p_n : Int) : Nat → Int → Option ((Bool) ⊕ (Unit))
  | 0, _ => none
  | n3 + 1, c2 => if (decide (c2 < (l.length : Int))) then ((idx l c2).bind fun x5 => if (x5 == p_n) then (some (.inl true)) else (F46L1 l p_n n3 (w64 (c2 + 1)))) else (some (.inr ()))

def F46 (fuel : Nat)  (l : (List Int)) (p_n : Int) : Option (Bool) :=
  (F46L1 l p_n fuel 0).bind fun o1 => outK o1 (fun (ro1 : Bool) => some ro1) (fun (so1 : Unit) => some false)

-- hachure/hachureref09.Many P
def F48L1 (fuel : Nat) (inks : (List Int)) : Nat → (Int × Int) → Option ((Int) ⊕ (Int))
  | 0, _ => none
  | n3 + 1, c2 => if (decide (c2.2 < (inks.length : Int))) then ((sub inks 0 c2.2).bind fun x5 => (idx inks c2.2).bind fun x6 => (F46 fuel x5 x6).bind fun x7 => if (!x7) then (F48L1 fuel inks n3 ((w64 (c2.1 + 1)), (w64 (c2.2 + 1)))) else (F48L1 fuel inks n3 (c2.1, (w64 (c2.2 + 1))))) else (some (.inr c2.1))

def F48 (fuel : Nat)  (inks : (List Int)) : Option (Int) :=
  (F48L1 fuel inks fuel (0, 0)).bind fun o1 => outK o1 (fun (ro1 : Int) => some ro1) (fun (so1 : Int) => some so1)

-- hachure/hachureref09.Alike P
def F49L1 (p_m : S_api_ClMap) (p_a : Int) (p_b : Int) : Nat → Int → Option ((Bool) ⊕ (Unit))
  | 0, _ => none
  | n4 + 1, c3 => if (decide (c3 < (p_m.Like.length : Int))) then ((idx p_m.Like c3).bind fun x6 => if (cond (cond (x6.A == p_a) (x6.B == p_b) false) true (cond (x6.A == p_b) (x6.B == p_a) false)) then (some (.inl true)) else (F49L1 p_m p_a p_b n4 (w64 (c3 + 1)))) else (some (.inr ()))

def F49 (fuel : Nat)  (p_m : S_api_ClMap) (p_a : Int) (p_b : Int) : Option (Bool) :=
  if (p_a == p_b) then (some true) else ((F49L1 p_m p_a p_b fuel 0).bind fun o2 => outK o2 (fun (ro2 : Bool) => some ro2) (fun (so2 : Unit) => some false))
end Go.Proofs.Ytpkhbbboedoldaa
