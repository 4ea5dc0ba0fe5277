/- What functions of the seat compute. Printed by a program of mine. -/
import Derived.Test.YtpkhbbboedoldaaP
import Derived.Test.YtpkhbbboedoldaaDA
import Derived.Test.YtpkhbbboedoldaaDHS
import Derived.Test.YtpkhbbboedoldaaDIK
import Derived.Test.YtpkhbbboedoldaaDLB
import Derived.Test.YtpkhbbboedoldaaDLG
import Derived.Test.YtpkhbbboedoldaaDM
import Derived.Test.YtpkhbbboedoldaaDW
namespace Go.Proofs.Ytpkhbbboedoldaa
open Go Go.Sx
set_option linter.unusedVariables false

-- hachure/hachurelaw09.steps P
def F78L1 (p_s : S_api_Span) (legend : (List Int)) : Nat → (Int × (List Int)) → Option (((List Int)) ⊕ ((List Int)))
  | 0, _ => none
  | n3 + 1, c2 => if (decide (c2.1 < (legend.length : Int))) then ((idx legend c2.1).bind fun x5 => (F45 x5 p_s).bind fun x6 => if x6 then ((idx legend c2.1).bind fun x8 => (need ((c2.2.length + ([x8] : List Int).length) * 8 ≤ 140737488355328 ∧ c2.2.length + ([x8] : List Int).length ≤ 9223372036854775807)).bind fun x9 => F78L1 p_s legend n3 ((w64 (c2.1 + 1)), (c2.2 ++ ([x8] : List Int)))) else (F78L1 p_s legend n3 ((w64 (c2.1 + 1)), c2.2))) else (some (.inr c2.2))

def F78 (fuel : Nat)  (p_s : S_api_Span) (legend : (List Int)) : Option ((List Int)) :=
  (F78L1 p_s legend fuel (0, ([p_s.Lo] : List Int))).bind fun o1 => outK o1 (fun (ro1 : (List Int)) => some ro1) (fun (so1 : (List Int)) => some so1)

-- hachure/hachurelaw09.shown P
def F51L2 (fuel : Nat) (p_m : S_api_ClMap) (legend : (List Int)) (inks : (List Int)) (x2 : (List Int)) (x4 : (List Int)) (c6 : Int) : Nat → Int → Option ((Bool) ⊕ (Unit))
  | 0, _ => none
  | n11 + 1, c10 => if (decide (c10 < (x4.length : Int))) then ((idx x2 c6).bind fun x13 => (F42 fuel legend x13).bind fun x14 => (idx x4 c10).bind fun x15 => (F42 fuel legend x15).bind fun x16 => (optG (x14 != x16) (idx inks x14)).bind fun x17 => (optG (x14 != x16) (idx inks x16)).bind fun x18 => (optG (x14 != x16) (F49 fuel p_m x17 x18)).bind fun x19 => if (cond (x14 != x16) x19 false) then (some (.inl true)) else (F51L2 fuel p_m legend inks x2 x4 c6 n11 (w64 (c10 + 1)))) else (some (.inr ()))

def F51L1 (fuel : Nat) (p_m : S_api_ClMap) (legend : (List Int)) (inks : (List Int)) (x2 : (List Int)) (x4 : (List Int)) : Nat → Int → Option ((Bool) ⊕ (Unit))
  | 0, _ => none
  | n7 + 1, c6 => if (decide (c6 < (x2.length : Int))) then ((F51L2 fuel p_m legend inks x2 x4 c6 fuel 0).bind fun o9 => outK o9 (fun (ro9 : Bool) => some (.inl ro9)) (fun (so9 : Unit) => F51L1 fuel p_m legend inks x2 x4 n7 (w64 (c6 + 1)))) else (some (.inr ()))

def F51 (fuel : Nat)  (p_m : S_api_ClMap) (legend : (List Int)) (inks : (List Int)) (p_s : S_api_ClPair) : Option (Bool) :=
  (idx p_m.Heights p_s.A).bind fun x1 => (F78 fuel x1 legend).bind fun x2 => (idx p_m.Heights p_s.B).bind fun x3 => (F78 fuel x3 legend).bind fun x4 => (F51L1 fuel p_m legend inks x2 x4 fuel 0).bind fun o5 => outK o5 (fun (ro5 : Bool) => some ro5) (fun (so5 : Unit) => some false)

-- hachure/hachurelaw09.ColourNamed P
def F11L1 (fuel : Nat) (p_m : S_api_ClMap) (p_x : S_hachurelaw09qPast) (x4 : (List Int)) (x8 : (List Int)) (x9 : (List Int) × Int) : Nat → Int → Option ((Bool) ⊕ (Unit))
  | 0, _ => none
  | n14 + 1, c13 => if (decide (c13 < (p_m.Sides.length : Int))) then ((idx p_m.Sides c13).bind fun x16 => (idx p_m.Heights x16.A).bind fun x17 => (F44 p_x.Truth x16.A).bind fun x18 => (F43 x17 x18).bind fun x19 => (F42 fuel x4 x19).bind fun x20 => (idx p_m.Heights x16.B).bind fun x21 => (F44 p_x.Truth x16.B).bind fun x22 => (F43 x21 x22).bind fun x23 => (F42 fuel x4 x23).bind fun x24 => (F46 fuel x9.1 c13).bind fun x25 => (optG (cond (!x25) (x20 != x24) false) (idx x8 x20)).bind fun x26 => (optG (cond (!x25) (x20 != x24) false) (idx x8 x24)).bind fun x27 => (optG (cond (!x25) (x20 != x24) false) (F49 fuel p_m x26 x27)).bind fun x28 => if (cond (cond (!x25) (x20 != x24) false) x28 false) then (some (.inl false)) else ((F51 fuel p_m x4 x8 x16).bind fun x30 => if (!(x25 == x30)) then (some (.inl false)) else (F11L1 fuel p_m p_x x4 x8 x9 n14 (w64 (c13 + 1))))) else (some (.inr ()))

def F11L2 (fuel : Nat) (p_m : S_api_ClMap) (x4 : (List Int)) (x8 : (List Int)) (x10 : (List S_api_ClPair) × Int) : Nat → (Bool × Int) → Option ((Bool) ⊕ (Bool))
  | 0, _ => none
  | n34 + 1, c33 => if (decide (c33.2 < (x10.1.length : Int))) then ((idx x10.1 c33.2).bind fun x36 => (optG (!(decide (x36.A < 0))) (idx x10.1 c33.2)).bind fun x37 => (optG (!(decide (x36.A < 0))) (idx x10.1 c33.2)).bind fun x38 => (optG (!(cond (decide (x36.A < 0)) true (decide (x37.A ≥ x38.B)))) (idx x10.1 c33.2)).bind fun x39 => if (cond (cond (decide (x36.A < 0)) true (decide (x37.A ≥ x38.B))) true (decide (x39.B > (x4.length : Int)))) then (some (.inl false)) else ((optG (!c33.1) (idx x10.1 c33.2)).bind fun x41 => (optG (!c33.1) (idx x8 x41.A)).bind fun x42 => (optG (!c33.1) (idx x10.1 c33.2)).bind fun x43 => (optG (!c33.1) (idx x8 x43.B)).bind fun x44 => (optG (!c33.1) (F49 fuel p_m x42 x44)).bind fun x45 => F11L2 fuel p_m x4 x8 x10 n34 ((cond c33.1 true x45), (w64 (c33.2 + 1))))) else (some (.inr c33.1))

def F11 (fuel : Nat)  (p_m : S_api_ClMap) (p_x : S_hachurelaw09qPast) (y : (List Int)) : Option (Bool) :=
  (F39 fuel p_m).bind fun x1 => if (!x1) then ((F30 fuel).bind fun x3 => some x3) else ((F40 fuel p_m p_x.Legend).bind fun x4 => (F41 fuel p_m x4).bind fun x5 => if (!x5) then ((F30 fuel).bind fun x7 => some x7) else ((F50 fuel p_m y).bind fun x8 => (F33 fuel p_m x4 x8).bind fun x9 => (F27 fuel p_m x4).bind fun x10 => if (cond (x9.2 != 0) true (x10.2 != 0)) then (some false) else ((F11L1 fuel p_m p_x x4 x8 x9 fuel 0).bind fun o12 => outK o12 (fun (ro12 : Bool) => some ro12) (fun (so12 : Unit) => (F11L2 fuel p_m x4 x8 x10 fuel (false, 0)).bind fun o32 => outK o32 (fun (ro32 : Bool) => some ro32) (fun (so32 : Bool) => (optG (so32 == (decide ((x9.1.length : Int) > 0))) (F30 fuel)).bind fun x46 => some (cond (so32 == (decide ((x9.1.length : Int) > 0))) x46 false))))))
end Go.Proofs.Ytpkhbbboedoldaa
