/- What functions of the seat compute. Printed by a program of mine. -/
import Derived.Test.YtpkhbbboedoldaaP
import Derived.Test.YtpkhbbboedoldaaDHS
import Derived.Test.YtpkhbbboedoldaaDM
import Derived.Test.YtpkhbbboedoldaaDP
import Derived.Test.YtpkhbbboedoldaaDR
import Derived.Test.YtpkhbbboedoldaaDT
import Derived.Test.YtpkhbbboedoldaaDW
namespace Go.Proofs.Ytpkhbbboedoldaa
open Go Go.Sx
set_option linter.unusedVariables false

-- hachure/hachurelaw09.ColourPainted P
def F9L1 (p_m : S_api_ClMap) (x5 : (List Int) × Int × Int) : Nat → Int → Option ((Bool) ⊕ (Unit))
  | 0, _ => none
  | n15 + 1, c14 => if (decide (c14 < (x5.1.length : Int))) then ((idx x5.1 c14).bind fun x17 => (optG (!(decide (x17 < 0))) (idx x5.1 c14)).bind fun x18 => if (cond (decide (x17 < 0)) true (decide (x18 ≥ p_m.Inks))) then (some (.inl false)) else (F9L1 p_m x5 n15 (w64 (c14 + 1)))) else (some (.inr ()))

def F9L2 (fuel : Nat) (p_m : S_api_ClMap) (p_x : S_hachurelaw09qPast) (x4 : (List Int)) (x5 : (List Int) × Int × Int) : Nat → Int → Option ((Bool) ⊕ (Unit))
  | 0, _ => none
  | n22 + 1, c21 => if (decide (c21 < (p_m.Sides.length : Int))) then ((idx p_m.Sides c21).bind fun x24 => (idx p_m.Heights x24.A).bind fun x25 => (idx p_m.Sides c21).bind fun x26 => (F44 p_x.Truth x26.A).bind fun x27 => (F43 x25 x27).bind fun x28 => (F42 fuel x4 x28).bind fun x29 => (idx p_m.Sides c21).bind fun x30 => (idx p_m.Heights x30.B).bind fun x31 => (idx p_m.Sides c21).bind fun x32 => (F44 p_x.Truth x32.B).bind fun x33 => (F43 x31 x33).bind fun x34 => (F42 fuel x4 x34).bind fun x35 => (idx x5.1 x29).bind fun x36 => (idx x5.1 x35).bind fun x37 => (F49 fuel p_m x36 x37).bind fun x38 => if (!(x38 == (x29 == x35))) then (some (.inl false)) else (F9L2 fuel p_m p_x x4 x5 n22 (w64 (c21 + 1)))) else (some (.inr ()))

def F9 (fuel : Nat)  (p_m : S_api_ClMap) (p_x : S_hachurelaw09qPast) : Option (Bool) :=
  (F39 fuel p_m).bind fun x1 => if (!x1) then ((F30 fuel).bind fun x3 => some x3) else ((F40 fuel p_m p_x.Legend).bind fun x4 => (F31 fuel p_m x4).bind fun x5 => (F41 fuel p_m x4).bind fun x6 => if (cond (!x6) true (x5.2.2 != 0)) then ((F41 fuel p_m x4).bind fun x8 => (optG (!(cond (!x8) (x5.2.2 != 0) false)) (F41 fuel p_m x4)).bind fun x9 => (optG (cond (cond (cond (cond (!x8) (x5.2.2 != 0) false) true (cond x9 (x5.2.2 == 9) false)) ((x5.1.length : Int) == 0) false) (x5.2.1 == 0) false) (F30 fuel)).bind fun x10 => some (cond (cond (cond (cond (cond (!x8) (x5.2.2 != 0) false) true (cond x9 (x5.2.2 == 9) false)) ((x5.1.length : Int) == 0) false) (x5.2.1 == 0) false) x10 false)) else ((optG (!((x5.1.length : Int) != (w64 ((x4.length : Int) + 1)))) (F48 fuel x5.1)).bind fun x11 => if (cond ((x5.1.length : Int) != (w64 ((x4.length : Int) + 1))) true (x5.2.1 != x11)) then (some false) else ((F9L1 p_m x5 fuel 0).bind fun o13 => outK o13 (fun (ro13 : Bool) => some ro13) (fun (so13 : Unit) => (F9L2 fuel p_m p_x x4 x5 fuel 0).bind fun o20 => outK o20 (fun (ro20 : Bool) => some ro20) (fun (so20 : Unit) => (F33 fuel p_m x4 x5.1).bind fun x40 => (optG (cond (x40.2 == 0) ((x40.1.length : Int) == 0) false) (F30 fuel)).bind fun x41 => some (cond (cond (x40.2 == 0) ((x40.1.length : Int) == 0) false) x41 false))))))
end Go.Proofs.Ytpkhbbboedoldaa
