/- What functions of the seat compute. Printed by a program of mine. -/
import Derived.Test.YtpkhbbboedoldaaP
import Derived.Test.YtpkhbbboedoldaaDA
import Derived.Test.YtpkhbbboedoldaaDE
import Derived.Test.YtpkhbbboedoldaaDM
import Derived.Test.YtpkhbbboedoldaaDW
namespace Go.Proofs.Ytpkhbbboedoldaa
open Go Go.Sx
set_option linter.unusedVariables false

-- hachure/hachurelaw09.ColourKnown P
def F6 (fuel : Nat)   : Option (Bool) :=
  (F37 3).bind fun x1 => (F24 fuel (⟨x1.Borders, x1.Step, x1.Heights, x1.Sides, x1.Inks, x1.Like⟩ : S_api_ClMap) ([104, 203] : List Int)).bind fun x2 => (F27 fuel (⟨x1.Borders, x1.Step, x1.Heights, x1.Sides, x1.Inks, x1.Like⟩ : S_api_ClMap) ([104, 203] : List Int)).bind fun x3 => (F33 fuel (⟨x1.Borders, x1.Step, x1.Heights, x1.Sides, x1.Inks, x1.Like⟩ : S_api_ClMap) ([104, 203] : List Int) ([0, 1, 2] : List Int)).bind fun x4 => (F19 fuel (⟨x1.Borders, x1.Step, x1.Heights, x1.Sides, x1.Inks, x1.Like⟩ : S_api_ClMap) ([100, 205] : List Int)).bind fun x5 => (optG (cond (cond (cond (x2.2 == 0) (x3.2 == 0) false) (x4.2 == 0) false) ((x2.1.length : Int) == 0) false) (F38 0 1)).bind fun x6 => (optG (cond (cond (cond (x2.2 == 0) (x3.2 == 0) false) (x4.2 == 0) false) ((x2.1.length : Int) == 0) false) (F38 1 2)).bind fun x7 => (optG (cond (cond (cond (x2.2 == 0) (x3.2 == 0) false) (x4.2 == 0) false) ((x2.1.length : Int) == 0) false) (F29 fuel x3.1 ([(⟨x6.A, x6.B⟩ : S_api_ClPair), (⟨x7.A, x7.B⟩ : S_api_ClPair)] : List S_api_ClPair))).bind fun x8 => (optG (cond (cond (cond (cond (x2.2 == 0) (x3.2 == 0) false) (x4.2 == 0) false) ((x2.1.length : Int) == 0) false) x8 false) (F26 fuel x4.1 ([1] : List Int))).bind fun x9 => (optG (cond (cond (cond (cond (cond (cond (cond (x2.2 == 0) (x3.2 == 0) false) (x4.2 == 0) false) ((x2.1.length : Int) == 0) false) x8 false) x9 false) (x5.1 == 1) false) (x5.2 == 7) false) (F30 fuel)).bind fun x10 => some (cond (cond (cond (cond (cond (cond (cond (cond (x2.2 == 0) (x3.2 == 0) false) (x4.2 == 0) false) ((x2.1.length : Int) == 0) false) x8 false) x9 false) (x5.1 == 1) false) (x5.2 == 7) false) x10 false)
end Go.Proofs.Ytpkhbbboedoldaa
