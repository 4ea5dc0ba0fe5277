/- What functions of the seat compute. Printed by a program of mine. -/
import Derived.Test.YtadejgckgnbaoaaP
namespace Go.Proofs.Ytadejgckgnbaoaa
open Go Go.Sx
set_option linter.unusedVariables false

-- hachure/hachureref04.in P
def F50  (p_n : Int) (low : Int) (high : Int) : Option (Bool) :=
  some (cond (decide (p_n ≥ low)) (decide (p_n ≤ high)) false)

-- hachure/hachureref04.Check P
def F17L1 (p_r : S_api_CvRow) : Nat → Int → Option ((Int × Int × Int) ⊕ (Unit))
  | 0, _ => none
  | n7 + 1, c6 => if (decide (c6 < (p_r.Points.length : Int))) then ((idx p_r.Points c6).bind fun x9 => (F50 x9.Board 0 9000).bind fun x10 => (optG (!(!x10)) (F50 x9.Lo 0 9000)).bind fun x11 => (optG (!(cond (!x10) true (!x11))) (F50 x9.Hi 0 9000)).bind fun x12 => if (cond (cond (!x10) true (!x11)) true (!x12)) then (some (.inl (2, c6, 7))) else ((F50 x9.Hi x9.Lo (w64 (x9.Lo + 30))).bind fun x14 => if (!x14) then (some (.inl (2, c6, 2))) else (F17L1 p_r n7 (w64 (c6 + 1))))) else (some (.inr ()))

def F17 (fuel : Nat)  (p_r : S_api_CvRow) : Option (Int × Int × Int) :=
  (F50 p_r.Steep 0 200).bind fun x1 => if (!x1) then (some (1, 0, 7)) else ((F50 (p_r.Points.length : Int) 1 10).bind fun x3 => if (!x3) then (some (1, 0, 3)) else ((F17L1 p_r fuel 0).bind fun o5 => outK o5 (fun (ro5 : Int × Int × Int) => some ro5) (fun (so5 : Unit) => some (0, 0, 0))))

-- hachure/hachurelaw04.valid P
def F40 (fuel : Nat)  (p_r : S_api_CvRow) : Option (Bool) :=
  (F17 fuel p_r).bind fun x1 => some (x1.2.2 == 0)
end Go.Proofs.Ytadejgckgnbaoaa
