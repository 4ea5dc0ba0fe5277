/- What functions of the seat compute. Printed by a program of mine. -/
import Derived.Test.YtadejgckgnbaoaaP
import Derived.Test.YtadejgckgnbaoaaDK
namespace Go.Proofs.Ytadejgckgnbaoaa
open Go Go.Sx
set_option linter.unusedVariables false

-- hachure/hachurelaw04.turn P
def F71  (l : (List Int)) (p_n : Int) : Option (Int) :=
  if ((l.length : Int) == 0) then (some 0) else ((need ((l.length : Int) ≠ 0)).bind fun x2 => (idx l (p_n.tmod (l.length : Int))).bind fun x3 => some (IntKind.i64.wrap x3))

-- hachure/hachurelaw04.Any P
def F41L1 (p_r : S_api_CvRow) (p_x : (List Int)) : Nat → (Int × (List Int)) → Option (((List Int)) ⊕ ((List Int)))
  | 0, _ => none
  | n4 + 1, c3 => if (decide (c3.1 < (p_r.Points.length : Int))) then ((idx p_r.Points c3.1).bind fun x6 => (if (decide (c3.1 > 0)) then ((idx c3.2 (w64 (c3.1 - 1))).bind fun x9 => (idx c3.2 (w64 (c3.1 - 1))).bind fun x10 => some (.inr ((if (w64 (x9 - p_r.Steep)) > x6.Lo then (w64 (x9 - p_r.Steep)) else x6.Lo), (if (w64 (x10 + p_r.Steep)) < x6.Hi then (w64 (x10 + p_r.Steep)) else x6.Hi)))) else (some (.inr (x6.Lo, x6.Hi)))).bind fun o7 => outK o7 (fun (ro7 : (List Int)) => some (.inl ro7)) (fun (so7 : Int × Int) => if (decide (so7.1 > so7.2)) then ((F71 p_x c3.1).bind fun x12 => (need ((w64 ((w64 (x6.Lo - x6.Lo)) + 1)) ≠ 0)).bind fun x13 => (need ((c3.2.length + ([(w64 (x6.Lo + (x12.tmod (w64 ((w64 (x6.Lo - x6.Lo)) + 1)))))] : List Int).length) * 8 ≤ 140737488355328 ∧ c3.2.length + ([(w64 (x6.Lo + (x12.tmod (w64 ((w64 (x6.Lo - x6.Lo)) + 1)))))] : List Int).length ≤ 9223372036854775807)).bind fun x14 => F41L1 p_r p_x n4 ((w64 (c3.1 + 1)), (c3.2 ++ ([(w64 (x6.Lo + (x12.tmod (w64 ((w64 (x6.Lo - x6.Lo)) + 1)))))] : List Int)))) else ((F71 p_x c3.1).bind fun x15 => (need ((w64 ((w64 (so7.2 - so7.1)) + 1)) ≠ 0)).bind fun x16 => (need ((c3.2.length + ([(w64 (so7.1 + (x15.tmod (w64 ((w64 (so7.2 - so7.1)) + 1)))))] : List Int).length) * 8 ≤ 140737488355328 ∧ c3.2.length + ([(w64 (so7.1 + (x15.tmod (w64 ((w64 (so7.2 - so7.1)) + 1)))))] : List Int).length ≤ 9223372036854775807)).bind fun x17 => F41L1 p_r p_x n4 ((w64 (c3.1 + 1)), (c3.2 ++ ([(w64 (so7.1 + (x15.tmod (w64 ((w64 (so7.2 - so7.1)) + 1)))))] : List Int)))))) else (some (.inr c3.2))

def F41 (fuel : Nat)  (p_r : S_api_CvRow) (p_x : (List Int)) : Option ((List Int)) :=
  (F41L1 p_r p_x fuel (0, ([] : List Int))).bind fun o2 => outK o2 (fun (ro2 : (List Int)) => some ro2) (fun (so2 : (List Int)) => some so2)

-- hachure/hachurelaw04.good P
def F42 (fuel : Nat)  (p_r : S_api_CvRow) (p_s : (List Int)) : Option (Bool) :=
  (F61 fuel p_r p_s).bind fun x1 => (F60 fuel p_r p_s).bind fun x2 => some (cond (x2 == 0) (x1.2 == 0) false)
end Go.Proofs.Ytadejgckgnbaoaa
