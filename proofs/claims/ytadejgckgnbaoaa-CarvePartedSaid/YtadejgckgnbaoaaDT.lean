/- What functions of the seat compute. Printed by a program of mine. -/
import Derived.Test.YtadejgckgnbaoaaP
import Derived.Test.YtadejgckgnbaoaaDA
import Derived.Test.YtadejgckgnbaoaaDV
namespace Go.Proofs.Ytadejgckgnbaoaa
open Go Go.Sx
set_option linter.unusedVariables false

-- hachure/hachureref04.Turned P
def F47L1 (p_r : S_api_CvRow) : Nat → (Int × (List S_api_CvPoint)) → Option ((S_api_CvRow) ⊕ ((List S_api_CvPoint)))
  | 0, _ => none
  | n4 + 1, c3 => if (decide (c3.1 ≥ 0)) then ((idx p_r.Points c3.1).bind fun x6 => (need ((c3.2.length + ([x6] : List S_api_CvPoint).length) * 24 ≤ 140737488355328 ∧ c3.2.length + ([x6] : List S_api_CvPoint).length ≤ 9223372036854775807)).bind fun x7 => F47L1 p_r n4 ((w64 (c3.1 - 1)), (c3.2 ++ ([x6] : List S_api_CvPoint)))) else (some (.inr c3.2))

def F47 (fuel : Nat)  (p_r : S_api_CvRow) : Option (S_api_CvRow) :=
  (F47L1 p_r fuel ((w64 ((p_r.Points.length : Int) - 1)), ([] : List S_api_CvPoint))).bind fun o2 => outK o2 (fun (ro2 : S_api_CvRow) => some ro2) (fun (so2 : (List S_api_CvPoint)) => some (⟨p_r.Steep, so2⟩ : S_api_CvRow))

-- hachure/hachurelaw04.CarveTurned P
def F13L1 (x5 : (List S_api_Span) × Int) (x6 : (List S_api_Span) × Int) : Nat → Int → Option ((Bool) ⊕ (Unit))
  | 0, _ => none
  | n10 + 1, c9 => if (decide (c9 < (x5.1.length : Int))) then ((idx x5.1 c9).bind fun x12 => (idx x6.1 (w64 ((w64 ((x6.1.length : Int) - 1)) - c9))).bind fun x13 => if (!((x12.Lo == x13.Lo) && (x12.Hi == x13.Hi))) then (some (.inl false)) else (F13L1 x5 x6 n10 (w64 (c9 + 1)))) else (some (.inr ()))

def F13L2 (fuel : Nat) (p_r : S_api_CvRow) (x4 : S_api_CvRow) : Nat → Int → Option ((Bool) ⊕ (Unit))
  | 0, _ => none
  | n20 + 1, c19 => if (decide (c19 < 2)) then ((F36 fuel p_r (c19 == 1)).bind fun x22 => (F36 fuel (⟨x4.Steep, x4.Points⟩ : S_api_CvRow) (c19 == 1)).bind fun x23 => if (cond (cond (x22.2.1 != x23.2.1) true (x22.2.2.1 != x23.2.2.1)) true (x22.2.2.2 != x23.2.2.2)) then (some (.inl false)) else (F13L2 fuel p_r x4 n20 (w64 (c19 + 1)))) else (some (.inr ()))

def F13 (fuel : Nat)  (p_r : S_api_CvRow) : Option (Bool) :=
  (F40 fuel p_r).bind fun x1 => if (!x1) then ((F25 fuel).bind fun x3 => some x3) else ((F47 fuel p_r).bind fun x4 => (F18 fuel p_r).bind fun x5 => (F18 fuel (⟨x4.Steep, x4.Points⟩ : S_api_CvRow)).bind fun x6 => if (cond (x5.2 != x6.2) true ((x5.1.length : Int) != (x6.1.length : Int))) then (some false) else ((F13L1 x5 x6 fuel 0).bind fun o8 => outK o8 (fun (ro8 : Bool) => some ro8) (fun (so8 : Unit) => (F23 fuel p_r).bind fun x15 => (F23 fuel (⟨x4.Steep, x4.Points⟩ : S_api_CvRow)).bind fun x16 => if (cond (x15.1 != x16.1) true (x15.2 != x16.2)) then (some false) else ((F13L2 fuel p_r x4 fuel 0).bind fun o18 => outK o18 (fun (ro18 : Bool) => some ro18) (fun (so18 : Unit) => (F25 fuel).bind fun x25 => some x25)))))
end Go.Proofs.Ytadejgckgnbaoaa
