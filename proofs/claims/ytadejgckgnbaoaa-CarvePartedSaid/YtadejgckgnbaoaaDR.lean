/- What functions of the seat compute. Printed by a program of mine. -/
import Derived.Test.YtadejgckgnbaoaaP
import Derived.Test.YtadejgckgnbaoaaDA
import Derived.Test.YtadejgckgnbaoaaDV
namespace Go.Proofs.Ytadejgckgnbaoaa
open Go Go.Sx
set_option linter.unusedVariables false

-- hachure/hachurelaw04.CarveRaised P
def F14L1 (p_r : S_api_CvRow) (by_ : Int) : Nat → (Bool × Int × (List S_api_CvPoint)) → Option ((Bool) ⊕ (Bool × (List S_api_CvPoint)))
  | 0, _ => none
  | n7 + 1, c6 => if (decide (c6.2.1 < (p_r.Points.length : Int))) then ((idx p_r.Points c6.2.1).bind fun x9 => (need ((c6.2.2.length + ([(⟨(w64 (x9.Board + (IntKind.i64.wrap by_))), (w64 (x9.Lo + (IntKind.i64.wrap by_))), (w64 (x9.Hi + (IntKind.i64.wrap by_)))⟩ : S_api_CvPoint)] : List S_api_CvPoint).length) * 24 ≤ 140737488355328 ∧ c6.2.2.length + ([(⟨(w64 (x9.Board + (IntKind.i64.wrap by_))), (w64 (x9.Lo + (IntKind.i64.wrap by_))), (w64 (x9.Hi + (IntKind.i64.wrap by_)))⟩ : S_api_CvPoint)] : List S_api_CvPoint).length ≤ 9223372036854775807)).bind fun x10 => F14L1 p_r by_ n7 ((cond c6.1 (decide (x9.Board > x9.Hi)) false), (w64 (c6.2.1 + 1)), (c6.2.2 ++ ([(⟨(w64 (x9.Board + (IntKind.i64.wrap by_))), (w64 (x9.Lo + (IntKind.i64.wrap by_))), (w64 (x9.Hi + (IntKind.i64.wrap by_)))⟩ : S_api_CvPoint)] : List S_api_CvPoint)))) else (some (.inr (c6.1, c6.2.2)))

def F14L2 (by_ : Int) (x16 : (List S_api_Span) × Int) (x17 : (List S_api_Span) × Int) : Nat → Int → Option ((Bool) ⊕ (Unit))
  | 0, _ => none
  | n21 + 1, c20 => if (decide (c20 < (x16.1.length : Int))) then ((idx x17.1 c20).bind fun x23 => (idx x16.1 c20).bind fun x24 => (idx x16.1 c20).bind fun x25 => (F48 (w64 (x24.Lo + (IntKind.i64.wrap by_))) (w64 (x25.Hi + (IntKind.i64.wrap by_)))).bind fun x26 => if (!((x23.Lo == x26.Lo) && (x23.Hi == x26.Hi))) then (some (.inl false)) else (F14L2 by_ x16 x17 n21 (w64 (c20 + 1)))) else (some (.inr ()))

def F14L4 (by_ : Int) (x32 : (List Int) × Int × Int × Int) (x33 : (List Int) × Int × Int × Int) : Nat → Int → Option ((Bool) ⊕ (Unit))
  | 0, _ => none
  | n37 + 1, c36 => if (decide (c36 < (x32.1.length : Int))) then ((idx x33.1 c36).bind fun x39 => (idx x32.1 c36).bind fun x40 => if (x39 != (w64 (x40 + (IntKind.i64.wrap by_)))) then (some (.inl false)) else (F14L4 by_ x32 x33 n37 (w64 (c36 + 1)))) else (some (.inr ()))

def F14L3 (fuel : Nat) (p_r : S_api_CvRow) (by_ : Int) (so5 : Bool × (List S_api_CvPoint)) : Nat → Int → Option ((Bool) ⊕ (Unit))
  | 0, _ => none
  | n30 + 1, c29 => if (decide (c29 < 2)) then ((F36 fuel p_r (c29 == 1)).bind fun x32 => (F36 fuel (⟨p_r.Steep, so5.2⟩ : S_api_CvRow) (c29 == 1)).bind fun x33 => if (cond (cond (cond (x32.2.1 != x33.2.1) true (x32.2.2.1 != x33.2.2.1)) true (x32.2.2.2 != x33.2.2.2)) true ((x32.1.length : Int) != (x33.1.length : Int))) then (some (.inl false)) else ((F14L4 by_ x32 x33 fuel 0).bind fun o35 => outK o35 (fun (ro35 : Bool) => some (.inl ro35)) (fun (so35 : Unit) => F14L3 fuel p_r by_ so5 n30 (w64 (c29 + 1))))) else (some (.inr ()))

def F14 (fuel : Nat)  (p_r : S_api_CvRow) (by_ : Int) : Option (Bool) :=
  (F40 fuel p_r).bind fun x1 => if (!x1) then ((F25 fuel).bind fun x3 => some x3) else ((F14L1 p_r by_ fuel (true, 0, ([] : List S_api_CvPoint))).bind fun o5 => outK o5 (fun (ro5 : Bool) => some ro5) (fun (so5 : Bool × (List S_api_CvPoint)) => (F36 fuel p_r false).bind fun x11 => if (cond (cond (x11.2.2.2 == 0) so5.1 false) (x11.2.1 != 0) false) then (some false) else ((F40 fuel (⟨p_r.Steep, so5.2⟩ : S_api_CvRow)).bind fun x13 => if (!x13) then ((F25 fuel).bind fun x15 => some x15) else ((F18 fuel p_r).bind fun x16 => (F18 fuel (⟨p_r.Steep, so5.2⟩ : S_api_CvRow)).bind fun x17 => if (cond (x16.2 != x17.2) true ((x16.1.length : Int) != (x17.1.length : Int))) then (some false) else ((F14L2 by_ x16 x17 fuel 0).bind fun o19 => outK o19 (fun (ro19 : Bool) => some ro19) (fun (so19 : Unit) => (F14L3 fuel p_r by_ so5 fuel 0).bind fun o28 => outK o28 (fun (ro28 : Bool) => some ro28) (fun (so28 : Unit) => (F25 fuel).bind fun x42 => some x42)))))))
end Go.Proofs.Ytadejgckgnbaoaa
