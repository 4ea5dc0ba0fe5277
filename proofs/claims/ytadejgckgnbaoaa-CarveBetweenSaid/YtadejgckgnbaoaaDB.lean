/- What functions of the seat compute. Printed by a program of mine. -/
import Derived.Test.YtadejgckgnbaoaaP
import Derived.Test.YtadejgckgnbaoaaDA
import Derived.Test.YtadejgckgnbaoaaDV
namespace Go.Proofs.Ytadejgckgnbaoaa
open Go Go.Sx
set_option linter.unusedVariables false

-- hachure/hachureref04.steps P
def F53  (p_a : Int) (p_b : Int) : Option (Int) :=
  some (if (w64 (p_b - p_a)) > (w64 (p_a - p_b)) then (w64 (p_b - p_a)) else (w64 (p_a - p_b)))

-- hachure/hachureref04.None P
def F55  (p_r : S_api_CvRow) (steep : Int) (p_a : Int) (p_b : Int) : Option (Bool) :=
  (F53 p_a p_b).bind fun x1 => (idx p_r.Points p_a).bind fun x2 => (idx p_r.Points p_b).bind fun x3 => (optG (!(decide (x2.Lo > (w64 (x3.Hi + (w64 (steep * x1))))))) (idx p_r.Points p_b)).bind fun x4 => (optG (!(decide (x2.Lo > (w64 (x3.Hi + (w64 (steep * x1))))))) (idx p_r.Points p_a)).bind fun x5 => some (cond (decide (x2.Lo > (w64 (x3.Hi + (w64 (steep * x1)))))) true (decide (x4.Lo > (w64 (x5.Hi + (w64 (steep * x1)))))))

-- hachure/hachureref04.Some P
def F52L2 (p_r : S_api_CvRow) (steep : Int) (c2 : Int) : Nat → Int → Option ((Bool) ⊕ (Unit))
  | 0, _ => none
  | n7 + 1, c6 => if (decide (c6 < (p_r.Points.length : Int))) then ((F55 p_r steep c2 c6).bind fun x9 => if x9 then (some (.inl false)) else (F52L2 p_r steep c2 n7 (w64 (c6 + 1)))) else (some (.inr ()))

def F52L1 (fuel : Nat) (p_r : S_api_CvRow) (steep : Int) : Nat → Int → Option ((Bool) ⊕ (Unit))
  | 0, _ => none
  | n3 + 1, c2 => if (decide (c2 < (p_r.Points.length : Int))) then ((F52L2 p_r steep c2 fuel c2).bind fun o5 => outK o5 (fun (ro5 : Bool) => some (.inl ro5)) (fun (so5 : Unit) => F52L1 fuel p_r steep n3 (w64 (c2 + 1)))) else (some (.inr ()))

def F52 (fuel : Nat)  (p_r : S_api_CvRow) (steep : Int) : Option (Bool) :=
  (F52L1 fuel p_r steep fuel 0).bind fun o1 => outK o1 (fun (ro1 : Bool) => some ro1) (fun (so1 : Unit) => some true)

-- hachure/hachureref04.Bounds P
def F19L2 (p_r : S_api_CvRow) (c8 : Int × (List S_api_Span)) : Nat → (Int × Int × Int) → Option (((List S_api_Span) × Int) ⊕ (Int × Int))
  | 0, _ => none
  | n15 + 1, c14 => if (decide (c14.1 < (p_r.Points.length : Int))) then ((F53 c8.1 c14.1).bind fun x17 => (idx p_r.Points c14.1).bind fun x18 => (idx p_r.Points c14.1).bind fun x19 => F19L2 p_r c8 n15 ((w64 (c14.1 + 1)), (if (w64 (x18.Lo - (w64 (p_r.Steep * x17)))) > c14.2.1 then (w64 (x18.Lo - (w64 (p_r.Steep * x17)))) else c14.2.1), (if (w64 (x19.Hi + (w64 (p_r.Steep * x17)))) < c14.2.2 then (w64 (x19.Hi + (w64 (p_r.Steep * x17)))) else c14.2.2))) else (some (.inr (c14.2.1, c14.2.2)))

def F19L1 (fuel : Nat) (p_r : S_api_CvRow) : Nat → (Int × (List S_api_Span)) → Option (((List S_api_Span) × Int) ⊕ ((List S_api_Span)))
  | 0, _ => none
  | n9 + 1, c8 => if (decide (c8.1 < (p_r.Points.length : Int))) then ((idx p_r.Points c8.1).bind fun x11 => (idx p_r.Points c8.1).bind fun x12 => (F19L2 p_r c8 fuel (0, x11.Lo, x12.Hi)).bind fun o13 => outK o13 (fun (ro13 : (List S_api_Span) × Int) => some (.inl ro13)) (fun (so13 : Int × Int) => (need ((c8.2.length + ([(⟨so13.1, so13.2⟩ : S_api_Span)] : List S_api_Span).length) * 16 ≤ 140737488355328 ∧ c8.2.length + ([(⟨so13.1, so13.2⟩ : S_api_Span)] : List S_api_Span).length ≤ 9223372036854775807)).bind fun x20 => F19L1 fuel p_r n9 ((w64 (c8.1 + 1)), (c8.2 ++ ([(⟨so13.1, so13.2⟩ : S_api_Span)] : List S_api_Span))))) else (some (.inr c8.2))

def F19 (fuel : Nat)  (p_r : S_api_CvRow) : Option ((List S_api_Span) × Int) :=
  (F17 fuel p_r).bind fun x1 => (optG (x1.2.2 == 0) (F52 fuel p_r p_r.Steep)).bind fun x2 => (if (cond (x1.2.2 == 0) (!x2) false) then (some (.inr 9)) else (some (.inr x1.2.2))).bind fun o3 => outK o3 (fun (ro3 : (List S_api_Span) × Int) => some ro3) (fun (so3 : Int) => if (so3 != 0) then (some (([] : List S_api_Span), so3)) else ((F19L1 fuel p_r fuel (0, ([] : List S_api_Span))).bind fun o7 => outK o7 (fun (ro7 : (List S_api_Span) × Int) => some ro7) (fun (so7 : (List S_api_Span)) => some (so7, 0))))

-- hachure/hachureref04.Prevents P
def F22L2 (p_r : S_api_CvRow) (c4 : Int) : Nat → Int → Option ((Int × Int × Int) ⊕ (Unit))
  | 0, _ => none
  | n9 + 1, c8 => if (decide (c8 ≥ 0)) then ((F55 p_r p_r.Steep c8 c4).bind fun x11 => if x11 then (some (.inl (c8, c4, 0))) else (F22L2 p_r c4 n9 (w64 (c8 - 1)))) else (some (.inr ()))

def F22L1 (fuel : Nat) (p_r : S_api_CvRow) : Nat → Int → Option ((Int × Int × Int) ⊕ (Unit))
  | 0, _ => none
  | n5 + 1, c4 => if (decide (c4 < (p_r.Points.length : Int))) then ((F22L2 p_r c4 fuel c4).bind fun o7 => outK o7 (fun (ro7 : Int × Int × Int) => some (.inl ro7)) (fun (so7 : Unit) => F22L1 fuel p_r n5 (w64 (c4 + 1)))) else (some (.inr ()))

def F22 (fuel : Nat)  (p_r : S_api_CvRow) : Option (Int × Int × Int) :=
  (F17 fuel p_r).bind fun x1 => if (x1.2.2 != 0) then (some (0, 0, x1.2.2)) else ((F22L1 fuel p_r fuel 0).bind fun o3 => outK o3 (fun (ro3 : Int × Int × Int) => some ro3) (fun (so3 : Unit) => some (0, 0, 4)))

-- hachure/hachureref04.Need P
def F24L1 (fuel : Nat) (p_r : S_api_CvRow) : Nat → (Int × Int) → Option ((Int × Int) ⊕ (Int))
  | 0, _ => none
  | n5 + 1, c4 => if (decide (c4.1 < c4.2)) then ((F52 fuel p_r (w64 ((w64 (c4.1 + c4.2)).tdiv 2))).bind fun x7 => if x7 then (F24L1 fuel p_r n5 (c4.1, (w64 ((w64 (c4.1 + c4.2)).tdiv 2)))) else (F24L1 fuel p_r n5 ((w64 ((w64 ((w64 (c4.1 + c4.2)).tdiv 2)) + 1)), c4.2))) else (some (.inr c4.1))

def F24 (fuel : Nat)  (p_r : S_api_CvRow) : Option (Int × Int) :=
  (F17 fuel p_r).bind fun x1 => if (x1.2.2 != 0) then (some (0, x1.2.2)) else ((F24L1 fuel p_r fuel (0, 9000)).bind fun o3 => outK o3 (fun (ro3 : Int × Int) => some ro3) (fun (so3 : Int) => some (so3, 0)))

-- hachure/hachurelaw04.CarveBounds P
def F3 (fuel : Nat)  (p_r : S_api_CvRow) : Option (Bool) :=
  (F16 fuel p_r).bind fun x1 => (F17 fuel p_r).bind fun x2 => if (cond (cond (x1.1 != x2.1) true (x1.2.1 != x2.2.1)) true (x1.2.2 != x2.2.2)) then (some false) else ((F18 fuel p_r).bind fun x4 => (F19 fuel p_r).bind fun x5 => (F20 fuel x4.1 x5.1).bind fun x6 => if (cond (!x6) true (x4.2 != x5.2)) then (some false) else ((F21 fuel p_r).bind fun x8 => (F22 fuel p_r).bind fun x9 => if (cond (cond (x8.1 != x9.1) true (x8.2.1 != x9.2.1)) true (x8.2.2 != x9.2.2)) then (some false) else ((F23 fuel p_r).bind fun x11 => (F24 fuel p_r).bind fun x12 => (optG (cond (x11.1 == x12.1) (x11.2 == x12.2) false) (F25 fuel)).bind fun x13 => some (cond (cond (x11.1 == x12.1) (x11.2 == x12.2) false) x13 false))))
end Go.Proofs.Ytadejgckgnbaoaa
