/- What functions of the seat compute. Printed by a program of mine. -/
import Derived.Test.YtadejgckgnbaoaaP
import Derived.Test.YtadejgckgnbaoaaDA
import Derived.Test.YtadejgckgnbaoaaDV
namespace Go.Proofs.Ytadejgckgnbaoaa
open Go Go.Sx
set_option linter.unusedVariables false

-- hachure/hachureref04.Surface P
def F60L1 (p_s : (List Int)) : Nat → (Int × Int) → Option ((Int) ⊕ (Int))
  | 0, _ => none
  | n6 + 1, c5 => if (cond (decide (c5.2 < (p_s.length : Int))) (c5.1 == 0) false) then ((idx p_s c5.2).bind fun x8 => (F50 x8 0 9000).bind fun x9 => if (!x9) then (F60L1 p_s n6 (7, (w64 (c5.2 + 1)))) else (F60L1 p_s n6 (c5.1, (w64 (c5.2 + 1))))) else (some (.inr c5.1))

def F60 (fuel : Nat)  (p_r : S_api_CvRow) (p_s : (List Int)) : Option (Int) :=
  (F17 fuel p_r).bind fun x1 => (if (cond (x1.2.2 == 0) ((p_s.length : Int) != (p_r.Points.length : Int)) false) then (some (.inr 3)) else (some (.inr x1.2.2))).bind fun o2 => outK o2 (fun (ro2 : Int) => some ro2) (fun (so2 : Int) => (F60L1 p_s fuel (so2, 0)).bind fun o4 => outK o4 (fun (ro4 : Int) => some ro4) (fun (so4 : Int) => some so4))

-- hachure/hachureref04.Wrong P
def F77  (p_r : S_api_CvRow) (before : (List Int)) (high : Int) : Option (Int) :=
  (idx p_r.Points (before.length : Int)).bind fun x1 => if (decide (high < x1.Lo)) then (some 1) else ((idx p_r.Points (before.length : Int)).bind fun x3 => if (decide (high > x3.Hi)) then (some 2) else ((optG (decide ((before.length : Int) > 0)) (idx before (w64 ((before.length : Int) - 1)))).bind fun x5 => (optG ((decide ((before.length : Int) > 0)) && (!(decide ((w64 (high - x5)) > p_r.Steep)))) (idx before (w64 ((before.length : Int) - 1)))).bind fun x6 => if (cond (decide ((before.length : Int) > 0)) (cond (decide ((w64 (high - x5)) > p_r.Steep)) true (decide ((w64 (x6 - high)) > p_r.Steep))) false) then (some 3) else (some 0)))

-- hachure/hachureref04.First P
def F61L1 (p_r : S_api_CvRow) (p_s : (List Int)) : Nat → Int → Option ((Int × Int) ⊕ (Unit))
  | 0, _ => none
  | n3 + 1, c2 => if (decide (c2 < (p_s.length : Int))) then ((sub p_s 0 c2).bind fun x5 => (idx p_s c2).bind fun x6 => (F77 p_r x5 x6).bind fun x7 => if (x7 != 0) then (some (.inl (c2, x7))) else (F61L1 p_r p_s n3 (w64 (c2 + 1)))) else (some (.inr ()))

def F61 (fuel : Nat)  (p_r : S_api_CvRow) (p_s : (List Int)) : Option (Int × Int) :=
  (F61L1 p_r p_s fuel 0).bind fun o1 => outK o1 (fun (ro1 : Int × Int) => some ro1) (fun (so1 : Unit) => some (0, 0))

-- hachure/hachureref04.Why P
def F27 (fuel : Nat)  (p_r : S_api_CvRow) (p_s : (List Int)) : Option (Int × Int × Int) :=
  (F60 fuel p_r p_s).bind fun x1 => if (x1 != 0) then (some (0, 0, x1)) else ((F61 fuel p_r p_s).bind fun x3 => some (x3.1, x3.2, 0))

-- hachure/hachureref04.Fills P
def F43L1 (p_r : S_api_CvRow) (p_s : (List Int)) : Nat → (Int × Int) → Option ((Int) ⊕ (Int))
  | 0, _ => none
  | n3 + 1, c2 => if (decide (c2.2 < (p_s.length : Int))) then ((idx p_s c2.2).bind fun x5 => (idx p_r.Points c2.2).bind fun x6 => F43L1 p_r p_s n3 ((w64 (c2.1 + (if (w64 (x5 - x6.Board)) > 0 then (w64 (x5 - x6.Board)) else 0))), (w64 (c2.2 + 1)))) else (some (.inr c2.1))

def F43 (fuel : Nat)  (p_r : S_api_CvRow) (p_s : (List Int)) : Option (Int) :=
  (F43L1 p_r p_s fuel (0, 0)).bind fun o1 => outK o1 (fun (ro1 : Int) => some ro1) (fun (so1 : Int) => some so1)

-- hachure/hachureref04.Plaster P
def F29 (fuel : Nat)  (p_r : S_api_CvRow) (p_s : (List Int)) : Option (Int × Int) :=
  (F60 fuel p_r p_s).bind fun x1 => if (x1 != 0) then (some (0, x1)) else ((F43 fuel p_r p_s).bind fun x3 => some (x3, 0))

-- hachure/hachureref04.Depths P
def F45L1 (p_r : S_api_CvRow) (p_s : (List Int)) : Nat → (Int × (List Int)) → Option (((List Int)) ⊕ ((List Int)))
  | 0, _ => none
  | n4 + 1, c3 => if (decide (c3.1 < (p_s.length : Int))) then ((idx p_r.Points c3.1).bind fun x6 => (idx p_s c3.1).bind fun x7 => (need ((c3.2.length + ([(if (w64 (x6.Board - x7)) > 0 then (w64 (x6.Board - x7)) else 0)] : List Int).length) * 8 ≤ 140737488355328 ∧ c3.2.length + ([(if (w64 (x6.Board - x7)) > 0 then (w64 (x6.Board - x7)) else 0)] : List Int).length ≤ 9223372036854775807)).bind fun x8 => F45L1 p_r p_s n4 ((w64 (c3.1 + 1)), (c3.2 ++ ([(if (w64 (x6.Board - x7)) > 0 then (w64 (x6.Board - x7)) else 0)] : List Int)))) else (some (.inr c3.2))

def F45 (fuel : Nat)  (p_r : S_api_CvRow) (p_s : (List Int)) : Option ((List Int)) :=
  (F45L1 p_r p_s fuel (0, ([] : List Int))).bind fun o2 => outK o2 (fun (ro2 : (List Int)) => some ro2) (fun (so2 : (List Int)) => some so2)

-- hachure/hachureref04.Many P
def F44L1 (depths : (List Int)) : Nat → (Int × Int × Int) → Option ((Int) ⊕ (Int))
  | 0, _ => none
  | n3 + 1, c2 => if (decide (c2.2.2 < (depths.length : Int))) then ((idx depths c2.2.2).bind fun x5 => (idx depths c2.2.2).bind fun x6 => F44L1 depths n3 ((w64 (c2.1 + (if (w64 (x5 - c2.2.1)) > 0 then (w64 (x5 - c2.2.1)) else 0))), x6, (w64 (c2.2.2 + 1)))) else (some (.inr c2.1))

def F44 (fuel : Nat)  (depths : (List Int)) : Option (Int) :=
  (F44L1 depths fuel (0, 0, 0)).bind fun o1 => outK o1 (fun (ro1 : Int) => some ro1) (fun (so1 : Int) => some so1)

-- hachure/hachureref04.Passes P
def F31L3 (x3 : (List Int)) (c8 : Int × (List S_api_CvPass)) : Nat → Int → Option (((List S_api_CvPass) × Int) ⊕ (Int))
  | 0, _ => none
  | n21 + 1, c20 => (optG (decide ((w64 (c20 + 1)) < (x3.length : Int))) (idx x3 (w64 (c20 + 1)))).bind fun x22 => if (cond (decide ((w64 (c20 + 1)) < (x3.length : Int))) (decide (x22 ≥ c8.1)) false) then (F31L3 x3 c8 n21 (w64 (c20 + 1))) else (some (.inr c20))

def F31L2 (fuel : Nat) (x3 : (List Int)) (c8 : Int × (List S_api_CvPass)) : Nat → (Int × (List S_api_CvPass)) → Option (((List S_api_CvPass) × Int) ⊕ ((List S_api_CvPass)))
  | 0, _ => none
  | n14 + 1, c13 => if (decide (c13.1 < (x3.length : Int))) then ((idx x3 c13.1).bind fun x16 => (optG ((!(decide (x16 < c8.1))) && (decide (c13.1 > 0))) (idx x3 (w64 (c13.1 - 1)))).bind fun x17 => if (cond (decide (x16 < c8.1)) true (cond (decide (c13.1 > 0)) (decide (x17 ≥ c8.1)) false)) then (F31L2 fuel x3 c8 n14 ((w64 (c13.1 + 1)), c13.2)) else ((F31L3 x3 c8 fuel c13.1).bind fun o19 => outK o19 (fun (ro19 : (List S_api_CvPass) × Int) => some (.inl ro19)) (fun (so19 : Int) => (need ((c13.2.length + ([(⟨c13.1, so19⟩ : S_api_CvPass)] : List S_api_CvPass).length) * 16 ≤ 140737488355328 ∧ c13.2.length + ([(⟨c13.1, so19⟩ : S_api_CvPass)] : List S_api_CvPass).length ≤ 9223372036854775807)).bind fun x24 => F31L2 fuel x3 c8 n14 ((w64 (c13.1 + 1)), (c13.2 ++ ([(⟨c13.1, so19⟩ : S_api_CvPass)] : List S_api_CvPass)))))) else (some (.inr c13.2))

def F31L1 (fuel : Nat) (x3 : (List Int)) : Nat → (Int × (List S_api_CvPass)) → Option (((List S_api_CvPass) × Int) ⊕ ((List S_api_CvPass)))
  | 0, _ => none
  | n9 + 1, c8 => (F44 fuel x3).bind fun x10 => if (decide ((c8.2.length : Int) < x10)) then ((F31L2 fuel x3 c8 fuel (0, c8.2)).bind fun o12 => outK o12 (fun (ro12 : (List S_api_CvPass) × Int) => some (.inl ro12)) (fun (so12 : (List S_api_CvPass)) => F31L1 fuel x3 n9 ((w64 (c8.1 + 1)), so12))) else (some (.inr c8.2))

def F31 (fuel : Nat)  (p_r : S_api_CvRow) (p_s : (List Int)) : Option ((List S_api_CvPass) × Int) :=
  (F60 fuel p_r p_s).bind fun x1 => if (x1 != 0) then (some (([] : List S_api_CvPass), x1)) else ((F45 fuel p_r p_s).bind fun x3 => (F44 fuel x3).bind fun x4 => if (decide (x4 > 60)) then (some (([] : List S_api_CvPass), 9)) else ((F31L1 fuel x3 fuel (1, ([] : List S_api_CvPass))).bind fun o7 => outK o7 (fun (ro7 : (List S_api_CvPass) × Int) => some ro7) (fun (so7 : (List S_api_CvPass)) => some (so7, 0))))

-- hachure/hachureref04.Lowered P
def F63L2 (l : (List S_api_CvPass)) (c3 : Int × (List Int)) : Nat → (Int × (List Int)) → Option (((List Int)) ⊕ ((List Int)))
  | 0, _ => none
  | n9 + 1, c8 => (idx l c3.1).bind fun x10 => if (decide (c8.1 ≤ x10.To)) then ((idx c8.2 c8.1).bind fun x12 => (idx c8.2 c8.1).bind fun x13 => F63L2 l c3 n9 ((w64 (c8.1 + 1)), (c8.2.set c8.1.toNat (w64 (x12 + 1))))) else (some (.inr c8.2))

def F63L1 (fuel : Nat) (l : (List S_api_CvPass)) : Nat → (Int × (List Int)) → Option (((List Int)) ⊕ ((List Int)))
  | 0, _ => none
  | n4 + 1, c3 => if (decide (c3.1 < (l.length : Int))) then ((idx l c3.1).bind fun x6 => (F63L2 l c3 fuel (x6.From, c3.2)).bind fun o7 => outK o7 (fun (ro7 : (List Int)) => some (.inl ro7)) (fun (so7 : (List Int)) => F63L1 fuel l n4 ((w64 (c3.1 + 1)), so7))) else (some (.inr c3.2))

def F63 (fuel : Nat)  (p_r : S_api_CvRow) (l : (List S_api_CvPass)) : Option ((List Int)) :=
  (need (0 ≤ (p_r.Points.length : Int) ∧ (p_r.Points.length : Int) * 8 ≤ 140737488355328 ∧ (p_r.Points.length : Int) ≤ 9223372036854775807)).bind fun x1 => (F63L1 fuel l fuel (0, (List.replicate (p_r.Points.length : Int).toNat (0 : Int)))).bind fun o2 => outK o2 (fun (ro2 : (List Int)) => some ro2) (fun (so2 : (List Int)) => some so2)

-- hachure/hachureref04.Carved P
def F34L1 (p_r : S_api_CvRow) (l : (List S_api_CvPass)) : Nat → (Int × Int) → Option (((List Int) × Int) ⊕ (Int))
  | 0, _ => none
  | n6 + 1, c5 => if (cond (decide (c5.2 < (l.length : Int))) (c5.1 == 0) false) then ((idx l c5.2).bind fun x8 => (F50 x8.From 0 (w64 ((p_r.Points.length : Int) - 1))).bind fun x9 => (optG (!(!x9)) (idx l c5.2)).bind fun x10 => (optG (!(!x9)) (F50 x10.To 0 (w64 ((p_r.Points.length : Int) - 1)))).bind fun x11 => if (cond (!x9) true (!x11)) then (F34L1 p_r l n6 (4, (w64 (c5.2 + 1)))) else ((idx l c5.2).bind fun x13 => (idx l c5.2).bind fun x14 => if (decide (x13.From > x14.To)) then (F34L1 p_r l n6 (2, (w64 (c5.2 + 1)))) else (F34L1 p_r l n6 (c5.1, (w64 (c5.2 + 1)))))) else (some (.inr c5.1))

def F34 (fuel : Nat)  (p_r : S_api_CvRow) (l : (List S_api_CvPass)) : Option ((List Int) × Int) :=
  (F17 fuel p_r).bind fun x1 => (if (cond (x1.2.2 == 0) (decide ((l.length : Int) > 60)) false) then (some (.inr 3)) else (some (.inr x1.2.2))).bind fun o2 => outK o2 (fun (ro2 : (List Int) × Int) => some ro2) (fun (so2 : Int) => (F34L1 p_r l fuel (so2, 0)).bind fun o4 => outK o4 (fun (ro4 : (List Int) × Int) => some ro4) (fun (so4 : Int) => if (so4 != 0) then (some (([] : List Int), so4)) else ((F63 fuel p_r l).bind fun x17 => some (x17, 0))))

-- hachure/hachurelaw04.CarveCuts P
def F4 (fuel : Nat)  (p_r : S_api_CvRow) (p_s : (List Int)) (passes : (List S_api_CvPass)) : Option (Bool) :=
  (F26 fuel p_r p_s).bind fun x1 => (F27 fuel p_r p_s).bind fun x2 => if (cond (cond (x1.1 != x2.1) true (x1.2.1 != x2.2.1)) true (x1.2.2 != x2.2.2)) then (some false) else ((F28 fuel p_r p_s).bind fun x4 => (F29 fuel p_r p_s).bind fun x5 => if (cond (x4.1 != x5.1) true (x4.2 != x5.2)) then (some false) else ((F30 fuel p_r p_s).bind fun x7 => (F31 fuel p_r p_s).bind fun x8 => (F32 fuel x7.1 x8.1).bind fun x9 => if (cond (!x9) true (x7.2 != x8.2)) then (some false) else ((F33 fuel p_r passes).bind fun x11 => (F34 fuel p_r passes).bind fun x12 => (F35 fuel x11.1 x12.1).bind fun x13 => (optG (cond x13 (x11.2 == x12.2) false) (F25 fuel)).bind fun x14 => some (cond (cond x13 (x11.2 == x12.2) false) x14 false))))
end Go.Proofs.Ytadejgckgnbaoaa
