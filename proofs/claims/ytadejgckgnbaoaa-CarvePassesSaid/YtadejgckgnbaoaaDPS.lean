/- What functions of the seat compute. Printed by a program of mine. -/
import Derived.Test.YtadejgckgnbaoaaP
import Derived.Test.YtadejgckgnbaoaaDA
import Derived.Test.YtadejgckgnbaoaaDV
namespace Go.Proofs.Ytadejgckgnbaoaa
open Go Go.Sx
set_option linter.unusedVariables false

-- hachure/hachurelaw04.Strokes P
def F46L1 (p_r : S_api_CvRow) (p_x : (List Int)) : Nat → (Int × (List S_api_CvPass)) → Option (((List S_api_CvPass)) ⊕ ((List S_api_CvPass)))
  | 0, _ => none
  | n4 + 1, c3 => if (cond (decide ((w64 (c3.1 + 1)) < (p_x.length : Int))) (decide ((c3.2.length : Int) < 60)) false) then ((idx p_x c3.1).bind fun x6 => (need ((p_r.Points.length : Int) ≠ 0)).bind fun x7 => (idx p_x (w64 (c3.1 + 1))).bind fun x8 => (need ((w64 ((p_r.Points.length : Int) - ((IntKind.i64.wrap x6).tmod (p_r.Points.length : Int)))) ≠ 0)).bind fun x9 => (F58 ((IntKind.i64.wrap x6).tmod (p_r.Points.length : Int)) (w64 (((IntKind.i64.wrap x6).tmod (p_r.Points.length : Int)) + ((IntKind.i64.wrap x8).tmod (w64 ((p_r.Points.length : Int) - ((IntKind.i64.wrap x6).tmod (p_r.Points.length : Int)))))))).bind fun x10 => (need ((c3.2.length + ([(⟨x10.From, x10.To⟩ : S_api_CvPass)] : List S_api_CvPass).length) * 16 ≤ 140737488355328 ∧ c3.2.length + ([(⟨x10.From, x10.To⟩ : S_api_CvPass)] : List S_api_CvPass).length ≤ 9223372036854775807)).bind fun x11 => F46L1 p_r p_x n4 ((w64 (c3.1 + 2)), (c3.2 ++ ([(⟨x10.From, x10.To⟩ : S_api_CvPass)] : List S_api_CvPass)))) else (some (.inr c3.2))

def F46 (fuel : Nat)  (p_r : S_api_CvRow) (p_x : (List Int)) : Option ((List S_api_CvPass)) :=
  (F46L1 p_r p_x fuel (0, ([] : List S_api_CvPass))).bind fun o2 => outK o2 (fun (ro2 : (List S_api_CvPass)) => some ro2) (fun (so2 : (List S_api_CvPass)) => some so2)

-- hachure/carve.enter H
def F59v1 (fuel : Nat)  (p_r : S_api_CvRow) (a0 : List Int) : Option (S_carve_row × Int) :=
  (F16 fuel p_r).bind fun x1 => if (x1.2.2 != 0) then (some ((⟨(⟨0, ([] : List S_api_CvPoint)⟩ : S_api_CvRow)⟩ : S_carve_row), x1.2.2)) else (if ((a0.length : Int) != (p_r.Points.length : Int)) then (some ((⟨(⟨0, ([] : List S_api_CvPoint)⟩ : S_api_CvRow)⟩ : S_carve_row), 3)) else ((F49 fuel 0 9000 a0).bind fun x4 => if x4 then (some ((⟨(⟨0, ([] : List S_api_CvPoint)⟩ : S_api_CvRow)⟩ : S_carve_row), 7)) else (some ((⟨p_r⟩ : S_carve_row), 0))))

-- hachure/carve.Passes H
def F30v1L1 (a0 : List Int) (x1 : S_carve_row × Int) : Nat → (Int × Int × Int × (List Int)) → Option (((List S_api_CvPass) × Int) ⊕ (Int × (List Int)))
  | 0, _ => none
  | n6 + 1, c5 => if (decide (c5.2.2.1 < (x1.1.CvRow.Points.length : Int))) then ((idx x1.1.CvRow.Points c5.2.2.1).bind fun x8 => (idx a0 c5.2.2.1).bind fun x9 => (idx c5.2.2.2 c5.2.2.1).bind fun x10 => (idx (c5.2.2.2.set c5.2.2.1.toNat (if (w64 (x8.Board - x9)) > 0 then (w64 (x8.Board - x9)) else 0)) c5.2.2.1).bind fun x11 => (idx (c5.2.2.2.set c5.2.2.1.toNat (if (w64 (x8.Board - x9)) > 0 then (w64 (x8.Board - x9)) else 0)) c5.2.2.1).bind fun x12 => F30v1L1 a0 x1 n6 ((w64 (c5.1 + (if (w64 (x11 - c5.2.1)) > 0 then (w64 (x11 - c5.2.1)) else 0))), x12, (w64 (c5.2.2.1 + 1)), (c5.2.2.2.set c5.2.2.1.toNat (if (w64 (x8.Board - x9)) > 0 then (w64 (x8.Board - x9)) else 0)))) else (some (.inr (c5.1, c5.2.2.2)))

def F30v1L3 (so4 : Int × (List Int)) (c17 : Int × (List S_api_CvPass)) : Nat → (Int × Int × (List S_api_CvPass)) → Option (((List S_api_CvPass) × Int) ⊕ ((List S_api_CvPass)))
  | 0, _ => none
  | n22 + 1, c21 => if (decide (c21.2.1 < (so4.2.length : Int))) then ((idx so4.2 c21.2.1).bind fun x24 => if (cond (decide (x24 > c17.1)) (decide (c21.1 < 0)) false) then (F30v1L3 so4 c17 n22 (c21.2.1, (w64 (c21.2.1 + 1)), c21.2.2)) else (if (cond (decide (x24 ≤ c17.1)) (decide (c21.1 ≥ 0)) false) then ((need ((c21.2.2.length + ([(⟨c21.1, (w64 (c21.2.1 - 1))⟩ : S_api_CvPass)] : List S_api_CvPass).length) * 16 ≤ 140737488355328 ∧ c21.2.2.length + ([(⟨c21.1, (w64 (c21.2.1 - 1))⟩ : S_api_CvPass)] : List S_api_CvPass).length ≤ 9223372036854775807)).bind fun x27 => F30v1L3 so4 c17 n22 ((-1), (w64 (c21.2.1 + 1)), (c21.2.2 ++ ([(⟨c21.1, (w64 (c21.2.1 - 1))⟩ : S_api_CvPass)] : List S_api_CvPass)))) else (F30v1L3 so4 c17 n22 (c21.1, (w64 (c21.2.1 + 1)), c21.2.2)))) else (some (.inr c21.2.2))

def F30v1L2 (fuel : Nat) (so4 : Int × (List Int)) (x14 : Int) : Nat → (Int × (List S_api_CvPass)) → Option (((List S_api_CvPass) × Int) ⊕ ((List S_api_CvPass)))
  | 0, _ => none
  | n18 + 1, c17 => if (decide (c17.1 < x14)) then ((F30v1L3 so4 c17 fuel ((-1), 0, c17.2)).bind fun o20 => outK o20 (fun (ro20 : (List S_api_CvPass) × Int) => some (.inl ro20)) (fun (so20 : (List S_api_CvPass)) => F30v1L2 fuel so4 x14 n18 ((w64 (c17.1 + 1)), so20))) else (some (.inr c17.2))

def F30v1 (fuel : Nat)  (p_r : S_api_CvRow) (a0 : List Int) : Option ((List S_api_CvPass) × Int) :=
  (F59v1 fuel p_r a0).bind fun x1 => if (x1.2 != 0) then (some (([] : List S_api_CvPass), x1.2)) else ((need (0 ≤ (w64 ((p_r.Points.length : Int) + 1)) ∧ (w64 ((p_r.Points.length : Int) + 1)) * 8 ≤ 140737488355328 ∧ (w64 ((p_r.Points.length : Int) + 1)) ≤ 9223372036854775807)).bind fun x3 => (F30v1L1 a0 x1 fuel (0, 0, 0, (List.replicate (w64 ((p_r.Points.length : Int) + 1)).toNat (0 : Int)))).bind fun o4 => outK o4 (fun (ro4 : (List S_api_CvPass) × Int) => some ro4) (fun (so4 : Int × (List Int)) => if (decide (so4.1 > 60)) then (some (([] : List S_api_CvPass), 9)) else ((F62 fuel so4.2).bind fun x14 => (F30v1L2 fuel so4 x14 fuel (0, ([] : List S_api_CvPass))).bind fun o16 => outK o16 (fun (ro16 : (List S_api_CvPass) × Int) => some ro16) (fun (so16 : (List S_api_CvPass)) => some (so16, 0)))))

-- hachure/hachurelaw04.CarvePasses P
def F10L1 (p_r : S_api_CvRow) (x5 : (List Int) × Int) : Nat → (Int × (List S_api_CvPoint) × (List Int)) → Option ((Bool) ⊕ ((List S_api_CvPoint) × (List Int)))
  | 0, _ => none
  | n11 + 1, c10 => if (decide (c10.1 < (x5.1.length : Int))) then ((idx x5.1 c10.1).bind fun x13 => (optG (!(decide (x13 < 0))) (idx x5.1 c10.1)).bind fun x14 => if (cond (decide (x13 < 0)) true (decide (x14 > 60))) then (some (.inl false)) else ((idx x5.1 c10.1).bind fun x16 => (idx p_r.Points c10.1).bind fun x17 => (idx c10.2.1 c10.1).bind fun x18 => (idx (c10.2.1.set c10.1.toNat (⟨(if x17.Board > x16 then x17.Board else x16), x18.Lo, x18.Hi⟩ : S_api_CvPoint)) c10.1).bind fun x19 => (idx x5.1 c10.1).bind fun x20 => (need ((c10.2.2.length + ([(w64 (x19.Board - x20))] : List Int).length) * 8 ≤ 140737488355328 ∧ c10.2.2.length + ([(w64 (x19.Board - x20))] : List Int).length ≤ 9223372036854775807)).bind fun x21 => F10L1 p_r x5 n11 ((w64 (c10.1 + 1)), (c10.2.1.set c10.1.toNat (⟨(if x17.Board > x16 then x17.Board else x16), x18.Lo, x18.Hi⟩ : S_api_CvPoint)), (c10.2.2 ++ ([(w64 (x19.Board - x20))] : List Int))))) else (some (.inr (c10.2.1, c10.2.2)))

def F10 (fuel : Nat)  (p_r : S_api_CvRow) (p_x : (List Int)) : Option (Bool) :=
  (F40 fuel p_r).bind fun x1 => if (!x1) then ((F25 fuel).bind fun x3 => some x3) else ((F46 fuel p_r p_x).bind fun x4 => (F33 fuel p_r x4).bind fun x5 => if (cond (x5.2 != 0) true ((x5.1.length : Int) != (p_r.Points.length : Int))) then (some false) else ((need ((([] : List S_api_CvPoint).length + p_r.Points.length) * 24 ≤ 140737488355328 ∧ ([] : List S_api_CvPoint).length + p_r.Points.length ≤ 9223372036854775807)).bind fun x7 => (F10L1 p_r x5 fuel (0, (([] : List S_api_CvPoint) ++ p_r.Points), ([] : List Int))).bind fun o9 => outK o9 (fun (ro9 : Bool) => some ro9) (fun (so9 : (List S_api_CvPoint) × (List Int)) => (F30v1 fuel (⟨p_r.Steep, so9.1⟩ : S_api_CvRow) so9.2).bind fun x22 => if (cond (x22.2 != 0) true (decide ((x22.1.length : Int) > (x4.length : Int)))) then (some false) else ((F33 fuel (⟨p_r.Steep, so9.1⟩ : S_api_CvRow) x22.1).bind fun x24 => (optG (x24.2 == 0) (F35 fuel x24.1 x5.1)).bind fun x25 => (optG (cond (x24.2 == 0) x25 false) (F25 fuel)).bind fun x26 => some (cond (cond (x24.2 == 0) x25 false) x26 false)))))
end Go.Proofs.Ytadejgckgnbaoaa
