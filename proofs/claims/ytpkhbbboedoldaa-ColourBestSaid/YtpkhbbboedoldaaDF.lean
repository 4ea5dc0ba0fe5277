/- What functions of the seat compute. Printed by a program of mine. -/
import Derived.Test.YtpkhbbboedoldaaP
import Derived.Test.YtpkhbbboedoldaaDQ
import Derived.Test.YtpkhbbboedoldaaDW
namespace Go.Proofs.Ytpkhbbboedoldaa
open Go Go.Sx
set_option linter.unusedVariables false

-- hachure/hachureref09.parts P
def F93  (p_s : S_api_Span) (border : Int) : Option (Bool) :=
  some (cond (decide (border > p_s.Lo)) (decide (border ≤ p_s.Hi)) false)

-- hachure/hachureref09.New P
def F89L1 (p_m : S_api_ClMap) (before : Int) (border : Int) : Nat → (Int × Int) → Option ((Int) ⊕ (Int))
  | 0, _ => none
  | n3 + 1, c2 => if (decide (c2.2 < (p_m.Heights.length : Int))) then ((idx p_m.Heights c2.2).bind fun x5 => (F93 x5 border).bind fun x6 => (optG (x6 && (!(decide (before < 0)))) (idx p_m.Heights c2.2)).bind fun x7 => (optG (x6 && (!(decide (before < 0)))) (F93 x7 before)).bind fun x8 => if (cond x6 (cond (decide (before < 0)) true (!x8)) false) then (F89L1 p_m before border n3 ((w64 (c2.1 + 1)), (w64 (c2.2 + 1)))) else (F89L1 p_m before border n3 (c2.1, (w64 (c2.2 + 1))))) else (some (.inr c2.1))

def F89 (fuel : Nat)  (p_m : S_api_ClMap) (before : Int) (border : Int) : Option (Int) :=
  (F89L1 p_m before border fuel (0, 0)).bind fun o1 => outK o1 (fun (ro1 : Int) => some ro1) (fun (so1 : Int) => some so1)

-- hachure/hachureref09.Behind P
def F77v1L1 (fuel : Nat) (p_m : S_api_ClMap) (at_ : Int) (border : Int) (next : (List S_hachureref09qRest)) : Nat → (Int × Bool × (List Int) × Int) → Option ((S_hachureref09qRest) ⊕ (Bool × (List Int) × Int))
  | 0, _ => none
  | n5 + 1, c4 => if (decide (c4.1 < (next.length : Int))) then ((idx p_m.Borders (w64 (at_ + 1))).bind fun x7 => (idx next c4.1).bind fun x8 => if (cond (!x8.Is) true (cond (decide (border ≥ 0)) (decide ((w64 (x7.Lo + c4.1)) < (w64 (border + p_m.Step)))) false)) then (F77v1L1 fuel p_m at_ border next n5 ((w64 (c4.1 + 1)), c4.2.1, c4.2.2.1, c4.2.2.2)) else ((idx next c4.1).bind fun x10 => (F89 fuel p_m border (w64 (x7.Lo + c4.1))).bind fun x11 => if (cond (!c4.2.1) true (decide ((w64 (x10.Many + x11)) < c4.2.2.2))) then ((idx next c4.1).bind fun x13 => (need ((([(w64 (x7.Lo + c4.1))] : List Int).length + x13.Legend.length) * 8 ≤ 140737488355328 ∧ ([(w64 (x7.Lo + c4.1))] : List Int).length + x13.Legend.length ≤ 9223372036854775807)).bind fun x14 => F77v1L1 fuel p_m at_ border next n5 ((w64 (c4.1 + 1)), true, (([(w64 (x7.Lo + c4.1))] : List Int) ++ x13.Legend), (w64 (x10.Many + x11)))) else (F77v1L1 fuel p_m at_ border next n5 ((w64 (c4.1 + 1)), c4.2.1, c4.2.2.1, c4.2.2.2)))) else (some (.inr (c4.2.1, c4.2.2.1, c4.2.2.2)))

def F77v1 (fuel : Nat)  (p_m : S_api_ClMap) (at_ : Int) (border : Int) (next : (List S_hachureref09qRest)) : Option (S_hachureref09qRest) :=
  if (at_ == (w64 ((p_m.Borders.length : Int) - 1))) then (some (⟨true, ([] : List Int), 0⟩ : S_hachureref09qRest)) else ((F77v1L1 fuel p_m at_ border next fuel (0, false, ([] : List Int), 0)).bind fun o3 => outK o3 (fun (ro3 : S_hachureref09qRest) => some ro3) (fun (so3 : Bool × (List Int) × Int) => some (⟨so3.1, so3.2.1, so3.2.2⟩ : S_hachureref09qRest)))

-- hachure/hachureref09.Best P
def F36L2 (fuel : Nat) (p_m : S_api_ClMap) (c5 : (List S_hachureref09qRest) × Int) : Nat → (Int × (List S_hachureref09qRest)) → Option (((List Int) × Int × Int) ⊕ ((List S_hachureref09qRest)))
  | 0, _ => none
  | n12 + 1, c11 => (idx p_m.Borders c5.2).bind fun x13 => if (decide (c11.1 ≤ x13.Hi)) then ((F77v1 fuel p_m c5.2 c11.1 c5.1).bind fun x15 => (need ((c11.2.length + ([(⟨x15.Is, x15.Legend, x15.Many⟩ : S_hachureref09qRest)] : List S_hachureref09qRest).length) * 40 ≤ 140737488355328 ∧ c11.2.length + ([(⟨x15.Is, x15.Legend, x15.Many⟩ : S_hachureref09qRest)] : List S_hachureref09qRest).length ≤ 9223372036854775807)).bind fun x16 => F36L2 fuel p_m c5 n12 ((w64 (c11.1 + 1)), (c11.2 ++ ([(⟨x15.Is, x15.Legend, x15.Many⟩ : S_hachureref09qRest)] : List S_hachureref09qRest)))) else (some (.inr c11.2))

def F36L1 (fuel : Nat) (p_m : S_api_ClMap) : Nat → ((List S_hachureref09qRest) × Int) → Option (((List Int) × Int × Int) ⊕ ((List S_hachureref09qRest)))
  | 0, _ => none
  | n6 + 1, c5 => if (decide (c5.2 ≥ 0)) then ((idx p_m.Borders c5.2).bind fun x8 => (F36L2 fuel p_m c5 fuel (x8.Lo, ([] : List S_hachureref09qRest))).bind fun o10 => outK o10 (fun (ro10 : (List Int) × Int × Int) => some (.inl ro10)) (fun (so10 : (List S_hachureref09qRest)) => F36L1 fuel p_m n6 (so10, (w64 (c5.2 - 1))))) else (some (.inr c5.1))

def F36 (fuel : Nat)  (p_m : S_api_ClMap) : Option ((List Int) × Int × Int) :=
  (F18 fuel p_m).bind fun x1 => if (x1.2.2 != 0) then (some (([] : List Int), 0, x1.2.2)) else ((F36L1 fuel p_m fuel (([] : List S_hachureref09qRest), (w64 ((p_m.Borders.length : Int) - 1)))).bind fun o4 => outK o4 (fun (ro4 : (List Int) × Int × Int) => some ro4) (fun (so4 : (List S_hachureref09qRest)) => (F77v1 fuel p_m (-1) (-1) so4).bind fun x17 => if (!x17.Is) then (some (([] : List Int), 0, 9)) else (some (x17.Legend, x17.Many, 0))))

-- hachure/hachurelaw09.ColourBest P
def F5 (fuel : Nat)  (p_m : S_api_ClMap) : Option (Bool) :=
  (F35 fuel p_m).bind fun x1 => (F36 fuel p_m).bind fun x2 => (F26 fuel x1.1 x2.1).bind fun x3 => (optG (cond (cond x3 (x1.2.1 == x2.2.1) false) (x1.2.2 == x2.2.2) false) (F30 fuel)).bind fun x4 => some (cond (cond (cond x3 (x1.2.1 == x2.2.1) false) (x1.2.2 == x2.2.2) false) x4 false)
end Go.Proofs.Ytpkhbbboedoldaa
