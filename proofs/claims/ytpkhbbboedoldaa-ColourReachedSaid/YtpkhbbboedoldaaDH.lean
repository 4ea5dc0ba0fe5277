/- What functions of the seat compute. Printed by a program of mine. -/
import Derived.Test.YtpkhbbboedoldaaP
import Derived.Test.YtpkhbbboedoldaaDQ
namespace Go.Proofs.Ytpkhbbboedoldaa
open Go Go.Sx
set_option linter.unusedVariables false

-- hachure/hachureref09.Band P
def F83L1 (legend : (List Int)) (high : Int) : Nat → Int → Option ((Int) ⊕ (Int))
  | 0, _ => none
  | n3 + 1, c2 => (optG (decide (c2 < (legend.length : Int))) (idx legend c2)).bind fun x4 => if (cond (decide (c2 < (legend.length : Int))) (decide (x4 ≤ high)) false) then (F83L1 legend high n3 (w64 (c2 + 1))) else (some (.inr c2))

def F83 (fuel : Nat)  (legend : (List Int)) (high : Int) : Option (Int) :=
  (F83L1 legend high fuel 0).bind fun o1 => outK o1 (fun (ro1 : Int) => some ro1) (fun (so1 : Int) => some so1)

-- hachure/hachureref09.All P
def F65L1 (fuel : Nat) (p_m : S_api_ClMap) (legend : (List Int)) : Nat → (Int × (List S_api_Span)) → Option (((List S_api_Span)) ⊕ ((List S_api_Span)))
  | 0, _ => none
  | n4 + 1, c3 => if (decide (c3.1 < (p_m.Heights.length : Int))) then ((idx p_m.Heights c3.1).bind fun x6 => (F83 fuel legend x6.Lo).bind fun x7 => (idx p_m.Heights c3.1).bind fun x8 => (F83 fuel legend x8.Hi).bind fun x9 => (need ((c3.2.length + ([(⟨x7, x9⟩ : S_api_Span)] : List S_api_Span).length) * 16 ≤ 140737488355328 ∧ c3.2.length + ([(⟨x7, x9⟩ : S_api_Span)] : List S_api_Span).length ≤ 9223372036854775807)).bind fun x10 => F65L1 fuel p_m legend n4 ((w64 (c3.1 + 1)), (c3.2 ++ ([(⟨x7, x9⟩ : S_api_Span)] : List S_api_Span)))) else (some (.inr c3.2))

def F65 (fuel : Nat)  (p_m : S_api_ClMap) (legend : (List Int)) : Option ((List S_api_Span)) :=
  (F65L1 fuel p_m legend fuel (0, ([] : List S_api_Span))).bind fun o2 => outK o2 (fun (ro2 : (List S_api_Span)) => some ro2) (fun (so2 : (List S_api_Span)) => some so2)

-- hachure/hachureref09.Beside P
def F84  (all : (List S_api_Span)) (side : S_api_ClPair) (p_a : Int) (p_b : Int) : Option (Bool) :=
  (idx all side.A).bind fun x1 => (idx all side.B).bind fun x2 => (F61 p_a x1.Lo x1.Hi).bind fun x3 => (optG x3 (F61 p_b x2.Lo x2.Hi)).bind fun x4 => (optG (!(cond x3 x4 false)) (F61 p_b x1.Lo x1.Hi)).bind fun x5 => (optG ((!(cond x3 x4 false)) && x5) (F61 p_a x2.Lo x2.Hi)).bind fun x6 => some (cond (cond x3 x4 false) true (cond x5 x6 false))

-- hachure/hachureref09.Met P
def F67L3 (p_m : S_api_ClMap) (x1 : (List S_api_Span)) (c4 : Int × (List S_api_ClPair)) (c8 : Int × (List S_api_ClPair)) : Nat → (Bool × Int) → Option (((List S_api_ClPair)) ⊕ (Bool))
  | 0, _ => none
  | n13 + 1, c12 => if (decide (c12.2 < (p_m.Sides.length : Int))) then ((optG (!c12.1) (idx p_m.Sides c12.2)).bind fun x15 => (optG (!c12.1) (F84 x1 x15 c4.1 c8.1)).bind fun x16 => F67L3 p_m x1 c4 c8 n13 ((cond c12.1 true x16), (w64 (c12.2 + 1)))) else (some (.inr c12.1))

def F67L2 (fuel : Nat) (p_m : S_api_ClMap) (legend : (List Int)) (x1 : (List S_api_Span)) (c4 : Int × (List S_api_ClPair)) : Nat → (Int × (List S_api_ClPair)) → Option (((List S_api_ClPair)) ⊕ ((List S_api_ClPair)))
  | 0, _ => none
  | n9 + 1, c8 => if (decide (c8.1 ≤ (legend.length : Int))) then ((F67L3 p_m x1 c4 c8 fuel (false, 0)).bind fun o11 => outK o11 (fun (ro11 : (List S_api_ClPair)) => some (.inl ro11)) (fun (so11 : Bool) => if so11 then ((need ((c8.2.length + ([(⟨c4.1, c8.1⟩ : S_api_ClPair)] : List S_api_ClPair).length) * 16 ≤ 140737488355328 ∧ c8.2.length + ([(⟨c4.1, c8.1⟩ : S_api_ClPair)] : List S_api_ClPair).length ≤ 9223372036854775807)).bind fun x18 => F67L2 fuel p_m legend x1 c4 n9 ((w64 (c8.1 + 1)), (c8.2 ++ ([(⟨c4.1, c8.1⟩ : S_api_ClPair)] : List S_api_ClPair)))) else (F67L2 fuel p_m legend x1 c4 n9 ((w64 (c8.1 + 1)), c8.2)))) else (some (.inr c8.2))

def F67L1 (fuel : Nat) (p_m : S_api_ClMap) (legend : (List Int)) (x1 : (List S_api_Span)) : Nat → (Int × (List S_api_ClPair)) → Option (((List S_api_ClPair)) ⊕ ((List S_api_ClPair)))
  | 0, _ => none
  | n5 + 1, c4 => if (decide (c4.1 ≤ (legend.length : Int))) then ((F67L2 fuel p_m legend x1 c4 fuel ((w64 (c4.1 + 1)), c4.2)).bind fun o7 => outK o7 (fun (ro7 : (List S_api_ClPair)) => some (.inl ro7)) (fun (so7 : (List S_api_ClPair)) => F67L1 fuel p_m legend x1 n5 ((w64 (c4.1 + 1)), so7))) else (some (.inr c4.2))

def F67 (fuel : Nat)  (p_m : S_api_ClMap) (legend : (List Int)) : Option ((List S_api_ClPair)) :=
  (F65 fuel p_m legend).bind fun x1 => (F67L1 fuel p_m legend x1 fuel (0, ([] : List S_api_ClPair))).bind fun o3 => outK o3 (fun (ro3 : (List S_api_ClPair)) => some ro3) (fun (so3 : (List S_api_ClPair)) => some so3)
end Go.Proofs.Ytpkhbbboedoldaa
