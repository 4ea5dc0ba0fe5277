/- What functions of the seat compute. Printed by a program of mine. -/
import Derived.Test.YtpkhbbboedoldaaP
import Derived.Test.YtpkhbbboedoldaaDA
import Derived.Test.YtpkhbbboedoldaaDE
import Derived.Test.YtpkhbbboedoldaaDM
import Derived.Test.YtpkhbbboedoldaaDP
namespace Go.Proofs.Ytpkhbbboedoldaa
open Go Go.Sx
set_option linter.unusedVariables false

-- hachure/hachurelaw09.span P
def F47  (lo : Int) (hi : Int) : Option (S_api_Span) :=
  some (⟨lo, hi⟩ : S_api_Span)

-- hachure/hachurelaw09.two P
def F38  (p_a : Int) (p_b : Int) : Option (S_api_ClPair) :=
  some (⟨p_a, p_b⟩ : S_api_ClPair)

-- hachure/hachurelaw09.Map P
def F37  (inks : Int) : Option (S_api_ClMap) :=
  (F47 100 105).bind fun x1 => (F47 200 204).bind fun x2 => (F47 90 99).bind fun x3 => (F47 98 103).bind fun x4 => (F47 104 150).bind fun x5 => (F47 190 202).bind fun x6 => (F47 210 300).bind fun x7 => (F38 0 1).bind fun x8 => (F38 1 2).bind fun x9 => (F38 2 3).bind fun x10 => (F38 3 4).bind fun x11 => (F38 0 1).bind fun x12 => some (⟨([(⟨x1.Lo, x1.Hi⟩ : S_api_Span), (⟨x2.Lo, x2.Hi⟩ : S_api_Span)] : List S_api_Span), 50, ([(⟨x3.Lo, x3.Hi⟩ : S_api_Span), (⟨x4.Lo, x4.Hi⟩ : S_api_Span), (⟨x5.Lo, x5.Hi⟩ : S_api_Span), (⟨x6.Lo, x6.Hi⟩ : S_api_Span), (⟨x7.Lo, x7.Hi⟩ : S_api_Span)] : List S_api_Span), ([(⟨x8.A, x8.B⟩ : S_api_ClPair), (⟨x9.A, x9.B⟩ : S_api_ClPair), (⟨x10.A, x10.B⟩ : S_api_ClPair), (⟨x11.A, x11.B⟩ : S_api_ClPair)] : List S_api_ClPair), inks, ([(⟨x12.A, x12.B⟩ : S_api_ClPair)] : List S_api_ClPair)⟩ : S_api_ClMap)

-- hachure/colour.Best.1 P
def F75  (p_s : S_api_Span) (border : Int) : Option (Bool) :=
  some (cond (decide (p_s.Lo < border)) (decide (border ≤ p_s.Hi)) false)

-- hachure/colour.Best.2 H
def F76L2 (p_s : S_colour_state) (b0x2 : List S_api_Span) (x3 : S_api_Span) (c5 : Int × (List (S_colour_state × S_colour_rest)) × Int × Int) : Nat → (Int × Int) → Option ((S_colour_rest × (List (S_colour_state × S_colour_rest))) ⊕ (Int))
  | 0, _ => none
  | n13 + 1, c12 => if (decide (c12.1 < (b0x2.length : Int))) then ((idx b0x2 c12.1).bind fun x15 => (F75 x15 (w64 (x3.Lo + c5.1))).bind fun x16 => (optG (x16 && (!(decide (p_s.at_ < 0)))) (F75 x15 p_s.border)).bind fun x17 => if (cond x16 (cond (decide (p_s.at_ < 0)) true (!x17)) false) then (F76L2 p_s b0x2 x3 c5 n13 ((w64 (c12.1 + 1)), (w64 (c12.2 + 1)))) else (F76L2 p_s b0x2 x3 c5 n13 ((w64 (c12.1 + 1)), c12.2))) else (some (.inr c12.2))

def F76L1 (fuel : Nat) (rec45 : S_colour_state → (List S_api_Span) → Int → (List S_api_Span) → (List S_api_ClPair) → Int → (List S_api_ClPair) → (List (S_colour_state × S_colour_rest)) → Option (S_colour_rest × (List (S_colour_state × S_colour_rest)))) (p_s : S_colour_state) (b0x0 : List S_api_Span) (b0x1 : Int) (b0x2 : List S_api_Span) (b0x3 : List S_api_ClPair) (b0x4 : Int) (b0x5 : List S_api_ClPair) (x3 : S_api_Span) : Nat → (Int × (List (S_colour_state × S_colour_rest)) × Int × Int) → Option ((S_colour_rest × (List (S_colour_state × S_colour_rest))) ⊕ ((List (S_colour_state × S_colour_rest)) × Int × Int))
  | 0, _ => none
  | n6 + 1, c5 => if (decide (c5.1 < (w64 ((w64 (x3.Hi - x3.Lo)) + 1)))) then (if (cond (decide (p_s.at_ ≥ 0)) (decide ((w64 (x3.Lo + c5.1)) < (w64 (p_s.border + b0x1)))) false) then (F76L1 fuel rec45 p_s b0x0 b0x1 b0x2 b0x3 b0x4 b0x5 x3 n6 ((w64 (c5.1 + 1)), c5.2.1, c5.2.2.1, c5.2.2.2)) else ((rec45 (⟨(w64 (p_s.at_ + 1)), (w64 (x3.Lo + c5.1))⟩ : S_colour_state) b0x0 b0x1 b0x2 b0x3 b0x4 b0x5 c5.2.1).bind fun x9 => if (decide (x9.1.next < 0)) then (F76L1 fuel rec45 p_s b0x0 b0x1 b0x2 b0x3 b0x4 b0x5 x3 n6 ((w64 (c5.1 + 1)), x9.2, c5.2.2.1, c5.2.2.2)) else ((F76L2 p_s b0x2 x3 c5 fuel (0, x9.1.many)).bind fun o11 => outK o11 (fun (ro11 : S_colour_rest × (List (S_colour_state × S_colour_rest))) => some (.inl ro11)) (fun (so11 : Int) => if (cond (decide (c5.2.2.2 < 0)) true (decide (so11 < c5.2.2.1))) then (F76L1 fuel rec45 p_s b0x0 b0x1 b0x2 b0x3 b0x4 b0x5 x3 n6 ((w64 (c5.1 + 1)), x9.2, so11, (w64 (x3.Lo + c5.1)))) else (F76L1 fuel rec45 p_s b0x0 b0x1 b0x2 b0x3 b0x4 b0x5 x3 n6 ((w64 (c5.1 + 1)), x9.2, c5.2.2.1, c5.2.2.2)))))) else (some (.inr (c5.2.1, c5.2.2.1, c5.2.2.2)))

def B76 (fuel : Nat) (rec45 : S_colour_state → (List S_api_Span) → Int → (List S_api_Span) → (List S_api_ClPair) → Int → (List S_api_ClPair) → (List (S_colour_state × S_colour_rest)) → Option (S_colour_rest × (List (S_colour_state × S_colour_rest)))) (p_s : S_colour_state) (b0x0 : List S_api_Span) (b0x1 : Int) (b0x2 : List S_api_Span) (b0x3 : List S_api_ClPair) (b0x4 : Int) (b0x5 : List S_api_ClPair) (m2 : List (S_colour_state × S_colour_rest)) : Option (S_colour_rest × (List (S_colour_state × S_colour_rest))) :=
  if (p_s.at_ == (w64 ((b0x0.length : Int) - 1))) then (some ((⟨0, 0⟩ : S_colour_rest), m2)) else (if (mget eqk112 p_s m2).isSome then (some (((mget eqk112 p_s m2).getD (⟨0, 0⟩ : S_colour_rest)), m2)) else ((idx b0x0 (w64 (p_s.at_ + 1))).bind fun x3 => (F76L1 fuel rec45 p_s b0x0 b0x1 b0x2 b0x3 b0x4 b0x5 x3 fuel (0, m2, ((mget eqk112 p_s m2).getD (⟨0, 0⟩ : S_colour_rest)).many, (-1))).bind fun o4 => outK o4 (fun (ro4 : S_colour_rest × (List (S_colour_state × S_colour_rest))) => some ro4) (fun (so4 : (List (S_colour_state × S_colour_rest)) × Int × Int) => some ((⟨so4.2.1, so4.2.2⟩ : S_colour_rest), (mset eqk112 p_s (⟨so4.2.1, so4.2.2⟩ : S_colour_rest) so4.1)))))

def F76 : Nat → S_colour_state → (List S_api_Span) → Int → (List S_api_Span) → (List S_api_ClPair) → Int → (List S_api_ClPair) → (List (S_colour_state × S_colour_rest)) → Option (S_colour_rest × (List (S_colour_state × S_colour_rest)))
  | 0, _, _, _, _, _, _, _, _ => none
  | n + 1, p_s, b0x0, b0x1, b0x2, b0x3, b0x4, b0x5, m2 => B76 (n + 1) (F76 n) p_s b0x0 b0x1 b0x2 b0x3 b0x4 b0x5 m2

-- hachure/colour.Best P
def F35L1 (fuel : Nat) (p_m : S_api_ClMap) : Nat → (Int × (List (S_colour_state × S_colour_rest)) × Int × Int × (List Int)) → Option (((List Int) × Int × Int) ⊕ ((List (S_colour_state × S_colour_rest)) × Int × Int × (List Int)))
  | 0, _ => none
  | n7 + 1, c6 => if (decide (c6.1 < (p_m.Borders.length : Int))) then ((F76 fuel (⟨c6.2.2.1, c6.2.2.2.1⟩ : S_colour_state) p_m.Borders p_m.Step p_m.Heights p_m.Sides p_m.Inks p_m.Like c6.2.1).bind fun x9 => if (decide (x9.1.next < 0)) then (some (.inl (([] : List Int), 0, 9))) else ((need ((c6.2.2.2.2.length + ([x9.1.next] : List Int).length) * 8 ≤ 140737488355328 ∧ c6.2.2.2.2.length + ([x9.1.next] : List Int).length ≤ 9223372036854775807)).bind fun x11 => F35L1 fuel p_m n7 ((w64 (c6.1 + 1)), x9.2, (w64 (c6.2.2.1 + 1)), x9.1.next, (c6.2.2.2.2 ++ ([x9.1.next] : List Int))))) else (some (.inr (c6.2.1, c6.2.2.1, c6.2.2.2.1, c6.2.2.2.2)))

def F35 (fuel : Nat)  (p_m : S_api_ClMap) : Option ((List Int) × Int × Int) :=
  (F17 fuel p_m).bind fun x1 => if (x1.2.2 != 0) then (some (([] : List Int), 0, x1.2.2)) else ((F76 fuel (⟨(-1), 0⟩ : S_colour_state) p_m.Borders p_m.Step p_m.Heights p_m.Sides p_m.Inks p_m.Like ([] : List (S_colour_state × S_colour_rest))).bind fun x3 => (F35L1 fuel p_m fuel (0, x3.2, (-1), 0, ([] : List Int))).bind fun o5 => outK o5 (fun (ro5 : (List Int) × Int × Int) => some ro5) (fun (so5 : (List (S_colour_state × S_colour_rest)) × Int × Int × (List Int)) => some (so5.2.2.2, x3.1.many, 0)))

-- hachure/hachureref01.Spans P
def F23L1 (p_a : (List S_api_Span)) (p_b : (List S_api_Span)) : Nat → Int → Option ((Bool) ⊕ (Unit))
  | 0, _ => none
  | n4 + 1, c3 => if (decide (c3 < (p_a.length : Int))) then ((idx p_a c3).bind fun x6 => (idx p_b c3).bind fun x7 => if (!((x6.Lo == x7.Lo) && (x6.Hi == x7.Hi))) then (some (.inl false)) else (F23L1 p_a p_b n4 (w64 (c3 + 1)))) else (some (.inr ()))

def F23 (fuel : Nat)  (p_a : (List S_api_Span)) (p_b : (List S_api_Span)) : Option (Bool) :=
  if ((p_a.length : Int) != (p_b.length : Int)) then (some false) else ((F23L1 p_a p_b fuel 0).bind fun o2 => outK o2 (fun (ro2 : Bool) => some ro2) (fun (so2 : Unit) => some true))

-- hachure/hachureref01.Ints P
def F26L1 (p_a : (List Int)) (p_b : (List Int)) : Nat → Int → Option ((Bool) ⊕ (Unit))
  | 0, _ => none
  | n4 + 1, c3 => if (decide (c3 < (p_a.length : Int))) then ((idx p_a c3).bind fun x6 => (idx p_b c3).bind fun x7 => if (x6 != x7) then (some (.inl false)) else (F26L1 p_a p_b n4 (w64 (c3 + 1)))) else (some (.inr ()))

def F26 (fuel : Nat)  (p_a : (List Int)) (p_b : (List Int)) : Option (Bool) :=
  if ((p_a.length : Int) != (p_b.length : Int)) then (some false) else ((F26L1 p_a p_b fuel 0).bind fun o2 => outK o2 (fun (ro2 : Bool) => some ro2) (fun (so2 : Unit) => some true))

-- hachure/hachureref09.Same P
def F29L1 (p_a : (List S_api_ClPair)) (p_b : (List S_api_ClPair)) : Nat → Int → Option ((Bool) ⊕ (Unit))
  | 0, _ => none
  | n4 + 1, c3 => if (decide (c3 < (p_a.length : Int))) then ((idx p_a c3).bind fun x6 => (idx p_b c3).bind fun x7 => if (!((x6.A == x7.A) && (x6.B == x7.B))) then (some (.inl false)) else (F29L1 p_a p_b n4 (w64 (c3 + 1)))) else (some (.inr ()))

def F29 (fuel : Nat)  (p_a : (List S_api_ClPair)) (p_b : (List S_api_ClPair)) : Option (Bool) :=
  if ((p_a.length : Int) != (p_b.length : Int)) then (some false) else ((F29L1 p_a p_b fuel 0).bind fun o2 => outK o2 (fun (ro2 : Bool) => some ro2) (fun (so2 : Unit) => some true))

-- hachure/hachurelaw09.Awake P
def F30 (fuel : Nat)   : Option (Bool) :=
  (F37 3).bind fun x1 => (F21 fuel (⟨x1.Borders, x1.Step, x1.Heights, x1.Sides, x1.Inks, x1.Like⟩ : S_api_ClMap) ([100, 200] : List Int)).bind fun x2 => (F24 fuel (⟨x1.Borders, x1.Step, x1.Heights, x1.Sides, x1.Inks, x1.Like⟩ : S_api_ClMap) ([100, 200] : List Int)).bind fun x3 => (F27 fuel (⟨x1.Borders, x1.Step, x1.Heights, x1.Sides, x1.Inks, x1.Like⟩ : S_api_ClMap) ([100, 200] : List Int)).bind fun x4 => (F31 fuel (⟨x1.Borders, x1.Step, x1.Heights, x1.Sides, x1.Inks, x1.Like⟩ : S_api_ClMap) ([100, 200] : List Int)).bind fun x5 => (F33 fuel (⟨x1.Borders, x1.Step, x1.Heights, x1.Sides, x1.Inks, x1.Like⟩ : S_api_ClMap) ([100, 200] : List Int) ([0, 1, 2] : List Int)).bind fun x6 => (F35 fuel (⟨x1.Borders, x1.Step, x1.Heights, x1.Sides, x1.Inks, x1.Like⟩ : S_api_ClMap)).bind fun x7 => (F37 2).bind fun x8 => (F31 fuel (⟨x8.Borders, x8.Step, x8.Heights, x8.Sides, x8.Inks, x8.Like⟩ : S_api_ClMap) ([100, 200] : List Int)).bind fun x9 => (optG (cond (cond (cond (cond (cond (cond (x2.2 == 0) (x3.2 == 0) false) (x4.2 == 0) false) (x5.2.2 == 0) false) (x6.2 == 0) false) (x7.2.2 == 0) false) (x9.2.2 == 9) false) (F47 0 0)).bind fun x10 => (optG (cond (cond (cond (cond (cond (cond (x2.2 == 0) (x3.2 == 0) false) (x4.2 == 0) false) (x5.2.2 == 0) false) (x6.2 == 0) false) (x7.2.2 == 0) false) (x9.2.2 == 9) false) (F47 0 1)).bind fun x11 => (optG (cond (cond (cond (cond (cond (cond (x2.2 == 0) (x3.2 == 0) false) (x4.2 == 0) false) (x5.2.2 == 0) false) (x6.2 == 0) false) (x7.2.2 == 0) false) (x9.2.2 == 9) false) (F47 1 1)).bind fun x12 => (optG (cond (cond (cond (cond (cond (cond (x2.2 == 0) (x3.2 == 0) false) (x4.2 == 0) false) (x5.2.2 == 0) false) (x6.2 == 0) false) (x7.2.2 == 0) false) (x9.2.2 == 9) false) (F47 1 2)).bind fun x13 => (optG (cond (cond (cond (cond (cond (cond (x2.2 == 0) (x3.2 == 0) false) (x4.2 == 0) false) (x5.2.2 == 0) false) (x6.2 == 0) false) (x7.2.2 == 0) false) (x9.2.2 == 9) false) (F47 2 2)).bind fun x14 => (optG (cond (cond (cond (cond (cond (cond (x2.2 == 0) (x3.2 == 0) false) (x4.2 == 0) false) (x5.2.2 == 0) false) (x6.2 == 0) false) (x7.2.2 == 0) false) (x9.2.2 == 9) false) (F23 fuel x2.1 ([(⟨x10.Lo, x10.Hi⟩ : S_api_Span), (⟨x11.Lo, x11.Hi⟩ : S_api_Span), (⟨x12.Lo, x12.Hi⟩ : S_api_Span), (⟨x13.Lo, x13.Hi⟩ : S_api_Span), (⟨x14.Lo, x14.Hi⟩ : S_api_Span)] : List S_api_Span))).bind fun x15 => (optG (cond (cond (cond (cond (cond (cond (cond (x2.2 == 0) (x3.2 == 0) false) (x4.2 == 0) false) (x5.2.2 == 0) false) (x6.2 == 0) false) (x7.2.2 == 0) false) (x9.2.2 == 9) false) x15 false) (F26 fuel x3.1 ([1, 3] : List Int))).bind fun x16 => (optG (cond (cond (cond (cond (cond (cond (cond (cond (x2.2 == 0) (x3.2 == 0) false) (x4.2 == 0) false) (x5.2.2 == 0) false) (x6.2 == 0) false) (x7.2.2 == 0) false) (x9.2.2 == 9) false) x15 false) x16 false) (F38 0 1)).bind fun x17 => (optG (cond (cond (cond (cond (cond (cond (cond (cond (x2.2 == 0) (x3.2 == 0) false) (x4.2 == 0) false) (x5.2.2 == 0) false) (x6.2 == 0) false) (x7.2.2 == 0) false) (x9.2.2 == 9) false) x15 false) x16 false) (F38 1 2)).bind fun x18 => (optG (cond (cond (cond (cond (cond (cond (cond (cond (x2.2 == 0) (x3.2 == 0) false) (x4.2 == 0) false) (x5.2.2 == 0) false) (x6.2 == 0) false) (x7.2.2 == 0) false) (x9.2.2 == 9) false) x15 false) x16 false) (F29 fuel x4.1 ([(⟨x17.A, x17.B⟩ : S_api_ClPair), (⟨x18.A, x18.B⟩ : S_api_ClPair)] : List S_api_ClPair))).bind fun x19 => (optG (cond (cond (cond (cond (cond (cond (cond (cond (cond (x2.2 == 0) (x3.2 == 0) false) (x4.2 == 0) false) (x5.2.2 == 0) false) (x6.2 == 0) false) (x7.2.2 == 0) false) (x9.2.2 == 9) false) x15 false) x16 false) x19 false) (F26 fuel x5.1 ([0, 2, 0] : List Int))).bind fun x20 => (optG (cond (cond (cond (cond (cond (cond (cond (cond (cond (cond (cond (x2.2 == 0) (x3.2 == 0) false) (x4.2 == 0) false) (x5.2.2 == 0) false) (x6.2 == 0) false) (x7.2.2 == 0) false) (x9.2.2 == 9) false) x15 false) x16 false) x19 false) x20 false) (x5.2.1 == 2) false) (F26 fuel x6.1 ([0, 1] : List Int))).bind fun x21 => (optG (cond (cond (cond (cond (cond (cond (cond (cond (cond (cond (cond (cond (x2.2 == 0) (x3.2 == 0) false) (x4.2 == 0) false) (x5.2.2 == 0) false) (x6.2 == 0) false) (x7.2.2 == 0) false) (x9.2.2 == 9) false) x15 false) x16 false) x19 false) x20 false) (x5.2.1 == 2) false) x21 false) (F26 fuel x7.1 ([104, 203] : List Int))).bind fun x22 => some (cond (cond (cond (cond (cond (cond (cond (cond (cond (cond (cond (cond (cond (cond (x2.2 == 0) (x3.2 == 0) false) (x4.2 == 0) false) (x5.2.2 == 0) false) (x6.2 == 0) false) (x7.2.2 == 0) false) (x9.2.2 == 9) false) x15 false) x16 false) x19 false) x20 false) (x5.2.1 == 2) false) x21 false) x22 false) (x7.2.1 == 0) false)
end Go.Proofs.Ytpkhbbboedoldaa
