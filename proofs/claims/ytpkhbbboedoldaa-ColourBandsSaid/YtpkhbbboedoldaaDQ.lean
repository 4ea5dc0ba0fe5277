/- What functions of the seat compute. Printed by a program of mine. -/
import Derived.Test.YtpkhbbboedoldaaP
namespace Go.Proofs.Ytpkhbbboedoldaa
open Go Go.Sx
set_option linter.unusedVariables false

-- hachure/hachureref09.in P
def F61  (p_n : Int) (low : Int) (high : Int) : Option (Bool) :=
  some (cond (decide (p_n ≥ low)) (decide (p_n ≤ high)) false)

-- hachure/hachureref01.in P
def F91  (p_n : Int) (low : Int) (high : Int) : Option (Bool) :=
  some (cond (decide (p_n ≥ low)) (decide (p_n ≤ high)) false)

-- hachure/hachureref01.Spread P
def F81L1 (l : (List S_api_Span)) (low : Int) (high : Int) : Nat → (Int × Int) → Option ((Int) ⊕ (Int))
  | 0, _ => none
  | n3 + 1, c2 => if (decide (c2.2 < (l.length : Int))) then ((idx l c2.2).bind fun x5 => (F91 x5.Lo low high).bind fun x6 => (optG (!(!x6)) (idx l c2.2)).bind fun x7 => (optG (!(!x6)) (F91 x7.Hi low high)).bind fun x8 => if (cond (!x6) true (!x8)) then (some (.inl 7)) else ((idx l c2.2).bind fun x10 => (idx l c2.2).bind fun x11 => if (decide (x10.Lo > x11.Hi)) then (F81L1 l low high n3 (2, (w64 (c2.2 + 1)))) else (F81L1 l low high n3 (c2.1, (w64 (c2.2 + 1)))))) else (some (.inr c2.1))

def F81 (fuel : Nat)  (l : (List S_api_Span)) (low : Int) (high : Int) : Option (Int) :=
  (F81L1 l low high fuel (0, 0)).bind fun o1 => outK o1 (fun (ro1 : Int) => some ro1) (fun (so1 : Int) => some so1)

-- hachure/hachureref01.Range P
def F62 (fuel : Nat)  (p_s : S_api_Span) (low : Int) (high : Int) : Option (Int) :=
  (F81 fuel ([p_s] : List S_api_Span) low high).bind fun x1 => some x1

-- hachure/hachureref09.pair P
def F63  (p : S_api_ClPair) (below : Int) : Option (Int) :=
  (F61 p.A 0 (w64 (below - 1))).bind fun x1 => (optG (!(!x1)) (F61 p.B 0 (w64 (below - 1)))).bind fun x2 => if (cond (!x1) true (!x2)) then (some 4) else (if (p.A == p.B) then (some 2) else (some 0))

-- hachure/hachureref09.Check P
def F18L1 (fuel : Nat) (p_m : S_api_ClMap) : Nat → Int → Option ((Int × Int × Int) ⊕ (Unit))
  | 0, _ => none
  | n9 + 1, c8 => if (decide (c8 < (p_m.Borders.length : Int))) then ((idx p_m.Borders c8).bind fun x11 => (F62 fuel x11 0 9000).bind fun x12 => (optG (x12 == 0) (idx p_m.Borders c8)).bind fun x13 => (optG (x12 == 0) (idx p_m.Borders c8)).bind fun x14 => (if (cond (x12 == 0) (decide (x13.Hi > (w64 (x14.Lo + 20)))) false) then (some (.inr 2)) else (some (.inr x12))).bind fun o15 => outK o15 (fun (ro15 : Int × Int × Int) => some (.inl ro15)) (fun (so15 : Int) => if (so15 != 0) then (some (.inl (2, c8, so15))) else (F18L1 fuel p_m n9 (w64 (c8 + 1))))) else (some (.inr ()))

def F18L2 (fuel : Nat) (p_m : S_api_ClMap) : Nat → Int → Option ((Int × Int × Int) ⊕ (Unit))
  | 0, _ => none
  | n20 + 1, c19 => if (decide (c19 < (p_m.Heights.length : Int))) then ((idx p_m.Heights c19).bind fun x22 => (F62 fuel x22 0 9000).bind fun x23 => if (x23 != 0) then (some (.inl (3, c19, x23))) else (F18L2 fuel p_m n20 (w64 (c19 + 1)))) else (some (.inr ()))

def F18L3 (p_m : S_api_ClMap) : Nat → Int → Option ((Int × Int × Int) ⊕ (Unit))
  | 0, _ => none
  | n27 + 1, c26 => if (decide (c26 < (p_m.Sides.length : Int))) then ((idx p_m.Sides c26).bind fun x29 => (F63 x29 (p_m.Heights.length : Int)).bind fun x30 => if (x30 != 0) then (some (.inl (4, c26, x30))) else (F18L3 p_m n27 (w64 (c26 + 1)))) else (some (.inr ()))

def F18L4 (p_m : S_api_ClMap) : Nat → Int → Option ((Int × Int × Int) ⊕ (Unit))
  | 0, _ => none
  | n34 + 1, c33 => if (decide (c33 < (p_m.Like.length : Int))) then ((idx p_m.Like c33).bind fun x36 => (F63 x36 p_m.Inks).bind fun x37 => if (x37 != 0) then (some (.inl (5, c33, x37))) else (F18L4 p_m n34 (w64 (c33 + 1)))) else (some (.inr ()))

def F18 (fuel : Nat)  (p_m : S_api_ClMap) : Option (Int × Int × Int) :=
  (F61 (p_m.Borders.length : Int) 1 5).bind fun x1 => (optG (!(!x1)) (F61 (p_m.Heights.length : Int) 1 8)).bind fun x2 => if (cond (cond (cond (!x1) true (!x2)) true (decide ((p_m.Sides.length : Int) > 10))) true (decide ((p_m.Like.length : Int) > 8))) then (some (1, 0, 3)) else ((F61 p_m.Step 1 1000).bind fun x4 => (optG (!(!x4)) (F61 p_m.Inks 1 6)).bind fun x5 => if (cond (!x4) true (!x5)) then (some (1, 0, 7)) else ((F18L1 fuel p_m fuel 0).bind fun o7 => outK o7 (fun (ro7 : Int × Int × Int) => some ro7) (fun (so7 : Unit) => (F18L2 fuel p_m fuel 0).bind fun o18 => outK o18 (fun (ro18 : Int × Int × Int) => some ro18) (fun (so18 : Unit) => (F18L3 p_m fuel 0).bind fun o25 => outK o25 (fun (ro25 : Int × Int × Int) => some ro25) (fun (so25 : Unit) => (F18L4 p_m fuel 0).bind fun o32 => outK o32 (fun (ro32 : Int × Int × Int) => some ro32) (fun (so32 : Unit) => some (0, 0, 0)))))))

-- hachure/hachureref09.CheckLegend P
def F20L1 (p_m : S_api_ClMap) (legend : (List Int)) : Nat → Int → Option ((Int × Int) ⊕ (Unit))
  | 0, _ => none
  | n7 + 1, c6 => if (decide (c6 < (legend.length : Int))) then ((idx legend c6).bind fun x9 => (idx p_m.Borders c6).bind fun x10 => (idx p_m.Borders c6).bind fun x11 => (F61 x9 x10.Lo x11.Hi).bind fun x12 => if (!x12) then (some (.inl (c6, 7))) else ((optG (decide (c6 > 0)) (idx legend c6)).bind fun x14 => (optG (decide (c6 > 0)) (idx legend (w64 (c6 - 1)))).bind fun x15 => if (cond (decide (c6 > 0)) (decide (x14 < (w64 (x15 + p_m.Step)))) false) then (some (.inl (c6, 2))) else (F20L1 p_m legend n7 (w64 (c6 + 1))))) else (some (.inr ()))

def F20 (fuel : Nat)  (p_m : S_api_ClMap) (legend : (List Int)) : Option (Int × Int) :=
  (F18 fuel p_m).bind fun x1 => (if (cond (x1.2.2 == 0) ((legend.length : Int) != (p_m.Borders.length : Int)) false) then (some (.inr 3)) else (some (.inr x1.2.2))).bind fun o2 => outK o2 (fun (ro2 : Int × Int) => some ro2) (fun (so2 : Int) => if (so2 != 0) then (some (0, so2)) else ((F20L1 p_m legend fuel 0).bind fun o5 => outK o5 (fun (ro5 : Int × Int) => some ro5) (fun (so5 : Unit) => some (0, 0))))

-- hachure/hachureref09.Band P
def F83L1 (legend : (List Int)) (high : Int) : Nat → Int → Option ((Int) ⊕ (Int))
  | 0, _ => none
  | n3 + 1, c2 => (optG (decide (c2 < (legend.length : Int))) (idx legend c2)).bind fun x4 => if (cond (decide (c2 < (legend.length : Int))) (decide (x4 ≤ high)) false) then (F83L1 legend high n3 (w64 (c2 + 1))) else (some (.inr c2))

def F83 (fuel : Nat)  (legend : (List Int)) (high : Int) : Option (Int) :=
  (F83L1 legend high fuel 0).bind fun o1 => outK o1 (fun (ro1 : Int) => some ro1) (fun (so1 : Int) => some so1)

-- hachure/hachureref09.All P
def F65L1 (fuel : Nat) (p_m : S_api_ClMap) (legend : (List Int)) : Nat → (Int × (List S_api_Span)) → Option (((List S_api_Span)) ⊕ ((List S_api_Span)))
  | 0, _ => none
  | n4 + 1, c3 => if (decide (c3.1 < (p_m.Heights.length : Int))) then ((idx p_m.Heights c3.1).bind fun x6 => (F83 fuel legend x6.Lo).bind fun x7 => (idx p_m.Heights c3.1).bind fun x8 => (F83 fuel legend x8.Hi).bind fun x9 => (need ((c3.2.length + ([(⟨x7, x9⟩ : S_api_Span)] : List S_api_Span).length) * 16 ≤ 140737488355328 ∧ c3.2.length + ([(⟨x7, x9⟩ : S_api_Span)] : List S_api_Span).length ≤ 9223372036854775807)).bind fun x10 => F65L1 fuel p_m legend n4 ((w64 (c3.1 + 1)), (c3.2 ++ ([(⟨x7, x9⟩ : S_api_Span)] : List S_api_Span)))) else (some (.inr c3.2))

def F65 (fuel : Nat)  (p_m : S_api_ClMap) (legend : (List Int)) : Option ((List S_api_Span)) :=
  (F65L1 fuel p_m legend fuel (0, ([] : List S_api_Span))).bind fun o2 => outK o2 (fun (ro2 : (List S_api_Span)) => some ro2) (fun (so2 : (List S_api_Span)) => some so2)

-- hachure/hachureref09.Bands P
def F22 (fuel : Nat)  (p_m : S_api_ClMap) (legend : (List Int)) : Option ((List S_api_Span) × Int) :=
  (F20 fuel p_m legend).bind fun x1 => if (x1.2 != 0) then (some (([] : List S_api_Span), x1.2)) else ((F65 fuel p_m legend).bind fun x3 => some (x3, 0))

-- hachure/hachureref09.Doubt P
def F66L1 (x1 : (List S_api_Span)) : Nat → (Int × (List Int)) → Option (((List Int)) ⊕ ((List Int)))
  | 0, _ => none
  | n5 + 1, c4 => if (decide (c4.1 < (x1.length : Int))) then ((idx x1 c4.1).bind fun x7 => (idx x1 c4.1).bind fun x8 => if (decide (x7.Lo < x8.Hi)) then ((need ((c4.2.length + ([c4.1] : List Int).length) * 8 ≤ 140737488355328 ∧ c4.2.length + ([c4.1] : List Int).length ≤ 9223372036854775807)).bind fun x10 => F66L1 x1 n5 ((w64 (c4.1 + 1)), (c4.2 ++ ([c4.1] : List Int)))) else (F66L1 x1 n5 ((w64 (c4.1 + 1)), c4.2))) else (some (.inr c4.2))

def F66 (fuel : Nat)  (p_m : S_api_ClMap) (legend : (List Int)) : Option ((List Int)) :=
  (F65 fuel p_m legend).bind fun x1 => (F66L1 x1 fuel (0, ([] : List Int))).bind fun o3 => outK o3 (fun (ro3 : (List Int)) => some ro3) (fun (so3 : (List Int)) => some so3)

-- hachure/hachureref09.Unsure P
def F25 (fuel : Nat)  (p_m : S_api_ClMap) (legend : (List Int)) : Option ((List Int) × Int) :=
  (F20 fuel p_m legend).bind fun x1 => if (x1.2 != 0) then (some (([] : List Int), x1.2)) else ((F66 fuel p_m legend).bind fun x3 => some (x3, 0))

-- hachure/hachureref09.Beside P
def F84  (all : (List S_api_Span)) (side : S_api_ClPair) (p_a : Int) (p_b : Int) : Option (Bool) :=
  (idx all side.A).bind fun x1 => (idx all side.B).bind fun x2 => (F61 p_a x1.Lo x1.Hi).bind fun x3 => (optG x3 (F61 p_b x2.Lo x2.Hi)).bind fun x4 => (optG (!(cond x3 x4 false)) (F61 p_b x1.Lo x1.Hi)).bind fun x5 => (optG ((!(cond x3 x4 false)) && x5) (F61 p_a x2.Lo x2.Hi)).bind fun x6 => some (cond (cond x3 x4 false) true (cond x5 x6 false))

-- hachure/hachureref09.Met P
def F67L3 (p_m : S_api_ClMap) (x1 : (List S_api_Span)) (c4 : Int × (List S_api_ClPair)) (c8 : Int × (List S_api_ClPair)) : Nat → (Bool × Int) → Option (((List S_api_ClPair)) ⊕ (Bool))
  | 0, _ => none
  | n13 + 1, c12 => if (decide (c12.2 < (p_m.Sides.length : Int))) then ((optG (!c12.1) (idx p_m.Sides c12.2)).bind fun x15 => (optG (!c12.1) (F84 x1 x15 c4.1 c8.1)).bind fun x16 => F67L3 p_m x1 c4 c8 n13 ((cond c12.1 true x16), (w64 (c12.2 + 1)))) else (some (.inr c12.1))

def F67L2 (fuel : Nat) (p_m : S_api_ClMap) (legend : (List Int)) (x1 : (List S_api_Span)) (c4 : Int × (List S_api_ClPair)) : Nat → (Int × (List S_api_ClPair)) → Option (((List S_api_ClPair)) ⊕ ((List S_api_ClPair)))
  | 0, _ => none
  | n9 + 1, c8 => if (decide (c8.1 ≤ (legend.length : Int))) then ((F67L3 p_m x1 c4 c8 fuel (false, 0)).bind fun o11 => outK o11 (fun (ro11 : (List S_api_ClPair)) => some (.inl ro11)) (fun (so11 : Bool) => if so11 then ((need ((c8.2.length + ([(⟨c4.1, c8.1⟩ : S_api_ClPair)] : List S_api_ClPair).length) * 16 ≤ 140737488355328 ∧ c8.2.length + ([(⟨c4.1, c8.1⟩ : S_api_ClPair)] : List S_api_ClPair).length ≤ 9223372036854775807)).bind fun x18 => F67L2 fuel p_m legend x1 c4 n9 ((w64 (c8.1 + 1)), (c8.2 ++ ([(⟨c4.1, c8.1⟩ : S_api_ClPair)] : List S_api_ClPair)))) else (F67L2 fuel p_m legend x1 c4 n9 ((w64 (c8.1 + 1)), c8.2)))) else (some (.inr c8.2))

def F67L1 (fuel : Nat) (p_m : S_api_ClMap) (legend : (List Int)) (x1 : (List S_api_Span)) : Nat → (Int × (List S_api_ClPair)) → Option (((List S_api_ClPair)) ⊕ ((List S_api_ClPair)))
  | 0, _ => none
  | n5 + 1, c4 => if (decide (c4.1 ≤ (legend.length : Int))) then ((F67L2 fuel p_m legend x1 c4 fuel ((w64 (c4.1 + 1)), c4.2)).bind fun o7 => outK o7 (fun (ro7 : (List S_api_ClPair)) => some (.inl ro7)) (fun (so7 : (List S_api_ClPair)) => F67L1 fuel p_m legend x1 n5 ((w64 (c4.1 + 1)), so7))) else (some (.inr c4.2))

def F67 (fuel : Nat)  (p_m : S_api_ClMap) (legend : (List Int)) : Option ((List S_api_ClPair)) :=
  (F65 fuel p_m legend).bind fun x1 => (F67L1 fuel p_m legend x1 fuel (0, ([] : List S_api_ClPair))).bind fun o3 => outK o3 (fun (ro3 : (List S_api_ClPair)) => some ro3) (fun (so3 : (List S_api_ClPair)) => some so3)

-- hachure/hachureref09.Meets P
def F28 (fuel : Nat)  (p_m : S_api_ClMap) (legend : (List Int)) : Option ((List S_api_ClPair) × Int) :=
  (F20 fuel p_m legend).bind fun x1 => if (x1.2 != 0) then (some (([] : List S_api_ClPair), x1.2)) else ((F67 fuel p_m legend).bind fun x3 => some (x3, 0))
end Go.Proofs.Ytpkhbbboedoldaa
