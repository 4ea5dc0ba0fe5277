/- What functions of the seat compute. Printed by a program of mine. -/
import Derived.Test.YtkcgfceihpampaaGreatDoorP
import Derived.Test.YtkcgfceihpampaaGreatDoorDE
namespace Go.Proofs.YtkcgfceihpampaaGreatDoor
open Go Go.Sx
set_option linter.unusedVariables false


def F82  (p_n:Int) (low:Int) (high:Int):Option (Bool) :=
 some (cond (decide (p_n≥low)) (decide (p_n≤high)) false)


def F84  (p:S_api_ClPair) (below:Int):Option (Int) :=
 (F82 p.A 0 (w64 (below-1))).bind fun x1=>(optG (!(!x1)) (F82 p.B 0 (w64 (below-1)))).bind fun x2=>if (cond (!x1) true (!x2)) then (some 4) else (if (p.A==p.B) then (some 2) else (some 0))


def F20L1 (fuel:Nat) (p_m:S_api_ClMap):Nat→Int→Option ((Int×Int×Int)⊕(Unit))
 | 0,_=>none
 | n9+1,c8=>if (decide (c8<(p_m.Borders.length:Int))) then ((idx p_m.Borders c8).bind fun x11=>(F83 fuel x11 0 9000).bind fun x12=>(optG (x12==0) (idx p_m.Borders c8)).bind fun x13=>(optG (x12==0) (idx p_m.Borders c8)).bind fun x14=>(if (cond (x12==0) (decide (x13.Hi>(w64 (x14.Lo+20)))) false) then (some (.inr 2)) else (some (.inr x12))).bind fun o15=>outK o15 (fun (ro15:Int×Int×Int)=>some (.inl ro15)) (fun (so15:Int)=>if (so15 != 0) then (some (.inl (2,c8,so15))) else (F20L1 fuel p_m n9 (w64 (c8+1))))) else (some (.inr ()))

def F20L2 (fuel:Nat) (p_m:S_api_ClMap):Nat→Int→Option ((Int×Int×Int)⊕(Unit))
 | 0,_=>none
 | n20+1,c19=>if (decide (c19<(p_m.Heights.length:Int))) then ((idx p_m.Heights c19).bind fun x22=>(F83 fuel x22 0 9000).bind fun x23=>if (x23 != 0) then (some (.inl (3,c19,x23))) else (F20L2 fuel p_m n20 (w64 (c19+1)))) else (some (.inr ()))

def F20L3 (p_m:S_api_ClMap):Nat→Int→Option ((Int×Int×Int)⊕(Unit))
 | 0,_=>none
 | n27+1,c26=>if (decide (c26<(p_m.Sides.length:Int))) then ((idx p_m.Sides c26).bind fun x29=>(F84 x29 (p_m.Heights.length:Int)).bind fun x30=>if (x30 != 0) then (some (.inl (4,c26,x30))) else (F20L3 p_m n27 (w64 (c26+1)))) else (some (.inr ()))

def F20L4 (p_m:S_api_ClMap):Nat→Int→Option ((Int×Int×Int)⊕(Unit))
 | 0,_=>none
 | n34+1,c33=>if (decide (c33<(p_m.Like.length:Int))) then ((idx p_m.Like c33).bind fun x36=>(F84 x36 p_m.Inks).bind fun x37=>if (x37 != 0) then (some (.inl (5,c33,x37))) else (F20L4 p_m n34 (w64 (c33+1)))) else (some (.inr ()))

def F20 (fuel:Nat)  (p_m:S_api_ClMap):Option (Int×Int×Int) :=
 (F82 (p_m.Borders.length:Int) 1 5).bind fun x1=>(optG (!(!x1)) (F82 (p_m.Heights.length:Int) 1 8)).bind fun x2=>if (cond (cond (cond (!x1) true (!x2)) true (decide ((p_m.Sides.length:Int)>10))) true (decide ((p_m.Like.length:Int)>8))) then (some (1,0,3)) else ((F82 p_m.Step 1 1000).bind fun x4=>(optG (!(!x4)) (F82 p_m.Inks 1 6)).bind fun x5=>if (cond (!x4) true (!x5)) then (some (1,0,7)) else ((F20L1 fuel p_m fuel 0).bind fun o7=>outK o7 (fun (ro7:Int×Int×Int)=>some ro7) (fun (so7:Unit)=>(F20L2 fuel p_m fuel 0).bind fun o18=>outK o18 (fun (ro18:Int×Int×Int)=>some ro18) (fun (so18:Unit)=>(F20L3 p_m fuel 0).bind fun o25=>outK o25 (fun (ro25:Int×Int×Int)=>some ro25) (fun (so25:Unit)=>(F20L4 p_m fuel 0).bind fun o32=>outK o32 (fun (ro32:Int×Int×Int)=>some ro32) (fun (so32:Unit)=>some (0,0,0)))))))


def F89  (l:(List Int)) (p_n:Int):Option (Int) :=
 if ((l.length:Int)==0) then (some 0) else ((need ((l.length:Int)≠0)).bind fun x2=>(idx l (p_n.tmod (l.length:Int))).bind fun x3=>some (IntKind.i64.wrap x3))


def F88  (p_s:S_api_Span) (p_n:Int):Option (Int) :=
 (need ((w64 ((w64 (p_s.Hi-p_s.Lo))+1))≠0)).bind fun x1=>some (w64 (p_s.Lo+(p_n.tmod (w64 ((w64 (p_s.Hi-p_s.Lo))+1)))))


def F22L1 (p_m:S_api_ClMap) (p_x:(List Int)):Nat→(Int×(List Int))→Option (((List Int))⊕((List Int)))
 | 0,_=>none
 | n4+1,c3=>if (decide (c3.1<(p_m.Borders.length:Int))) then ((idx p_m.Borders c3.1).bind fun x6=>(optG (decide (c3.1>0)) (idx c3.2 (w64 (c3.1-1)))).bind fun x7=>if (cond (decide (c3.1>0)) (decide ((w64 (x7+p_m.Step))≤x6.Hi)) false) then ((idx c3.2 (w64 (c3.1-1))).bind fun x9=>(F89 p_x c3.1).bind fun x10=>(F88 (⟨(if (w64 (x9+p_m.Step))>x6.Lo then (w64 (x9+p_m.Step)) else x6.Lo),x6.Hi⟩:S_api_Span) x10).bind fun x11=>(need ((c3.2.length+([x11]:List Int).length)*8≤140737488355328∧c3.2.length+([x11]:List Int).length≤9223372036854775807)).bind fun x12=>F22L1 p_m p_x n4 ((w64 (c3.1+1)),(c3.2++([x11]:List Int)))) else ((F89 p_x c3.1).bind fun x13=>(F88 x6 x13).bind fun x14=>(need ((c3.2.length+([x14]:List Int).length)*8≤140737488355328∧c3.2.length+([x14]:List Int).length≤9223372036854775807)).bind fun x15=>F22L1 p_m p_x n4 ((w64 (c3.1+1)),(c3.2++([x14]:List Int))))) else (some (.inr c3.2))

def F22 (fuel:Nat)  (p_m:S_api_ClMap) (p_x:(List Int)):Option ((List Int)) :=
 (F22L1 p_m p_x fuel (0,([]:List Int))).bind fun o2=>outK o2 (fun (ro2:(List Int))=>some ro2) (fun (so2:(List Int))=>some so2)


def F23L1 (p_m:S_api_ClMap) (legend:(List Int)):Nat→Int→Option ((Int×Int)⊕(Unit))
 | 0,_=>none
 | n7+1,c6=>if (decide (c6<(legend.length:Int))) then ((idx legend c6).bind fun x9=>(idx p_m.Borders c6).bind fun x10=>(idx p_m.Borders c6).bind fun x11=>(F82 x9 x10.Lo x11.Hi).bind fun x12=>if (!x12) then (some (.inl (c6,7))) else ((optG (decide (c6>0)) (idx legend c6)).bind fun x14=>(optG (decide (c6>0)) (idx legend (w64 (c6-1)))).bind fun x15=>if (cond (decide (c6>0)) (decide (x14<(w64 (x15+p_m.Step)))) false) then (some (.inl (c6,2))) else (F23L1 p_m legend n7 (w64 (c6+1))))) else (some (.inr ()))

def F23 (fuel:Nat)  (p_m:S_api_ClMap) (legend:(List Int)):Option (Int×Int) :=
 (F20 fuel p_m).bind fun x1=>(if (cond (x1.2.2==0) ((legend.length:Int) != (p_m.Borders.length:Int)) false) then (some (.inr 3)) else (some (.inr x1.2.2))).bind fun o2=>outK o2 (fun (ro2:Int×Int)=>some ro2) (fun (so2:Int)=>if (so2 != 0) then (some (0,so2)) else ((F23L1 p_m legend fuel 0).bind fun o5=>outK o5 (fun (ro5:Int×Int)=>some ro5) (fun (so5:Unit)=>some (0,0))))


def F26L1 (legend:(List Int)) (high:Int):Nat→Int→Option ((Int)⊕(Int))
 | 0,_=>none
 | n3+1,c2=>(optG (decide (c2<(legend.length:Int))) (idx legend c2)).bind fun x4=>if (cond (decide (c2<(legend.length:Int))) (decide (x4≤high)) false) then (F26L1 legend high n3 (w64 (c2+1))) else (some (.inr c2))

def F26 (fuel:Nat)  (legend:(List Int)) (high:Int):Option (Int) :=
 (F26L1 legend high fuel 0).bind fun o1=>outK o1 (fun (ro1:Int)=>some ro1) (fun (so1:Int)=>some so1)


def F27  (p_n:Int) (p_s:S_api_Span):Option (Bool) :=
 (F71 p_n p_s.Lo p_s.Hi).bind fun x1=>some x1


def F28L1 (l:(List Int)) (p_n:Int):Nat→Int→Option ((Bool)⊕(Unit))
 | 0,_=>none
 | n3+1,c2=>if (decide (c2<(l.length:Int))) then ((idx l c2).bind fun x5=>if (x5==p_n) then (some (.inl true)) else (F28L1 l p_n n3 (w64 (c2+1)))) else (some (.inr ()))

def F28 (fuel:Nat)  (l:(List Int)) (p_n:Int):Option (Bool) :=
 (F28L1 l p_n fuel 0).bind fun o1=>outK o1 (fun (ro1:Bool)=>some ro1) (fun (so1:Unit)=>some false)
end Go.Proofs.YtkcgfceihpampaaGreatDoor
