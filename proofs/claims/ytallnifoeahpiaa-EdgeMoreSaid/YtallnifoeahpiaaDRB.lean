/- What functions of the seat compute. Printed by a program of mine. -/
import Derived.Test.YtallnifoeahpiaaP
import Derived.Test.YtallnifoeahpiaaDRA
namespace Go.Proofs.Ytallnifoeahpiaa
open Go Go.Sx
set_option linter.unusedVariables false


def F61L1 (p_c:S_api_EdCase) (l:(List Int)):Nat→(Int×Int)→Option ((Int)⊕(Int))
 | 0,_=>none
 | n6+1,c5=>if (cond (decide (c5.2<(l.length:Int))) (c5.1==0) false) then ((idx l c5.2).bind fun x8=>(idx p_c.Sheets c5.2).bind fun x9=>(idx p_c.Sheets c5.2).bind fun x10=>(F54 x8 (w64 (0-x9.Most)) x10.Most).bind fun x11=>if (!x11) then (F61L1 p_c l n6 (7,(w64 (c5.2+1)))) else (F61L1 p_c l n6 (c5.1,(w64 (c5.2+1))))) else (some (.inr c5.1))

def F61 (fuel:Nat)  (p_c:S_api_EdCase) (l:(List Int)):Option (Int) :=
 (F17 fuel p_c).bind fun x1=>(if (cond (x1.2.2==0) ((l.length:Int) != (p_c.Sheets.length:Int)) false) then (some (.inr 3)) else (some (.inr x1.2.2))).bind fun o2=>outK o2 (fun (ro2:Int)=>some ro2) (fun (so2:Int)=>(F61L1 p_c l fuel (so2,0)).bind fun o4=>outK o4 (fun (ro4:Int)=>some ro4) (fun (so4:Int)=>some so4))


def F71  (p_n:Int):Option (Int) :=
 some (if (w64 (0-p_n))>p_n then (w64 (0-p_n)) else p_n)


def F85L1 (p_c:S_api_EdCase) (p_x:S_api_EdEdge) (p_a:Int) (p_b:Int):Nat→Int→Option ((Bool)⊕(Unit))
 | 0,_=>none
 | n3+1,c2=>if (decide (c2<(p_x.Points.length:Int))) then ((idx p_x.Points c2).bind fun x5=>(idx p_x.Points c2).bind fun x6=>(F71 (w64 ((w64 ((w64 (x5.A+p_a))-x6.B))-p_b))).bind fun x7=>if (decide (x7>p_c.Tol)) then (some (.inl false)) else (F85L1 p_c p_x p_a p_b n3 (w64 (c2+1)))) else (some (.inr ()))

def F85 (fuel:Nat)  (p_c:S_api_EdCase) (p_x:S_api_EdEdge) (p_a:Int) (p_b:Int):Option (Bool) :=
 (F85L1 p_c p_x p_a p_b fuel 0).bind fun o1=>outK o1 (fun (ro1:Bool)=>some ro1) (fun (so1:Unit)=>some true)


def F62L1 (fuel:Nat) (p_c:S_api_EdCase) (l:(List Int)):Nat→Int→Option ((Int)⊕(Unit))
 | 0,_=>none
 | n3+1,c2=>if (decide (c2<(p_c.Edges.length:Int))) then ((idx p_c.Edges c2).bind fun x5=>(idx l x5.A).bind fun x6=>(idx l x5.B).bind fun x7=>(F85 fuel p_c x5 x6 x7).bind fun x8=>if (!x8) then (some (.inl c2)) else (F62L1 fuel p_c l n3 (w64 (c2+1)))) else (some (.inr ()))

def F62 (fuel:Nat)  (p_c:S_api_EdCase) (l:(List Int)):Option (Int) :=
 (F62L1 fuel p_c l fuel 0).bind fun o1=>outK o1 (fun (ro1:Int)=>some ro1) (fun (so1:Unit)=>some (-1))


def F21 (fuel:Nat)  (p_c:S_api_EdCase) (l:(List Int)):Option (Int×Int) :=
 (F61 fuel p_c l).bind fun x1=>if (x1 != 0) then (some (0,x1)) else ((F62 fuel p_c l).bind fun x3=>some (x3,0))


def F39L1 (p_c:S_api_EdCase) (l:(List Int)):Nat→(Int×Int)→Option ((Int)⊕(Int))
 | 0,_=>none
 | n3+1,c2=>if (decide (c2.2<(l.length:Int))) then ((idx p_c.Sheets c2.2).bind fun x5=>(idx l c2.2).bind fun x6=>(F71 x6).bind fun x7=>F39L1 p_c l n3 ((w64 (c2.1+(w64 (x5.Weight*x7)))),(w64 (c2.2+1)))) else (some (.inr c2.1))

def F39 (fuel:Nat)  (p_c:S_api_EdCase) (l:(List Int)):Option (Int) :=
 (F39L1 p_c l fuel (0,0)).bind fun o1=>outK o1 (fun (ro1:Int)=>some ro1) (fun (so1:Int)=>some so1)


def F23 (fuel:Nat)  (p_c:S_api_EdCase) (l:(List Int)):Option (Int×Int) :=
 (F61 fuel p_c l).bind fun x1=>if (x1 != 0) then (some (0,x1)) else ((F39 fuel p_c l).bind fun x3=>some (x3,0))


def F41L1 (fuel:Nat) (p_c:S_api_EdCase):Nat→Int→Option ((Bool)⊕(Unit))
 | 0,_=>none
 | n3+1,c2=>if (decide (c2<(p_c.Edges.length:Int))) then ((idx p_c.Edges c2).bind fun x5=>(F58 fuel p_c x5).bind fun x6=>if (!x6.2) then (some (.inl false)) else (F41L1 fuel p_c n3 (w64 (c2+1)))) else (some (.inr ()))

def F41 (fuel:Nat)  (p_c:S_api_EdCase):Option (Bool) :=
 (F41L1 fuel p_c fuel 0).bind fun o1=>outK o1 (fun (ro1:Bool)=>some ro1) (fun (so1:Unit)=>some true)


def F70L1 (p_c:S_api_EdCase) (proof:(List Int)):Nat→(Int×(List Int))→Option (((List Int))⊕((List Int)))
 | 0,_=>none
 | n4+1,c3=>if (decide (c3.1<(p_c.Edges.length:Int))) then ((idx p_c.Edges c3.1).bind fun x6=>(idx p_c.Edges c3.1).bind fun x7=>(idx c3.2 x7.A).bind fun x8=>(idx proof c3.1).bind fun x9=>(idx c3.2 x6.A).bind fun x10=>(idx p_c.Edges c3.1).bind fun x11=>(idx p_c.Edges c3.1).bind fun x12=>(idx (c3.2.set x6.A.toNat (w64 (x8+x9))) x12.B).bind fun x13=>(idx proof c3.1).bind fun x14=>(idx (c3.2.set x6.A.toNat (w64 (x8+x9))) x11.B).bind fun x15=>F70L1 p_c proof n4 ((w64 (c3.1+1)),((c3.2.set x6.A.toNat (w64 (x8+x9))).set x11.B.toNat (w64 (x13-x14))))) else (some (.inr c3.2))

def F70 (fuel:Nat)  (p_c:S_api_EdCase) (proof:(List Int)):Option ((List Int)) :=
 (need (0≤(p_c.Sheets.length:Int)∧(p_c.Sheets.length:Int)*8≤140737488355328∧(p_c.Sheets.length:Int)≤9223372036854775807)).bind fun x1=>(F70L1 p_c proof fuel (0,(List.replicate (p_c.Sheets.length:Int).toNat (0:Int)))).bind fun o2=>outK o2 (fun (ro2:(List Int))=>some ro2) (fun (so2:(List Int))=>some so2)


def F31L1 (proof:(List Int)):Nat→(Int×Int)→Option ((Int×Int)⊕(Int))
 | 0,_=>none
 | n6+1,c5=>if (cond (decide (c5.2<(proof.length:Int))) (c5.1==0) false) then ((idx proof c5.2).bind fun x8=>(F54 x8 (-100000) 100000).bind fun x9=>if (!x9) then (F31L1 proof n6 (7,(w64 (c5.2+1)))) else (F31L1 proof n6 (c5.1,(w64 (c5.2+1))))) else (some (.inr c5.1))

def F31L2 (fuel:Nat) (p_c:S_api_EdCase) (proof:(List Int)):Nat→(Int×Int)→Option ((Int×Int)⊕(Int))
 | 0,_=>none
 | n17+1,c16=>if (decide (c16.2<(proof.length:Int))) then ((idx p_c.Edges c16.2).bind fun x19=>(F58 fuel p_c x19).bind fun x20=>(idx proof c16.2).bind fun x21=>if (decide (x21>0)) then ((idx proof c16.2).bind fun x23=>F31L2 fuel p_c proof n17 ((w64 (c16.1+(w64 (x23*x20.1.Lo)))),(w64 (c16.2+1)))) else ((idx proof c16.2).bind fun x24=>F31L2 fuel p_c proof n17 ((w64 (c16.1+(w64 (x24*x20.1.Hi)))),(w64 (c16.2+1))))) else (some (.inr c16.1))

def F31L3 (p_c:S_api_EdCase) (x25:(List Int)):Nat→(Int×Int)→Option ((Int×Int)⊕(Int))
 | 0,_=>none
 | n28+1,c27=>if (decide (c27.2<(x25.length:Int))) then ((idx p_c.Sheets c27.2).bind fun x30=>(idx x25 c27.2).bind fun x31=>(F71 x31).bind fun x32=>(idx p_c.Sheets c27.2).bind fun x33=>F31L3 p_c x25 n28 ((w64 (c27.1-(w64 (x30.Most*(if (w64 (x32-x33.Weight))>0 then (w64 (x32-x33.Weight)) else 0))))),(w64 (c27.2+1)))) else (some (.inr c27.1))

def F31 (fuel:Nat)  (p_c:S_api_EdCase) (proof:(List Int)):Option (Int×Int) :=
 (F17 fuel p_c).bind fun x1=>(if (cond (x1.2.2==0) ((proof.length:Int) != (p_c.Edges.length:Int)) false) then (some (.inr 3)) else (some (.inr x1.2.2))).bind fun o2=>outK o2 (fun (ro2:Int×Int)=>some ro2) (fun (so2:Int)=>(F31L1 proof fuel (so2,0)).bind fun o4=>outK o4 (fun (ro4:Int×Int)=>some ro4) (fun (so4:Int)=>(optG (so4==0) (F41 fuel p_c)).bind fun x11=>(if (cond (so4==0) (!x11) false) then (some (.inr 9)) else (some (.inr so4))).bind fun o12=>outK o12 (fun (ro12:Int×Int)=>some ro12) (fun (so12:Int)=>if (so12 != 0) then (some (0,so12)) else ((F31L2 fuel p_c proof fuel (0,0)).bind fun o15=>outK o15 (fun (ro15:Int×Int)=>some ro15) (fun (so15:Int)=>(F70 fuel p_c proof).bind fun x25=>(F31L3 p_c x25 fuel (so15,0)).bind fun o26=>outK o26 (fun (ro26:Int×Int)=>some ro26) (fun (so26:Int)=>some (so26,0)))))))
end Go.Proofs.Ytallnifoeahpiaa
