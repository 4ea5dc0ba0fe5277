/- What functions of the seat compute. Printed by a program of mine. -/
import Derived.Test.YtallnifoeahpiaaP
import Derived.Test.YtallnifoeahpiaaDRA
import Derived.Test.YtallnifoeahpiaaDRF
namespace Go.Proofs.Ytallnifoeahpiaa
open Go Go.Sx
set_option linter.unusedVariables false


def F74L1 (rec30:(List Int)→Int→Int→Option ((List (List Int)))) (begin:(List Int)) (many:Int) (below:Int):Nat→(Int×(List (List Int)))→Option (((List (List Int)))⊕((List (List Int))))
 | 0,_=>none
 | n8+1,c7=>if (decide (c7.1<below)) then ((need ((([]:List Int).length+begin.length)*8≤140737488355328∧([]:List Int).length+begin.length≤9223372036854775807)).bind fun x10=>(need (((([]:List Int)++begin).length+([c7.1]:List Int).length)*8≤140737488355328∧(([]:List Int)++begin).length+([c7.1]:List Int).length≤9223372036854775807)).bind fun x11=>(rec30 ((([]:List Int)++begin)++([c7.1]:List Int)) (w64 (many-1)) below).bind fun x12=>(need ((c7.2.length+x12.length)*24≤140737488355328∧c7.2.length+x12.length≤9223372036854775807)).bind fun x13=>F74L1 rec30 begin many below n8 ((w64 (c7.1+1)),(c7.2++x12))) else (some (.inr c7.2))

def B74 (fuel:Nat) (rec30:(List Int)→Int→Int→Option ((List (List Int)))) (begin:(List Int)) (many:Int) (below:Int):Option ((List (List Int))) :=
 if (many==0) then (some ([begin]:List (List Int))) else ((if (decide ((begin.length:Int)>0)) then ((idx begin (w64 ((begin.length:Int)-1))).bind fun x4=>some (.inr (w64 (x4+1)))) else (some (.inr 0))).bind fun o2=>outK o2 (fun (ro2:(List (List Int)))=>some ro2) (fun (so2:Int)=>(F74L1 rec30 begin many below fuel (so2,([]:List (List Int)))).bind fun o6=>outK o6 (fun (ro6:(List (List Int)))=>some ro6) (fun (so6:(List (List Int)))=>some so6)))

def F74:Nat→(List Int)→Int→Int→Option ((List (List Int)))
 | 0,_,_,_=>none
 | n+1,begin,many,below=>B74 (n+1) (F74 n) begin many below


def F79L1 (l:(List Int)) (p_n:Int):Nat→Int→Option ((Bool)⊕(Unit))
 | 0,_=>none
 | n3+1,c2=>if (decide (c2<(l.length:Int))) then ((idx l c2).bind fun x5=>if (x5==p_n) then (some (.inl true)) else (F79L1 l p_n n3 (w64 (c2+1)))) else (some (.inr ()))

def F79 (fuel:Nat)  (l:(List Int)) (p_n:Int):Option (Bool) :=
 (F79L1 l p_n fuel 0).bind fun o1=>outK o1 (fun (ro1:Bool)=>some ro1) (fun (so1:Unit)=>some false)


def F43L1 (fuel:Nat) (p_c:S_api_EdCase) (out:(List Int)):Nat→(Int×(List S_api_EdEdge))→Option ((S_api_EdCase)⊕((List S_api_EdEdge)))
 | 0,_=>none
 | n4+1,c3=>if (decide (c3.1<(p_c.Edges.length:Int))) then ((F79 fuel out c3.1).bind fun x6=>if (!x6) then ((idx p_c.Edges c3.1).bind fun x8=>(need ((c3.2.length+([x8]:List S_api_EdEdge).length)*40≤140737488355328∧c3.2.length+([x8]:List S_api_EdEdge).length≤9223372036854775807)).bind fun x9=>F43L1 fuel p_c out n4 ((w64 (c3.1+1)),(c3.2++([x8]:List S_api_EdEdge)))) else (F43L1 fuel p_c out n4 ((w64 (c3.1+1)),c3.2))) else (some (.inr c3.2))

def F43 (fuel:Nat)  (p_c:S_api_EdCase) (out:(List Int)):Option (S_api_EdCase) :=
 (F43L1 fuel p_c out fuel (0,([]:List S_api_EdEdge))).bind fun o2=>outK o2 (fun (ro2:S_api_EdCase)=>some ro2) (fun (so2:(List S_api_EdEdge))=>some (⟨p_c.Tol,p_c.Sheets,so2⟩:S_api_EdCase))


def F95v1L1 (fuel:Nat) (rec35:S_api_EdCase→(List Int)→Option (Bool)) (p_c:S_api_EdCase) (begin:(List Int)) (x2:S_api_EdSheet):Nat→Int→Option ((Bool)⊕(Unit))
 | 0,_=>none
 | n5+1,c4=>if (decide (c4≤x2.Most)) then ((need ((([]:List Int).length+begin.length)*8≤140737488355328∧([]:List Int).length+begin.length≤9223372036854775807)).bind fun x7=>(need (((([]:List Int)++begin).length+([c4]:List Int).length)*8≤140737488355328∧(([]:List Int)++begin).length+([c4]:List Int).length≤9223372036854775807)).bind fun x8=>(F87 fuel p_c ((([]:List Int)++begin)++([c4]:List Int))).bind fun x9=>(optG x9 (rec35 p_c ((([]:List Int)++begin)++([c4]:List Int)))).bind fun x10=>if (cond x9 x10 false) then (some (.inl true)) else (F95v1L1 fuel rec35 p_c begin x2 n5 (w64 (c4+1)))) else (some (.inr ()))

def B95v1 (fuel:Nat) (rec35:S_api_EdCase→(List Int)→Option (Bool)) (p_c:S_api_EdCase) (begin:(List Int)):Option (Bool) :=
 if ((begin.length:Int)==(p_c.Sheets.length:Int)) then (some true) else ((idx p_c.Sheets (begin.length:Int)).bind fun x2=>(F95v1L1 fuel rec35 p_c begin x2 fuel (w64 (0-x2.Most))).bind fun o3=>outK o3 (fun (ro3:Bool)=>some ro3) (fun (so3:Unit)=>some false))

def F95v1:Nat→S_api_EdCase→(List Int)→Option (Bool)
 | 0,_,_=>none
 | n+1,p_c,begin=>B95v1 (n+1) (F95v1 n) p_c begin


def F95L1 (fuel:Nat) (p_c:S_api_EdCase) (x2:S_api_EdSheet):Nat→Int→Option ((Bool)⊕(Unit))
 | 0,_=>none
 | n5+1,c4=>if (decide (c4≤x2.Most)) then ((need ((([]:List Int).length+([]:List Int).length)*8≤140737488355328∧([]:List Int).length+([]:List Int).length≤9223372036854775807)).bind fun x7=>(need (((([]:List Int)++([]:List Int)).length+([c4]:List Int).length)*8≤140737488355328∧(([]:List Int)++([]:List Int)).length+([c4]:List Int).length≤9223372036854775807)).bind fun x8=>(F87 fuel p_c ((([]:List Int)++([]:List Int))++([c4]:List Int))).bind fun x9=>(optG x9 (F95v1 fuel p_c ((([]:List Int)++([]:List Int))++([c4]:List Int)))).bind fun x10=>if (cond x9 x10 false) then (some (.inl true)) else (F95L1 fuel p_c x2 n5 (w64 (c4+1)))) else (some (.inr ()))

def F95 (fuel:Nat)  (p_c:S_api_EdCase) (begin:(List Int)):Option (Bool) :=
 if (0==(p_c.Sheets.length:Int)) then (some true) else ((idx p_c.Sheets 0).bind fun x2=>(F95L1 fuel p_c x2 fuel (w64 (0-x2.Most))).bind fun o3=>outK o3 (fun (ro3:Bool)=>some ro3) (fun (so3:Unit)=>some false))


def F75 (fuel:Nat)  (p_c:S_api_EdCase):Option (Bool) :=
 (F95 fuel p_c ([]:(List Int))).bind fun x1=>some x1


def F33L2 (fuel:Nat) (p_c:S_api_EdCase) (x7:(List (List Int))):Nat→Int→Option (((List Int)×Int)⊕(Unit))
 | 0,_=>none
 | n10+1,c9=>if (decide (c9<(x7.length:Int))) then ((idx x7 c9).bind fun x12=>(F43 fuel p_c x12).bind fun x13=>(F75 fuel (⟨x13.Tol,x13.Sheets,x13.Edges⟩:S_api_EdCase)).bind fun x14=>if x14 then ((idx x7 c9).bind fun x16=>some (.inl (x16,0))) else (F33L2 fuel p_c x7 n10 (w64 (c9+1)))) else (some (.inr ()))

def F33L1 (fuel:Nat) (p_c:S_api_EdCase):Nat→Int→Option (((List Int)×Int)⊕(Unit))
 | 0,_=>none
 | n5+1,c4=>if (decide (c4≤(p_c.Edges.length:Int))) then ((F74 fuel ([]:List Int) c4 (p_c.Edges.length:Int)).bind fun x7=>(F33L2 fuel p_c x7 fuel 0).bind fun o8=>outK o8 (fun (ro8:(List Int)×Int)=>some (.inl ro8)) (fun (so8:Unit)=>F33L1 fuel p_c n5 (w64 (c4+1)))) else (some (.inr ()))

def F33 (fuel:Nat)  (p_c:S_api_EdCase):Option ((List Int)×Int) :=
 (F17 fuel p_c).bind fun x1=>if (x1.2.2 != 0) then (some (([]:List Int),x1.2.2)) else ((F33L1 fuel p_c fuel 0).bind fun o3=>outK o3 (fun (ro3:(List Int)×Int)=>some ro3) (fun (so3:Unit)=>some (([]:List Int),0)))
end Go.Proofs.Ytallnifoeahpiaa
