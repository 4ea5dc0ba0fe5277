/- What functions of the seat compute. Printed by a program of mine. -/
import Derived.Test.YtallnifoeahpiaaP
namespace Go.Proofs.Ytallnifoeahpiaa
open Go Go.Sx
set_option linter.unusedVariables false


def F79L1 (l:(List Int)) (p_n:Int):Nat→Int→Option ((Bool)⊕(Unit))
 | 0,_=>none
 | n3+1,c2=>if (decide (c2<(l.length:Int))) then ((idx l c2).bind fun x5=>if (x5==p_n) then (some (.inl true)) else (F79L1 l p_n n3 (w64 (c2+1)))) else (some (.inr ()))

def F79 (fuel:Nat)  (l:(List Int)) (p_n:Int):Option (Bool) :=
 (F79L1 l p_n fuel 0).bind fun o1=>outK o1 (fun (ro1:Bool)=>some ro1) (fun (so1:Unit)=>some false)


def F43L1 (fuel:Nat) (p_c:S_api_EdCase) (out:(List Int)):Nat→(Int×(List S_api_EdEdge))→Option ((S_api_EdCase)⊕((List S_api_EdEdge)))
 | 0,_=>none
 | n4+1,c3=>if (decide (c3.1<(p_c.Edges.length:Int))) then ((F79 fuel out c3.1).bind fun x6=>if (!x6) then ((idx p_c.Edges c3.1).bind fun x8=>(need ((c3.2.length+([x8]:List S_api_EdEdge).length)*40≤140737488355328∧c3.2.length+([x8]:List S_api_EdEdge).length≤9223372036854775807)).bind fun x9=>F43L1 fuel p_c out n4 ((w64 (c3.1+1)),(c3.2++([x8]:List S_api_EdEdge)))) else (F43L1 fuel p_c out n4 ((w64 (c3.1+1)),c3.2))) else (some (.inr c3.2))

def F43 (fuel:Nat)  (p_c:S_api_EdCase) (out:(List Int)):Option (S_api_EdCase) :=
 (F43L1 fuel p_c out fuel (0,([]:List S_api_EdEdge))).bind fun o2=>outK o2 (fun (ro2:S_api_EdCase)=>some ro2) (fun (so2:(List S_api_EdEdge))=>some (⟨p_c.Tol,p_c.Sheets,so2⟩:S_api_EdCase))
end Go.Proofs.Ytallnifoeahpiaa
