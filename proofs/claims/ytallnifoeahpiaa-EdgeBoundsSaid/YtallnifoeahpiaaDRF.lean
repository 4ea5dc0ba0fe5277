/- What functions of the seat compute. Printed by a program of mine. -/
import Derived.Test.YtallnifoeahpiaaP
import Derived.Test.YtallnifoeahpiaaDRB
namespace Go.Proofs.Ytallnifoeahpiaa
open Go Go.Sx
set_option linter.unusedVariables false


def F87L1 (fuel:Nat) (p_c:S_api_EdCase) (l:(List Int)):Nat→Int→Option ((Bool)⊕(Unit))
 | 0,_=>none
 | n3+1,c2=>if (decide (c2<(p_c.Edges.length:Int))) then ((idx p_c.Edges c2).bind fun x5=>(optG ((if x5.B>x5.A then x5.B else x5.A)==(w64 ((l.length:Int)-1))) (idx l x5.A)).bind fun x6=>(optG ((if x5.B>x5.A then x5.B else x5.A)==(w64 ((l.length:Int)-1))) (idx l x5.B)).bind fun x7=>(optG ((if x5.B>x5.A then x5.B else x5.A)==(w64 ((l.length:Int)-1))) (F85 fuel p_c x5 x6 x7)).bind fun x8=>if (cond ((if x5.B>x5.A then x5.B else x5.A)==(w64 ((l.length:Int)-1))) (!x8) false) then (some (.inl false)) else (F87L1 fuel p_c l n3 (w64 (c2+1)))) else (some (.inr ()))

def F87 (fuel:Nat)  (p_c:S_api_EdCase) (l:(List Int)):Option (Bool) :=
 (F87L1 fuel p_c l fuel 0).bind fun o1=>outK o1 (fun (ro1:Bool)=>some ro1) (fun (so1:Unit)=>some true)
end Go.Proofs.Ytallnifoeahpiaa
