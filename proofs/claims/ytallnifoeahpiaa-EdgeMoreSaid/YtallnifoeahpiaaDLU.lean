/- What functions of the seat compute. Printed by a program of mine. -/
import Derived.Test.YtallnifoeahpiaaP
import Derived.Test.YtallnifoeahpiaaDRB
namespace Go.Proofs.Ytallnifoeahpiaa
open Go Go.Sx
set_option linter.unusedVariables false


def F77  (l:(List Int)) (p_n:Int):Option (Int) :=
 if ((l.length:Int)==0) then (some 0) else ((need ((l.length:Int)≠0)).bind fun x2=>(idx l (p_n.tmod (l.length:Int))).bind fun x3=>some (IntKind.i64.wrap x3))


def F37L1 (p_c:S_api_EdCase) (p_x:(List Int)):Nat→(Int×(List Int))→Option (((List Int))⊕((List Int)))
 | 0,_=>none
 | n4+1,c3=>if (decide (c3.1<(p_c.Sheets.length:Int))) then ((idx p_c.Sheets c3.1).bind fun x6=>(F77 p_x c3.1).bind fun x7=>(need ((w64 ((w64 (2*x6.Most))+1))≠0)).bind fun x8=>(need ((c3.2.length+([(w64 ((x7.tmod (w64 ((w64 (2*x6.Most))+1)))-x6.Most))]:List Int).length)*8≤140737488355328∧c3.2.length+([(w64 ((x7.tmod (w64 ((w64 (2*x6.Most))+1)))-x6.Most))]:List Int).length≤9223372036854775807)).bind fun x9=>F37L1 p_c p_x n4 ((w64 (c3.1+1)),(c3.2++([(w64 ((x7.tmod (w64 ((w64 (2*x6.Most))+1)))-x6.Most))]:List Int)))) else (some (.inr c3.2))

def F37 (fuel:Nat)  (p_c:S_api_EdCase) (p_x:(List Int)):Option ((List Int)) :=
 (F37L1 p_c p_x fuel (0,([]:List Int))).bind fun o2=>outK o2 (fun (ro2:(List Int))=>some ro2) (fun (so2:(List Int))=>some so2)


def F38 (fuel:Nat)  (p_c:S_api_EdCase) (l:(List Int)):Option (Bool) :=
 (F61 fuel p_c l).bind fun x1=>(optG (x1==0) (F62 fuel p_c l)).bind fun x2=>some (cond (x1==0) (decide (x2<0)) false)
end Go.Proofs.Ytallnifoeahpiaa
