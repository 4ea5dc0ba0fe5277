/- What functions of the seat compute. Printed by a program of mine. -/
import Derived.Test.YtallnifoeahpiaaP
import Derived.Test.YtallnifoeahpiaaDEE
import Derived.Test.YtallnifoeahpiaaDEG
import Derived.Test.YtallnifoeahpiaaDEH
import Derived.Test.YtallnifoeahpiaaDLU
import Derived.Test.YtallnifoeahpiaaDLV
import Derived.Test.YtallnifoeahpiaaDRB
import Derived.Test.YtallnifoeahpiaaDW
namespace Go.Proofs.Ytallnifoeahpiaa
open Go Go.Sx
set_option linter.unusedVariables false


def F42L1 (p_c:S_api_EdCase):Nat→(Int×Int)→Option ((Int)⊕(Int))
 | 0,_=>none
 | n3+1,c2=>if (decide (c2.2<(p_c.Sheets.length:Int))) then ((idx p_c.Sheets c2.2).bind fun x5=>(idx p_c.Sheets c2.2).bind fun x6=>F42L1 p_c n3 ((w64 (c2.1+(w64 (x5.Weight*x6.Most)))),(w64 (c2.2+1)))) else (some (.inr c2.1))

def F42 (fuel:Nat)  (p_c:S_api_EdCase):Option (Int) :=
 (F42L1 p_c fuel (0,0)).bind fun o1=>outK o1 (fun (ro1:Int)=>some ro1) (fun (so1:Int)=>some so1)


def F8L1 (p_c:S_api_EdCase) (proof:(List Int)):Nat→(Int×(List Int))→Option ((Bool)⊕((List Int)))
 | 0,_=>none
 | n16+1,c15=>if (decide (c15.1<(p_c.Edges.length:Int))) then (if (decide ((proof.length:Int)>0)) then ((need ((proof.length:Int)≠0)).bind fun x19=>(idx proof (c15.1.tmod (proof.length:Int))).bind fun x20=>(need ((c15.2.length+([(IntKind.i64.wrap x20)]:List Int).length)*8≤140737488355328∧c15.2.length+([(IntKind.i64.wrap x20)]:List Int).length≤9223372036854775807)).bind fun x21=>F8L1 p_c proof n16 ((w64 (c15.1+1)),(c15.2++([(IntKind.i64.wrap x20)]:List Int)))) else ((need ((c15.2.length+([0]:List Int).length)*8≤140737488355328∧c15.2.length+([0]:List Int).length≤9223372036854775807)).bind fun x22=>F8L1 p_c proof n16 ((w64 (c15.1+1)),(c15.2++([0]:List Int))))) else (some (.inr c15.2))

def F8 (fuel:Nat)  (p_c:S_api_EdCase) (proof:(List Int)) (p_x:(List Int)):Option (Bool) :=
 (F40 fuel p_c).bind fun x1=>(F27 fuel p_c).bind fun x2=>(F36 fuel p_c).bind fun x3=>(optG (!(!x3)) (F41 fuel p_c)).bind fun x4=>if (cond (!x3) true (!x4)) then ((optG (cond (cond (cond (x1.2 != 0) (x2.2.2 != 0) false) ((x1.1.length:Int)==0) false) ((x2.1.length:Int)==0) false) (F24 fuel)).bind fun x6=>some (cond (cond (cond (cond (x1.2 != 0) (x2.2.2 != 0) false) ((x1.1.length:Int)==0) false) ((x2.1.length:Int)==0) false) x6 false)) else (if (cond (cond (x1.2 != 0) true ((x1.1.length:Int) != (p_c.Edges.length:Int))) true (cond (x2.2.2 != 0) (x2.2.2 != 9) false)) then (some false) else ((F30 fuel p_c x1.1).bind fun x8=>(F31 fuel p_c x1.1).bind fun x9=>if (cond (cond (x8.2 != 0) true (x9.2 != 0)) true (x8.1 != x9.1)) then (some false) else ((optG ((!(cond (x2.2.2==0) (x8.1 != x2.2.1) false))&&(x2.2.2==9)) (F42 fuel p_c)).bind fun x11=>if (cond (cond (x2.2.2==0) (x8.1 != x2.2.1) false) true (cond (x2.2.2==9) (decide (x8.1≤x11)) false)) then (some false) else ((F8L1 p_c proof fuel (0,([]:List Int))).bind fun o14=>outK o14 (fun (ro14:Bool)=>some ro14) (fun (so14:(List Int))=>(F30 fuel p_c so14).bind fun x23=>(F37 fuel p_c p_x).bind fun x24=>(optG (x23.2==0) (F38 fuel p_c x24)).bind fun x25=>(optG ((x23.2==0)&&(!(!x25))) (F39 fuel p_c x24)).bind fun x26=>(optG (cond (cond (x23.2==0) (cond (!x25) true (decide (x23.1≤x26))) false) (cond (x2.2.2 != 0) true (decide (x23.1≤x2.2.1))) false) (F24 fuel)).bind fun x27=>some (cond (cond (cond (x23.2==0) (cond (!x25) true (decide (x23.1≤x26))) false) (cond (x2.2.2 != 0) true (decide (x23.1≤x2.2.1))) false) x27 false))))))
end Go.Proofs.Ytallnifoeahpiaa
