/- What functions of the seat compute. Printed by a program of mine. -/
import Derived.Test.YtallnifoeahpiaaP
import Derived.Test.YtallnifoeahpiaaDEF
import Derived.Test.YtallnifoeahpiaaDEG
import Derived.Test.YtallnifoeahpiaaDLV
import Derived.Test.YtallnifoeahpiaaDRL
import Derived.Test.YtallnifoeahpiaaDW
namespace Go.Proofs.Ytallnifoeahpiaa
open Go Go.Sx
set_option linter.unusedVariables false


def F44L1 (p_c:S_api_EdCase) (bits:Int):Nat→(Int×(List Int))→Option (((List Int))⊕((List Int)))
 | 0,_=>none
 | n4+1,c3=>if (decide (c3.1<(p_c.Edges.length:Int))) then ((need (0≤c3.1)).bind fun x6=>if (((bits / 2^min c3.1.toNat 8).tmod 2)==1) then ((need ((c3.2.length+([c3.1]:List Int).length)*8≤140737488355328∧c3.2.length+([c3.1]:List Int).length≤9223372036854775807)).bind fun x8=>F44L1 p_c bits n4 ((w64 (c3.1+1)),(c3.2++([c3.1]:List Int)))) else (F44L1 p_c bits n4 ((w64 (c3.1+1)),c3.2))) else (some (.inr c3.2))

def F44 (fuel:Nat)  (p_c:S_api_EdCase) (bits:Int):Option ((List Int)) :=
 (F44L1 p_c bits fuel (0,([]:List Int))).bind fun o2=>outK o2 (fun (ro2:(List Int))=>some ro2) (fun (so2:(List Int))=>some so2)


def F9L1 (p_c:S_api_EdCase) (x1:(List Int)×Int):Nat→Int→Option ((Bool)⊕(Unit))
 | 0,_=>none
 | n7+1,c6=>if (decide (c6<(x1.1.length:Int))) then ((idx x1.1 c6).bind fun x9=>(optG (!(decide (x9<0))) (idx x1.1 c6)).bind fun x10=>(optG ((!(cond (decide (x9<0)) true (decide (x10≥(p_c.Edges.length:Int)))))&&(decide (c6>0))) (idx x1.1 c6)).bind fun x11=>(optG ((!(cond (decide (x9<0)) true (decide (x10≥(p_c.Edges.length:Int)))))&&(decide (c6>0))) (idx x1.1 (w64 (c6-1)))).bind fun x12=>if (cond (cond (decide (x9<0)) true (decide (x10≥(p_c.Edges.length:Int)))) true (cond (decide (c6>0)) (decide (x11≤x12)) false)) then (some (.inl false)) else (F9L1 p_c x1 n7 (w64 (c6+1)))) else (some (.inr ()))

def F9 (fuel:Nat)  (p_c:S_api_EdCase) (bits:Int) (p_x:(List Int)):Option (Bool) :=
 (F32 fuel p_c).bind fun x1=>(F36 fuel p_c).bind fun x2=>if (!x2) then ((optG (cond (x1.2 != 0) ((x1.1.length:Int)==0) false) (F24 fuel)).bind fun x4=>some (cond (cond (x1.2 != 0) ((x1.1.length:Int)==0) false) x4 false)) else ((F9L1 p_c x1 fuel 0).bind fun o5=>outK o5 (fun (ro5:Bool)=>some ro5) (fun (so5:Unit)=>(F43 fuel p_c x1.1).bind fun x14=>(F27 fuel (⟨x14.Tol,x14.Sheets,x14.Edges⟩:S_api_EdCase)).bind fun x15=>(F44 fuel p_c bits).bind fun x16=>(F43 fuel p_c x16).bind fun x17=>(F27 fuel (⟨x17.Tol,x17.Sheets,x17.Edges⟩:S_api_EdCase)).bind fun x18=>if (cond (cond (x1.2 != 0) true (x15.2.2 != 0)) true (cond (x18.2.2 != 0) (x18.2.2 != 9) false)) then (some false) else ((optG ((!(decide ((x16.length:Int)≥(x1.1.length:Int))))&&(x18.2.2==9)) (F37 fuel (⟨x17.Tol,x17.Sheets,x17.Edges⟩:S_api_EdCase) p_x)).bind fun x20=>(optG ((!(decide ((x16.length:Int)≥(x1.1.length:Int))))&&(x18.2.2==9)) (F38 fuel (⟨x17.Tol,x17.Sheets,x17.Edges⟩:S_api_EdCase) x20)).bind fun x21=>(optG (cond (decide ((x16.length:Int)≥(x1.1.length:Int))) true (cond (x18.2.2==9) (!x21) false)) (F24 fuel)).bind fun x22=>some (cond (cond (decide ((x16.length:Int)≥(x1.1.length:Int))) true (cond (x18.2.2==9) (!x21) false)) x22 false))))
end Go.Proofs.Ytallnifoeahpiaa
