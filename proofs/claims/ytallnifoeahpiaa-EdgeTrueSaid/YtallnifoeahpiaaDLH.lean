/- What functions of the seat compute. Printed by a program of mine. -/
import Derived.Test.YtallnifoeahpiaaP
import Derived.Test.YtallnifoeahpiaaDEC
import Derived.Test.YtallnifoeahpiaaDED
import Derived.Test.YtallnifoeahpiaaDEF
import Derived.Test.YtallnifoeahpiaaDEG
import Derived.Test.YtallnifoeahpiaaDLU
import Derived.Test.YtallnifoeahpiaaDLV
import Derived.Test.YtallnifoeahpiaaDW
namespace Go.Proofs.Ytallnifoeahpiaa
open Go Go.Sx
set_option linter.unusedVariables false


def F45L1 (x1:(List Int)):Nat→(Int×(List Int))→Option ((S_api_EdCase×(List Int))⊕((List Int)))
 | 0,_=>none
 | n5+1,c4=>if (decide (c4.1<(x1.length:Int))) then ((idx x1 c4.1).bind fun x7=>(need ((c4.2.length+([(w64 (0-x7))]:List Int).length)*8≤140737488355328∧c4.2.length+([(w64 (0-x7))]:List Int).length≤9223372036854775807)).bind fun x8=>F45L1 x1 n5 ((w64 (c4.1+1)),(c4.2++([(w64 (0-x7))]:List Int)))) else (some (.inr c4.2))

def F45L3 (p_c:S_api_EdCase) (p_x:S_hachurelaw02qShown) (x1:(List Int)) (c11:Int×Int×(List S_api_EdEdge)) (x14:S_api_EdEdge):Nat→(Int×Int×(List S_api_EdPoint))→Option ((S_api_EdCase×(List Int))⊕(Int×(List S_api_EdPoint)))
 | 0,_=>none
 | n18+1,c17=>(idx p_c.Edges c11.2.1).bind fun x19=>if (decide (c17.2.1<(x19.Points.length:Int))) then ((if (decide ((p_x.High.length:Int)>0)) then ((need ((p_x.High.length:Int)≠0)).bind fun x23=>(idx p_x.High (c17.1.tmod (p_x.High.length:Int))).bind fun x24=>some (.inr (w64 (100+((IntKind.i64.wrap x24).tmod 8800))))) else (some (.inr 100))).bind fun o21=>outK o21 (fun (ro21:S_api_EdCase×(List Int))=>some (.inl ro21)) (fun (so21:Int)=>(F77 p_x.Off (w64 (2*c17.1))).bind fun x25=>(need ((w64 ((w64 (2*(w64 (p_c.Tol.tdiv 2))))+1))≠0)).bind fun x26=>(F77 p_x.Off (w64 ((w64 (2*c17.1))+1))).bind fun x27=>(need ((w64 ((w64 (2*(w64 (p_c.Tol.tdiv 2))))+1))≠0)).bind fun x28=>(idx x1 x14.A).bind fun x29=>(idx x1 x14.B).bind fun x30=>(need ((c17.2.2.length+([(⟨(w64 ((w64 (so21+x29))+(w64 ((x25.tmod (w64 ((w64 (2*(w64 (p_c.Tol.tdiv 2))))+1)))-(w64 (p_c.Tol.tdiv 2)))))),(w64 ((w64 (so21+x30))+(w64 ((x27.tmod (w64 ((w64 (2*(w64 (p_c.Tol.tdiv 2))))+1)))-(w64 (p_c.Tol.tdiv 2))))))⟩:S_api_EdPoint)]:List S_api_EdPoint).length)*16≤140737488355328∧c17.2.2.length+([(⟨(w64 ((w64 (so21+x29))+(w64 ((x25.tmod (w64 ((w64 (2*(w64 (p_c.Tol.tdiv 2))))+1)))-(w64 (p_c.Tol.tdiv 2)))))),(w64 ((w64 (so21+x30))+(w64 ((x27.tmod (w64 ((w64 (2*(w64 (p_c.Tol.tdiv 2))))+1)))-(w64 (p_c.Tol.tdiv 2))))))⟩:S_api_EdPoint)]:List S_api_EdPoint).length≤9223372036854775807)).bind fun x31=>F45L3 p_c p_x x1 c11 x14 n18 ((w64 (c17.1+1)),(w64 (c17.2.1+1)),(c17.2.2++([(⟨(w64 ((w64 (so21+x29))+(w64 ((x25.tmod (w64 ((w64 (2*(w64 (p_c.Tol.tdiv 2))))+1)))-(w64 (p_c.Tol.tdiv 2)))))),(w64 ((w64 (so21+x30))+(w64 ((x27.tmod (w64 ((w64 (2*(w64 (p_c.Tol.tdiv 2))))+1)))-(w64 (p_c.Tol.tdiv 2))))))⟩:S_api_EdPoint)]:List S_api_EdPoint))))) else (some (.inr (c17.1,c17.2.2)))

def F45L2 (fuel:Nat) (p_c:S_api_EdCase) (p_x:S_hachurelaw02qShown) (x1:(List Int)):Nat→(Int×Int×(List S_api_EdEdge))→Option ((S_api_EdCase×(List Int))⊕((List S_api_EdEdge)))
 | 0,_=>none
 | n12+1,c11=>if (decide (c11.2.1<(p_c.Edges.length:Int))) then ((idx p_c.Edges c11.2.1).bind fun x14=>(F45L3 p_c p_x x1 c11 x14 fuel (c11.1,0,([]:List S_api_EdPoint))).bind fun o16=>outK o16 (fun (ro16:S_api_EdCase×(List Int))=>some (.inl ro16)) (fun (so16:Int×(List S_api_EdPoint))=>(need ((c11.2.2.length+([(⟨x14.A,x14.B,so16.2⟩:S_api_EdEdge)]:List S_api_EdEdge).length)*40≤140737488355328∧c11.2.2.length+([(⟨x14.A,x14.B,so16.2⟩:S_api_EdEdge)]:List S_api_EdEdge).length≤9223372036854775807)).bind fun x32=>F45L2 fuel p_c p_x x1 n12 (so16.1,(w64 (c11.2.1+1)),(c11.2.2++([(⟨x14.A,x14.B,so16.2⟩:S_api_EdEdge)]:List S_api_EdEdge))))) else (some (.inr c11.2.2))

def F45 (fuel:Nat)  (p_c:S_api_EdCase) (p_x:S_hachurelaw02qShown):Option (S_api_EdCase×(List Int)) :=
 (F37 fuel p_c p_x.Shifts).bind fun x1=>(F45L1 x1 fuel (0,([]:List Int))).bind fun o3=>outK o3 (fun (ro3:S_api_EdCase×(List Int))=>some ro3) (fun (so3:(List Int))=>(F45L2 fuel p_c p_x x1 fuel (0,0,([]:List S_api_EdEdge))).bind fun o10=>outK o10 (fun (ro10:S_api_EdCase×(List Int))=>some ro10) (fun (so10:(List S_api_EdEdge))=>some ((⟨p_c.Tol,p_c.Sheets,so10⟩:S_api_EdCase),so3)))


def F10e1 (x6:Int×Int) (x7:Int×Int) (x8:(List Int)×Int×Int) (x9:(List Int)×Int) (x5:S_api_EdCase×(List Int)):Bool :=
 (cond (cond (cond (cond (cond (cond (cond (x6.2 != 0) true (x6.1 != (-1))) true (x7.2 != 0)) true (x8.2.2 != 0)) true (x9.2 != 0)) true (decide ((x9.1.length:Int)>0))) true (decide (x8.2.1>x7.1))) true ((x8.1.length:Int) != (x5.2.length:Int)))

def F10L1 (fuel:Nat) (x5:S_api_EdCase×(List Int)) (x8:(List Int)×Int×Int):Nat→Int→Option ((Bool)⊕(Unit))
 | 0,_=>none
 | n13+1,c12=>if (decide (c12<(x5.2.length:Int))) then ((F25 fuel (⟨x5.1.Tol,x5.1.Sheets,x5.1.Edges⟩:S_api_EdCase) c12).bind fun x15=>(optG (!(x15.2 != 0)) (idx x5.2 c12)).bind fun x16=>(optG (!(cond (x15.2 != 0) true (decide (x16<x15.1.Lo)))) (idx x5.2 c12)).bind fun x17=>(optG (!(cond (cond (x15.2 != 0) true (decide (x16<x15.1.Lo))) true (decide (x17>x15.1.Hi)))) (idx x8.1 c12)).bind fun x18=>(optG (!(cond (cond (cond (x15.2 != 0) true (decide (x16<x15.1.Lo))) true (decide (x17>x15.1.Hi))) true (decide (x18<x15.1.Lo)))) (idx x8.1 c12)).bind fun x19=>if (cond (cond (cond (cond (x15.2 != 0) true (decide (x16<x15.1.Lo))) true (decide (x17>x15.1.Hi))) true (decide (x18<x15.1.Lo))) true (decide (x19>x15.1.Hi))) then (some (.inl false)) else (F10L1 fuel x5 x8 n13 (w64 (c12+1)))) else (some (.inr ()))

def F10 (fuel:Nat)  (p_c:S_api_EdCase) (p_x:S_hachurelaw02qShown):Option (Bool) :=
 (F36 fuel p_c).bind fun x1=>if (!x1) then ((F32 fuel p_c).bind fun x3=>(optG (x3.2 != 0) (F24 fuel)).bind fun x4=>some (cond (x3.2 != 0) x4 false)) else ((F45 fuel p_c p_x).bind fun x5=>(F20 fuel (⟨x5.1.Tol,x5.1.Sheets,x5.1.Edges⟩:S_api_EdCase) x5.2).bind fun x6=>(F22 fuel (⟨x5.1.Tol,x5.1.Sheets,x5.1.Edges⟩:S_api_EdCase) x5.2).bind fun x7=>(F27 fuel (⟨x5.1.Tol,x5.1.Sheets,x5.1.Edges⟩:S_api_EdCase)).bind fun x8=>(F32 fuel (⟨x5.1.Tol,x5.1.Sheets,x5.1.Edges⟩:S_api_EdCase)).bind fun x9=>if (F10e1 x6 x7 x8 x9 x5) then (some false) else ((F10L1 fuel x5 x8 fuel 0).bind fun o11=>outK o11 (fun (ro11:Bool)=>some ro11) (fun (so11:Unit)=>(F24 fuel).bind fun x21=>some x21)))
end Go.Proofs.Ytallnifoeahpiaa
