/- What functions of the seat compute. Printed by a program of mine. -/
import Derived.Test.YtkcgfceihpampaaGreatDoorP
namespace Go.Proofs.YtkcgfceihpampaaGreatDoor
open Go Go.Sx
set_option linter.unusedVariables false


def F107  (l:(List Int)) (p_n:Int):Option (Int) :=
 if ((l.length:Int)==0) then (some 0) else ((need ((l.length:Int)≠0)).bind fun x2=>(idx l (p_n.tmod (l.length:Int))).bind fun x3=>some (IntKind.i64.wrap x3))


def F106L1 (p_c:S_api_EdCase) (p_x:(List Int)):Nat→(Int×(List Int))→Option (((List Int))⊕((List Int)))
 | 0,_=>none
 | n4+1,c3=>if (decide (c3.1<(p_c.Sheets.length:Int))) then ((idx p_c.Sheets c3.1).bind fun x6=>(F107 p_x c3.1).bind fun x7=>(need ((w64 ((w64 (2*x6.Most))+1))≠0)).bind fun x8=>(need ((c3.2.length+([(w64 ((x7.tmod (w64 ((w64 (2*x6.Most))+1)))-x6.Most))]:List Int).length)*8≤140737488355328∧c3.2.length+([(w64 ((x7.tmod (w64 ((w64 (2*x6.Most))+1)))-x6.Most))]:List Int).length≤9223372036854775807)).bind fun x9=>F106L1 p_c p_x n4 ((w64 (c3.1+1)),(c3.2++([(w64 ((x7.tmod (w64 ((w64 (2*x6.Most))+1)))-x6.Most))]:List Int)))) else (some (.inr c3.2))

def F106 (fuel:Nat)  (p_c:S_api_EdCase) (p_x:(List Int)):Option ((List Int)) :=
 (F106L1 p_c p_x fuel (0,([]:List Int))).bind fun o2=>outK o2 (fun (ro2:(List Int))=>some ro2) (fun (so2:(List Int))=>some so2)


def F33L1 (x1:(List Int)):Nat→(Int×(List Int))→Option ((S_api_EdCase×(List Int))⊕((List Int)))
 | 0,_=>none
 | n5+1,c4=>if (decide (c4.1<(x1.length:Int))) then ((idx x1 c4.1).bind fun x7=>(need ((c4.2.length+([(w64 (0-x7))]:List Int).length)*8≤140737488355328∧c4.2.length+([(w64 (0-x7))]:List Int).length≤9223372036854775807)).bind fun x8=>F33L1 x1 n5 ((w64 (c4.1+1)),(c4.2++([(w64 (0-x7))]:List Int)))) else (some (.inr c4.2))

def F33L3 (p_c:S_api_EdCase) (p_x:S_hachurelaw02qShown) (x1:(List Int)) (c11:Int×Int×(List S_api_EdEdge)) (x14:S_api_EdEdge):Nat→(Int×Int×(List S_api_EdPoint))→Option ((S_api_EdCase×(List Int))⊕(Int×(List S_api_EdPoint)))
 | 0,_=>none
 | n18+1,c17=>(idx p_c.Edges c11.2.1).bind fun x19=>if (decide (c17.2.1<(x19.Points.length:Int))) then ((if (decide ((p_x.High.length:Int)>0)) then ((need ((p_x.High.length:Int)≠0)).bind fun x23=>(idx p_x.High (c17.1.tmod (p_x.High.length:Int))).bind fun x24=>some (.inr (w64 (100+((IntKind.i64.wrap x24).tmod 8800))))) else (some (.inr 100))).bind fun o21=>outK o21 (fun (ro21:S_api_EdCase×(List Int))=>some (.inl ro21)) (fun (so21:Int)=>(F107 p_x.Off (w64 (2*c17.1))).bind fun x25=>(need ((w64 ((w64 (2*(w64 (p_c.Tol.tdiv 2))))+1))≠0)).bind fun x26=>(F107 p_x.Off (w64 ((w64 (2*c17.1))+1))).bind fun x27=>(need ((w64 ((w64 (2*(w64 (p_c.Tol.tdiv 2))))+1))≠0)).bind fun x28=>(idx x1 x14.A).bind fun x29=>(idx x1 x14.B).bind fun x30=>(need ((c17.2.2.length+([(⟨(w64 ((w64 (so21+x29))+(w64 ((x25.tmod (w64 ((w64 (2*(w64 (p_c.Tol.tdiv 2))))+1)))-(w64 (p_c.Tol.tdiv 2)))))),(w64 ((w64 (so21+x30))+(w64 ((x27.tmod (w64 ((w64 (2*(w64 (p_c.Tol.tdiv 2))))+1)))-(w64 (p_c.Tol.tdiv 2))))))⟩:S_api_EdPoint)]:List S_api_EdPoint).length)*16≤140737488355328∧c17.2.2.length+([(⟨(w64 ((w64 (so21+x29))+(w64 ((x25.tmod (w64 ((w64 (2*(w64 (p_c.Tol.tdiv 2))))+1)))-(w64 (p_c.Tol.tdiv 2)))))),(w64 ((w64 (so21+x30))+(w64 ((x27.tmod (w64 ((w64 (2*(w64 (p_c.Tol.tdiv 2))))+1)))-(w64 (p_c.Tol.tdiv 2))))))⟩:S_api_EdPoint)]:List S_api_EdPoint).length≤9223372036854775807)).bind fun x31=>F33L3 p_c p_x x1 c11 x14 n18 ((w64 (c17.1+1)),(w64 (c17.2.1+1)),(c17.2.2++([(⟨(w64 ((w64 (so21+x29))+(w64 ((x25.tmod (w64 ((w64 (2*(w64 (p_c.Tol.tdiv 2))))+1)))-(w64 (p_c.Tol.tdiv 2)))))),(w64 ((w64 (so21+x30))+(w64 ((x27.tmod (w64 ((w64 (2*(w64 (p_c.Tol.tdiv 2))))+1)))-(w64 (p_c.Tol.tdiv 2))))))⟩:S_api_EdPoint)]:List S_api_EdPoint))))) else (some (.inr (c17.1,c17.2.2)))

def F33L2 (fuel:Nat) (p_c:S_api_EdCase) (p_x:S_hachurelaw02qShown) (x1:(List Int)):Nat→(Int×Int×(List S_api_EdEdge))→Option ((S_api_EdCase×(List Int))⊕((List S_api_EdEdge)))
 | 0,_=>none
 | n12+1,c11=>if (decide (c11.2.1<(p_c.Edges.length:Int))) then ((idx p_c.Edges c11.2.1).bind fun x14=>(F33L3 p_c p_x x1 c11 x14 fuel (c11.1,0,([]:List S_api_EdPoint))).bind fun o16=>outK o16 (fun (ro16:S_api_EdCase×(List Int))=>some (.inl ro16)) (fun (so16:Int×(List S_api_EdPoint))=>(need ((c11.2.2.length+([(⟨x14.A,x14.B,so16.2⟩:S_api_EdEdge)]:List S_api_EdEdge).length)*40≤140737488355328∧c11.2.2.length+([(⟨x14.A,x14.B,so16.2⟩:S_api_EdEdge)]:List S_api_EdEdge).length≤9223372036854775807)).bind fun x32=>F33L2 fuel p_c p_x x1 n12 (so16.1,(w64 (c11.2.1+1)),(c11.2.2++([(⟨x14.A,x14.B,so16.2⟩:S_api_EdEdge)]:List S_api_EdEdge))))) else (some (.inr c11.2.2))

def F33 (fuel:Nat)  (p_c:S_api_EdCase) (p_x:S_hachurelaw02qShown):Option (S_api_EdCase×(List Int)) :=
 (F106 fuel p_c p_x.Shifts).bind fun x1=>(F33L1 x1 fuel (0,([]:List Int))).bind fun o3=>outK o3 (fun (ro3:S_api_EdCase×(List Int))=>some ro3) (fun (so3:(List Int))=>(F33L2 fuel p_c p_x x1 fuel (0,0,([]:List S_api_EdEdge))).bind fun o10=>outK o10 (fun (ro10:S_api_EdCase×(List Int))=>some ro10) (fun (so10:(List S_api_EdEdge))=>some ((⟨p_c.Tol,p_c.Sheets,so10⟩:S_api_EdCase),so3)))
end Go.Proofs.YtkcgfceihpampaaGreatDoor
