/- What functions of the seat compute. Printed by a program of mine. -/
import Derived.Test.YtallnifoeahpiaaP
import Derived.Test.YtallnifoeahpiaaDEA
namespace Go.Proofs.Ytallnifoeahpiaa
open Go Go.Sx
set_option linter.unusedVariables false


def F57v1L2 (p_c:S_api_EdCase) (x7:S_api_EdEdge):Nat→(Int×Int×Int)→Option ((Int)⊕(Int×Int))
 | 0,_=>none
 | n10+1,c9=>if (decide (c9.2.2<(x7.Points.length:Int))) then ((idx x7.Points c9.2.2).bind fun x12=>F57v1L2 p_c x7 n10 ((if (w64 ((w64 (x12.B-x12.A))-p_c.Tol))>c9.1 then (w64 ((w64 (x12.B-x12.A))-p_c.Tol)) else c9.1),(if (w64 ((w64 (x12.B-x12.A))+p_c.Tol))<c9.2.1 then (w64 ((w64 (x12.B-x12.A))+p_c.Tol)) else c9.2.1),(w64 (c9.2.2+1)))) else (some (.inr (c9.1,c9.2.1)))

def F57v1L1 (fuel:Nat) (p_c:S_api_EdCase):Nat→(Int×(List Int))→Option ((Int)⊕((List Int)))
 | 0,_=>none
 | n5+1,c4=>if (decide (c4.1<(p_c.Edges.length:Int))) then ((idx p_c.Edges c4.1).bind fun x7=>(F57v1L2 p_c x7 fuel ((-18000),18000,0)).bind fun o8=>outK o8 (fun (ro8:Int)=>some (.inl ro8)) (fun (so8:Int×Int)=>(need (0≤c4.1∧c4.1<8)).bind fun x13=>(c4.2[0+c4.1.toNat*2]?).bind fun x14=>(c4.2[0+c4.1.toNat*2+1]?).bind fun x15=>F57v1L1 fuel p_c n5 ((w64 (c4.1+1)),((c4.2.set (0+c4.1.toNat*2) so8.1).set (0+c4.1.toNat*2+1) so8.2)))) else (some (.inr c4.2))

def F57v1 (fuel:Nat)  (p_c:S_api_EdCase):Option ((Int×Int×(List S_api_EdSheet)×(List S_api_EdEdge)×(List Int)×(List ((List Int)×Int)))⊕(Int)) :=
 (F16 fuel p_c).bind fun x1=>if (x1.2.2 != 0) then (some (.inr x1.2.2)) else ((F57v1L1 fuel p_c fuel (0,(List.replicate 16 (0:Int)))).bind fun o3=>outK o3 (fun (ro3:Int)=>some (.inr ro3)) (fun (so3:(List Int))=>some (.inl (0,p_c.Tol,p_c.Sheets,p_c.Edges,so3,([]:List ((List Int)×Int))))))


def F18 (fuel:Nat)  (p_c:S_api_EdCase) (edge:Int):Option (S_api_Span×Int) :=
 (F57v1 fuel p_c).bind fun x1=>outK x1 (fun (y2:Int×Int×(List S_api_EdSheet)×(List S_api_EdEdge)×(List Int)×(List ((List Int)×Int)))=>if (y2.1 != 0) then (some ((⟨0,0⟩:S_api_Span),y2.1)) else ((F48 fuel 0 (w64 ((p_c.Edges.length:Int)-1)) ([edge]:List Int)).bind fun x4=>if x4 then (some ((⟨0,0⟩:S_api_Span),4)) else ((need (0≤edge∧edge<8)).bind fun x6=>(y2.2.2.2.2.1[0+edge.toNat*2]?).bind fun x7=>(need (0≤edge∧edge<8)).bind fun x8=>(y2.2.2.2.2.1[0+edge.toNat*2+1]?).bind fun x9=>if (decide (x7>x9)) then (some ((⟨0,0⟩:S_api_Span),9)) else ((need (0≤edge∧edge<8)).bind fun x11=>(y2.2.2.2.2.1[0+edge.toNat*2]?).bind fun x12=>(y2.2.2.2.2.1[0+edge.toNat*2+1]?).bind fun x13=>some ((⟨x12,x13⟩:S_api_Span),0))))) (fun (y14:Int)=>if (y14 != 0) then (some ((⟨0,0⟩:S_api_Span),y14)) else ((F48 fuel 0 (w64 ((p_c.Edges.length:Int)-1)) ([edge]:List Int)).bind fun x16=>if x16 then (some ((⟨0,0⟩:S_api_Span),4)) else (none)))
end Go.Proofs.Ytallnifoeahpiaa
