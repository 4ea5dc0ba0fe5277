/- What functions of the seat compute. Printed by a program of mine. -/
import Derived.Test.YtallnifoeahpiaaP
import Derived.Test.YtallnifoeahpiaaDED
import Derived.Test.YtallnifoeahpiaaDEG
import Derived.Test.YtallnifoeahpiaaDLV
import Derived.Test.YtallnifoeahpiaaDW
namespace Go.Proofs.Ytallnifoeahpiaa
open Go Go.Sx
set_option linter.unusedVariables false


def F12e1 (x22:S_api_Span×Int) (x24:(List Int)×Int×Int) (x25:(List Int)×Int×Int) (x23:S_api_Span×Int) (x28:Bool):Bool :=
 (cond (cond (cond (cond (cond (cond (x22.2==0) (x24.2.2==0) false) (x25.2.2==0) false) (decide (x23.1.Lo≥x22.1.Lo)) false) (decide (x23.1.Hi≤x22.1.Hi)) false) (decide (x25.2.1≥x24.2.1)) false) x28 false)

def F12 (fuel:Nat)  (p_c:S_api_EdCase) (p_x:S_api_EdEdge) (which:S__2quint8):Option (Bool) :=
 (F36 fuel p_c).bind fun x1=>if (!x1) then ((F24 fuel).bind fun x3=>some x3) else ((need ((([]:List S_api_EdEdge).length+p_c.Edges.length)*40≤140737488355328∧([]:List S_api_EdEdge).length+p_c.Edges.length≤9223372036854775807)).bind fun x4=>(if (cond (decide ((IntKind.i64.wrap which.e0)<(p_c.Edges.length:Int))) (decide ((p_x.Points.length:Int)>0)) false) then ((idx p_c.Edges (IntKind.i64.wrap which.e0)).bind fun x12=>(need ((([]:List S_api_EdPoint).length+x12.Points.length)*16≤140737488355328∧([]:List S_api_EdPoint).length+x12.Points.length≤9223372036854775807)).bind fun x13=>(idx p_x.Points 0).bind fun x14=>(need (((([]:List S_api_EdPoint)++x12.Points).length+([x14]:List S_api_EdPoint).length)*16≤140737488355328∧(([]:List S_api_EdPoint)++x12.Points).length+([x14]:List S_api_EdPoint).length≤9223372036854775807)).bind fun x15=>(idx (([]:List S_api_EdEdge)++p_c.Edges) (IntKind.i64.wrap which.e0)).bind fun x16=>some (.inr ((([]:List S_api_EdEdge)++p_c.Edges).set (IntKind.i64.wrap which.e0).toNat (⟨x16.A,x16.B,((([]:List S_api_EdPoint)++x12.Points)++([x14]:List S_api_EdPoint))⟩:S_api_EdEdge)))) else ((need (((([]:List S_api_EdEdge)++p_c.Edges).length+([p_x]:List S_api_EdEdge).length)*40≤140737488355328∧(([]:List S_api_EdEdge)++p_c.Edges).length+([p_x]:List S_api_EdEdge).length≤9223372036854775807)).bind fun x17=>some (.inr ((([]:List S_api_EdEdge)++p_c.Edges)++([p_x]:List S_api_EdEdge))))).bind fun o5=>outK o5 (fun (ro5:Bool)=>some ro5) (fun (so5:(List S_api_EdEdge))=>(F36 fuel (⟨p_c.Tol,p_c.Sheets,so5⟩:S_api_EdCase)).bind fun x18=>if (!x18) then ((F24 fuel).bind fun x20=>some x20) else ((need ((p_c.Sheets.length:Int)≠0)).bind fun x21=>(F25 fuel p_c ((IntKind.i64.wrap which.e1).tmod (p_c.Sheets.length:Int))).bind fun x22=>(F25 fuel (⟨p_c.Tol,p_c.Sheets,so5⟩:S_api_EdCase) ((IntKind.i64.wrap which.e1).tmod (p_c.Sheets.length:Int))).bind fun x23=>(F27 fuel p_c).bind fun x24=>(F27 fuel (⟨p_c.Tol,p_c.Sheets,so5⟩:S_api_EdCase)).bind fun x25=>if (x23.2 != 0) then ((optG (cond (cond (cond (x23.2==9) (x25.2.2==x23.2) false) (cond (x22.2==0) true (x22.2==x23.2)) false) (x24.2.2==x22.2) false) (F24 fuel)).bind fun x27=>some (cond (cond (cond (cond (x23.2==9) (x25.2.2==x23.2) false) (cond (x22.2==0) true (x22.2==x23.2)) false) (x24.2.2==x22.2) false) x27 false)) else ((optG (cond (cond (cond (cond (cond (x22.2==0) (x24.2.2==0) false) (x25.2.2==0) false) (decide (x23.1.Lo≥x22.1.Lo)) false) (decide (x23.1.Hi≤x22.1.Hi)) false) (decide (x25.2.1≥x24.2.1)) false) (F24 fuel)).bind fun x28=>some (F12e1 x22 x24 x25 x23 x28)))))
end Go.Proofs.Ytallnifoeahpiaa
