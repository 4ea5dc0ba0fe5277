/- What functions of the seat compute. Printed by a program of mine. -/
import Derived.Test.YtallnifoeahpiaaP
import Derived.Test.YtallnifoeahpiaaDED
import Derived.Test.YtallnifoeahpiaaDEG
import Derived.Test.YtallnifoeahpiaaDLE
import Derived.Test.YtallnifoeahpiaaDW
namespace Go.Proofs.Ytallnifoeahpiaa
open Go Go.Sx
set_option linter.unusedVariables false


def F13e1 (x13:S_api_Span×Int) (x14:(List Int)×Int×Int) (x15:(List Int)×Int×Int) (x12:S_api_Span×Int) (x18:Bool):Bool :=
 (cond (cond (cond (cond (cond (cond (x13.2==0) (x14.2.2==0) false) (x15.2.2==0) false) (decide (x13.1.Lo≤x12.1.Lo)) false) (decide (x13.1.Hi≥x12.1.Hi)) false) (decide (x15.2.1≤x14.2.1)) false) x18 false)

def F13L1 (p_c:S_api_EdCase) (by_:S__3quint8):Nat→(Int×(List S_api_EdSheet))→Option ((Bool)⊕((List S_api_EdSheet)))
 | 0,_=>none
 | n7+1,c6=>if (decide (c6.1<(p_c.Sheets.length:Int))) then ((idx p_c.Sheets c6.1).bind fun x9=>(need ((c6.2.length+([(⟨x9.Name,(if (w64 (x9.Weight-((IntKind.i64.wrap by_.e2).tmod 4)))>0 then (w64 (x9.Weight-((IntKind.i64.wrap by_.e2).tmod 4))) else 0),(if (w64 (x9.Most+((IntKind.i64.wrap by_.e1).tmod 3)))<6 then (w64 (x9.Most+((IntKind.i64.wrap by_.e1).tmod 3))) else 6)⟩:S_api_EdSheet)]:List S_api_EdSheet).length)*32≤140737488355328∧c6.2.length+([(⟨x9.Name,(if (w64 (x9.Weight-((IntKind.i64.wrap by_.e2).tmod 4)))>0 then (w64 (x9.Weight-((IntKind.i64.wrap by_.e2).tmod 4))) else 0),(if (w64 (x9.Most+((IntKind.i64.wrap by_.e1).tmod 3)))<6 then (w64 (x9.Most+((IntKind.i64.wrap by_.e1).tmod 3))) else 6)⟩:S_api_EdSheet)]:List S_api_EdSheet).length≤9223372036854775807)).bind fun x10=>F13L1 p_c by_ n7 ((w64 (c6.1+1)),(c6.2++([(⟨x9.Name,(if (w64 (x9.Weight-((IntKind.i64.wrap by_.e2).tmod 4)))>0 then (w64 (x9.Weight-((IntKind.i64.wrap by_.e2).tmod 4))) else 0),(if (w64 (x9.Most+((IntKind.i64.wrap by_.e1).tmod 3)))<6 then (w64 (x9.Most+((IntKind.i64.wrap by_.e1).tmod 3))) else 6)⟩:S_api_EdSheet)]:List S_api_EdSheet)))) else (some (.inr c6.2))

def F13 (fuel:Nat)  (p_c:S_api_EdCase) (by_:S__3quint8) (which:Int):Option (Bool) :=
 (F36 fuel p_c).bind fun x1=>if (!x1) then ((F24 fuel).bind fun x3=>some x3) else ((F13L1 p_c by_ fuel (0,([]:List S_api_EdSheet))).bind fun o5=>outK o5 (fun (ro5:Bool)=>some ro5) (fun (so5:(List S_api_EdSheet))=>(need ((p_c.Sheets.length:Int)≠0)).bind fun x11=>(F25 fuel p_c ((IntKind.i64.wrap which).tmod (p_c.Sheets.length:Int))).bind fun x12=>(F25 fuel (⟨(if (w64 (p_c.Tol+((IntKind.i64.wrap by_.e0).tmod 5)))<50 then (w64 (p_c.Tol+((IntKind.i64.wrap by_.e0).tmod 5))) else 50),so5,p_c.Edges⟩:S_api_EdCase) ((IntKind.i64.wrap which).tmod (p_c.Sheets.length:Int))).bind fun x13=>(F27 fuel p_c).bind fun x14=>(F27 fuel (⟨(if (w64 (p_c.Tol+((IntKind.i64.wrap by_.e0).tmod 5)))<50 then (w64 (p_c.Tol+((IntKind.i64.wrap by_.e0).tmod 5))) else 50),so5,p_c.Edges⟩:S_api_EdCase)).bind fun x15=>if (x12.2 != 0) then ((optG (cond (cond (cond (x12.2==9) (x14.2.2==x12.2) false) (cond (x13.2==0) true (x13.2==x12.2)) false) (x15.2.2==x13.2) false) (F24 fuel)).bind fun x17=>some (cond (cond (cond (cond (x12.2==9) (x14.2.2==x12.2) false) (cond (x13.2==0) true (x13.2==x12.2)) false) (x15.2.2==x13.2) false) x17 false)) else ((optG (cond (cond (cond (cond (cond (x13.2==0) (x14.2.2==0) false) (x15.2.2==0) false) (decide (x13.1.Lo≤x12.1.Lo)) false) (decide (x13.1.Hi≥x12.1.Hi)) false) (decide (x15.2.1≤x14.2.1)) false) (F24 fuel)).bind fun x18=>some (F13e1 x13 x14 x15 x12 x18))))
end Go.Proofs.Ytallnifoeahpiaa
