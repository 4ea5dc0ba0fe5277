/- What functions of the seat compute. Printed by a program of mine. -/
import Derived.Test.YtallnifoeahpiaaP
import Derived.Test.YtallnifoeahpiaaDEB
import Derived.Test.YtallnifoeahpiaaDEF
import Derived.Test.YtallnifoeahpiaaDEG
import Derived.Test.YtallnifoeahpiaaDLV
import Derived.Test.YtallnifoeahpiaaDW
namespace Go.Proofs.Ytallnifoeahpiaa
open Go Go.Sx
set_option linter.unusedVariables false


def F47L2 (p_c:S_api_EdCase) (sheet:Int) (by_:Int) (c3:Int×(List S_api_EdEdge)) (x6:S_api_EdEdge):Nat→(Int×(List S_api_EdPoint))→Option ((S_api_EdCase)⊕((List S_api_EdPoint)))
 | 0,_=>none
 | n10+1,c9=>(idx p_c.Edges c3.1).bind fun x11=>if (decide (c9.1<(x11.Points.length:Int))) then ((idx p_c.Edges c3.1).bind fun x13=>(idx x13.Points c9.1).bind fun x14=>(if (cond (decide (sheet<0)) true (x6.A==sheet)) then (some (.inr (w64 (x14.A+by_)))) else (some (.inr x14.A))).bind fun o15=>outK o15 (fun (ro15:S_api_EdCase)=>some (.inl ro15)) (fun (so15:Int)=>if (cond (decide (sheet<0)) true (x6.B==sheet)) then ((need ((c9.2.length+([(⟨so15,(w64 (x14.B+by_))⟩:S_api_EdPoint)]:List S_api_EdPoint).length)*16≤140737488355328∧c9.2.length+([(⟨so15,(w64 (x14.B+by_))⟩:S_api_EdPoint)]:List S_api_EdPoint).length≤9223372036854775807)).bind fun x18=>F47L2 p_c sheet by_ c3 x6 n10 ((w64 (c9.1+1)),(c9.2++([(⟨so15,(w64 (x14.B+by_))⟩:S_api_EdPoint)]:List S_api_EdPoint)))) else ((need ((c9.2.length+([(⟨so15,x14.B⟩:S_api_EdPoint)]:List S_api_EdPoint).length)*16≤140737488355328∧c9.2.length+([(⟨so15,x14.B⟩:S_api_EdPoint)]:List S_api_EdPoint).length≤9223372036854775807)).bind fun x19=>F47L2 p_c sheet by_ c3 x6 n10 ((w64 (c9.1+1)),(c9.2++([(⟨so15,x14.B⟩:S_api_EdPoint)]:List S_api_EdPoint)))))) else (some (.inr c9.2))

def F47L1 (fuel:Nat) (p_c:S_api_EdCase) (sheet:Int) (by_:Int):Nat→(Int×(List S_api_EdEdge))→Option ((S_api_EdCase)⊕((List S_api_EdEdge)))
 | 0,_=>none
 | n4+1,c3=>if (decide (c3.1<(p_c.Edges.length:Int))) then ((idx p_c.Edges c3.1).bind fun x6=>(F47L2 p_c sheet by_ c3 x6 fuel (0,([]:List S_api_EdPoint))).bind fun o8=>outK o8 (fun (ro8:S_api_EdCase)=>some (.inl ro8)) (fun (so8:(List S_api_EdPoint))=>(need ((c3.2.length+([(⟨x6.A,x6.B,so8⟩:S_api_EdEdge)]:List S_api_EdEdge).length)*40≤140737488355328∧c3.2.length+([(⟨x6.A,x6.B,so8⟩:S_api_EdEdge)]:List S_api_EdEdge).length≤9223372036854775807)).bind fun x20=>F47L1 fuel p_c sheet by_ n4 ((w64 (c3.1+1)),(c3.2++([(⟨x6.A,x6.B,so8⟩:S_api_EdEdge)]:List S_api_EdEdge))))) else (some (.inr c3.2))

def F47 (fuel:Nat)  (p_c:S_api_EdCase) (sheet:Int) (by_:Int):Option (S_api_EdCase) :=
 (F47L1 fuel p_c sheet by_ fuel (0,([]:List S_api_EdEdge))).bind fun o2=>outK o2 (fun (ro2:S_api_EdCase)=>some ro2) (fun (so2:(List S_api_EdEdge))=>some (⟨p_c.Tol,p_c.Sheets,so2⟩:S_api_EdCase))


def F14 (fuel:Nat)  (p_c:S_api_EdCase) (by_:Int) (which:S__2quint8):Option (Bool) :=
 (F36 fuel p_c).bind fun x1=>if (!x1) then ((F24 fuel).bind fun x3=>some x3) else ((F47 fuel p_c (-1) (IntKind.i64.wrap by_)).bind fun x4=>(F36 fuel (⟨x4.Tol,x4.Sheets,x4.Edges⟩:S_api_EdCase)).bind fun x5=>(if x5 then ((F27 fuel p_c).bind fun x8=>(F27 fuel (⟨x4.Tol,x4.Sheets,x4.Edges⟩:S_api_EdCase)).bind fun x9=>(F32 fuel p_c).bind fun x10=>(F32 fuel (⟨x4.Tol,x4.Sheets,x4.Edges⟩:S_api_EdCase)).bind fun x11=>(F29 fuel x8.1 x9.1).bind fun x12=>(optG (!(cond (cond (!x12) true (x8.2.1 != x9.2.1)) true (x8.2.2 != x9.2.2))) (F29 fuel x10.1 x11.1)).bind fun x13=>if (cond (cond (cond (cond (!x12) true (x8.2.1 != x9.2.1)) true (x8.2.2 != x9.2.2)) true (!x13)) true (x10.2 != x11.2)) then (some (.inl false)) else (some (.inr ()))) else (some (.inr ()))).bind fun o6=>outK o6 (fun (ro6:Bool)=>some ro6) (fun (so6:Unit)=>(need ((p_c.Sheets.length:Int)≠0)).bind fun x15=>(F47 fuel p_c ((IntKind.i64.wrap which.e0).tmod (p_c.Sheets.length:Int)) (IntKind.i64.wrap by_)).bind fun x16=>(F36 fuel (⟨x16.Tol,x16.Sheets,x16.Edges⟩:S_api_EdCase)).bind fun x17=>if (cond (!x17) true ((p_c.Edges.length:Int)==0)) then ((F24 fuel).bind fun x19=>some x19) else ((need ((p_c.Edges.length:Int)≠0)).bind fun x20=>(F18 fuel p_c ((IntKind.i64.wrap which.e1).tmod (p_c.Edges.length:Int))).bind fun x21=>(F18 fuel (⟨x16.Tol,x16.Sheets,x16.Edges⟩:S_api_EdCase) ((IntKind.i64.wrap which.e1).tmod (p_c.Edges.length:Int))).bind fun x22=>if (cond (x21.2 != x22.2) true (x21.2 != 0)) then ((optG (cond (x21.2==x22.2) (x21.2==9) false) (F24 fuel)).bind fun x24=>some (cond (cond (x21.2==x22.2) (x21.2==9) false) x24 false)) else ((idx p_c.Edges ((IntKind.i64.wrap which.e1).tmod (p_c.Edges.length:Int))).bind fun x25=>(if (x25.A==((IntKind.i64.wrap which.e0).tmod (p_c.Sheets.length:Int))) then (some (.inr (w64 (0-(IntKind.i64.wrap by_))))) else (some (.inr 0))).bind fun o26=>outK o26 (fun (ro26:Bool)=>some ro26) (fun (so26:Int)=>(idx p_c.Edges ((IntKind.i64.wrap which.e1).tmod (p_c.Edges.length:Int))).bind fun x28=>if (x28.B==((IntKind.i64.wrap which.e0).tmod (p_c.Sheets.length:Int))) then ((F35 (w64 (x21.1.Lo+(IntKind.i64.wrap by_))) (w64 (x21.1.Hi+(IntKind.i64.wrap by_)))).bind fun x30=>(optG ((x22.1.Lo==x30.Lo)&&(x22.1.Hi==x30.Hi)) (F24 fuel)).bind fun x31=>some (cond ((x22.1.Lo==x30.Lo)&&(x22.1.Hi==x30.Hi)) x31 false)) else ((F35 (w64 (x21.1.Lo+so26)) (w64 (x21.1.Hi+so26))).bind fun x32=>(optG ((x22.1.Lo==x32.Lo)&&(x22.1.Hi==x32.Hi)) (F24 fuel)).bind fun x33=>some (cond ((x22.1.Lo==x32.Lo)&&(x22.1.Hi==x32.Hi)) x33 false)))))))
end Go.Proofs.Ytallnifoeahpiaa
