/- What functions of the seat compute. Printed by a program of mine. -/
import Derived.Test.YtkcgfceihpampaaGreatDoorP
import Derived.Test.YtkcgfceihpampaaGreatDoorDD
import Derived.Test.YtkcgfceihpampaaGreatDoorDE
import Derived.Test.YtkcgfceihpampaaGreatDoorDF
import Derived.Test.YtkcgfceihpampaaGreatDoorDG
import Derived.Test.YtkcgfceihpampaaGreatDoorDH
import Derived.Test.YtkcgfceihpampaaGreatDoorDI
import Derived.Test.YtkcgfceihpampaaGreatDoorDW
import Derived.Test.YtkcgfceihpampaaGreatDoorDX
namespace Go.Proofs.YtkcgfceihpampaaGreatDoor
open Go Go.Sx
set_option linter.unusedVariables false


def F5L1 (x12:S_api_ShSheet×(List Int)) (x18:(List S_api_Span)×Int):Nat→Int→Option ((Bool)⊕(Unit))
 | 0,_=>none
 | n22+1,c21=>if (decide (c21<(x12.2.length:Int))) then ((idx x12.2 c21).bind fun x24=>(idx x18.1 c21).bind fun x25=>(F27 x24 x25).bind fun x26=>if (!x26) then (some (.inl false)) else (F5L1 x12 x18 n22 (w64 (c21+1)))) else (some (.inr ()))

def F5 (fuel:Nat)  (p_c:S_api_EdCase) (p_x:S_hachurelaw02qShown):Option (Bool) :=
 (F31 fuel p_c).bind fun x1=>if (x1.2.2 != 0) then ((F7 fuel).bind fun x3=>(optG x3 (F32 fuel)).bind fun x4=>some (cond x3 x4 false)) else ((need ((([]:List S_api_EdSheet).length+p_c.Sheets.length)*32≤140737488355328∧([]:List S_api_EdSheet).length+p_c.Sheets.length≤9223372036854775807)).bind fun x5=>(idx (([]:List S_api_EdSheet)++p_c.Sheets) 0).bind fun x6=>(F33 fuel (⟨p_c.Tol,((([]:List S_api_EdSheet)++p_c.Sheets).set (0:Int).toNat (⟨x6.Name,x6.Weight,0⟩:S_api_EdSheet)),p_c.Edges⟩:S_api_EdCase) p_x).bind fun x7=>(F33 fuel (⟨0,((([]:List S_api_EdSheet)++p_c.Sheets).set (0:Int).toNat (⟨x6.Name,x6.Weight,0⟩:S_api_EdSheet)),p_c.Edges⟩:S_api_EdCase) p_x).bind fun x8=>(F34 fuel (⟨x7.1.Tol,x7.1.Sheets,x7.1.Edges⟩:S_api_EdCase)).bind fun x9=>(optG (!(cond (x9.2.2 != 0) true ((x9.1.length:Int) != (((([]:List S_api_EdSheet)++p_c.Sheets).set (0:Int).toNat (⟨x6.Name,x6.Weight,0⟩:S_api_EdSheet)).length:Int)))) (idx x9.1 0)).bind fun x10=>if (cond (cond (x9.2.2 != 0) true ((x9.1.length:Int) != (((([]:List S_api_EdSheet)++p_c.Sheets).set (0:Int).toNat (⟨x6.Name,x6.Weight,0⟩:S_api_EdSheet)).length:Int))) true (x10 != 0)) then (some false) else ((F35 fuel (⟨x7.1.Tol,x7.1.Sheets,x7.1.Edges⟩:S_api_EdCase) (⟨x8.1.Tol,x8.1.Sheets,x8.1.Edges⟩:S_api_EdCase) x9.1).bind fun x12=>if ((x12.2.length:Int)==0) then ((F7 fuel).bind fun x14=>(optG x14 (F32 fuel)).bind fun x15=>some (cond x14 x15 false)) else ((F16 fuel (⟨x12.1.Interval,x12.1.Points,x12.1.Notes⟩:S_api_ShSheet)).bind fun x16=>(F12 fuel (⟨x12.1.Interval,x12.1.Points,x12.1.Notes⟩:S_api_ShSheet)).bind fun x17=>(F10 fuel (⟨x12.1.Interval,x12.1.Points,x12.1.Notes⟩:S_api_ShSheet)).bind fun x18=>if (cond (cond (cond (cond (x16.2.2 != 0) true (x17.2 != 0)) true (!x17.1)) true (x18.2 != 0)) true ((x18.1.length:Int) != (x12.2.length:Int))) then (some false) else ((F5L1 x12 x18 fuel 0).bind fun o20=>outK o20 (fun (ro20:Bool)=>some ro20) (fun (so20:Unit)=>(F7 fuel).bind fun x28=>(optG x28 (F32 fuel)).bind fun x29=>some (cond x28 x29 false))))))
end Go.Proofs.YtkcgfceihpampaaGreatDoor
