/- What functions of the seat compute. Printed by a program of mine. -/
import Derived.Test.YtkcgfceihpampaaGreatDoorP
import Derived.Test.YtkcgfceihpampaaGreatDoorDA
import Derived.Test.YtkcgfceihpampaaGreatDoorDB
namespace Go.Proofs.YtkcgfceihpampaaGreatDoor
open Go Go.Sx
set_option linter.unusedVariables false


def F132L1 (fuel:Nat) (p_s:S_sheet_sheet) (wider:Int):Nat→(Int×(List Int))→Option (((List Int)×Bool)⊕((List Int)))
 | 0,_=>none
 | n5+1,c4=>if (decide (c4.1<(p_s.ShSheet.Notes.length:Int))) then ((cutN c4.2 0 81).bind fun x7=>(F70 fuel p_s x7 c4.1 wider).bind fun x8=>(need (x8.1.length=81)).bind fun x9=>(need (c4.2.length=81)).bind fun x10=>if (!x8.2) then ((cutN x8.1 0 81).bind fun x12=>(need (x12.length=81)).bind fun x13=>(need (x8.1.length=81)).bind fun x14=>some (.inl (x12,false))) else (F132L1 fuel p_s wider n5 ((w64 (c4.1+1)),x8.1))) else (some (.inr c4.2))

def F132 (fuel:Nat)  (p_s:S_sheet_sheet) (wider:Int):Option ((List Int)×Bool) :=
 (F69 fuel).bind fun x1=>(need (x1.length=81)).bind fun x2=>(F132L1 fuel p_s wider fuel (0,x1)).bind fun o3=>outK o3 (fun (ro3:(List Int)×Bool)=>(need (ro3.1.length=81)).bind fun x19=>some ro3) (fun (so3:(List Int))=>(cutN so3 0 81).bind fun x15=>(need (x15.length=81)).bind fun x16=>(need (so3.length=81)).bind fun x17=>(need (x15.length=81)).bind fun x18=>some (x15,true))


def F62 (fuel:Nat)  (p_s:S_api_ShSheet):Option ((List Int)×Int) :=
 (F65 fuel p_s).bind fun x1=>if (x1.2.2 != 0) then ((cutN (List.replicate 81 (0:Int)) 0 81).bind fun x3=>(need (x3.length=81)).bind fun x4=>(need (x3.length=81)).bind fun x5=>some (x3,x1.2.2)) else ((F132 fuel (⟨p_s⟩:S_sheet_sheet) 0).bind fun x6=>(need (x6.1.length=81)).bind fun x7=>if (!x6.2) then ((cutN x6.1 0 81).bind fun x9=>(need (x9.length=81)).bind fun x10=>(need (x6.1.length=81)).bind fun x11=>(need (x9.length=81)).bind fun x12=>some (x9,9)) else ((cutN x6.1 0 81).bind fun x13=>(need (x13.length=81)).bind fun x14=>(need (x6.1.length=81)).bind fun x15=>(need (x13.length=81)).bind fun x16=>some (x13,0)))
end Go.Proofs.YtkcgfceihpampaaGreatDoor
