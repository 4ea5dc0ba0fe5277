/- What functions of the seat compute. Printed by a program of mine. -/
import Derived.Test.YtkcgfceihpampaaGreatDoorP
import Derived.Test.YtkcgfceihpampaaGreatDoorDA
import Derived.Test.YtkcgfceihpampaaGreatDoorDB
import Derived.Test.YtkcgfceihpampaaGreatDoorDC
namespace Go.Proofs.YtkcgfceihpampaaGreatDoor
open Go Go.Sx
set_option linter.unusedVariables false


def F12 (fuel:Nat)  (p_s:S_api_ShSheet):Option (Bool×Int) :=
 (F62 fuel p_s).bind fun x1=>(need (x1.1.length=81)).bind fun x2=>if (x1.2==9) then ((F65 fuel p_s).bind fun x4=>if (x4.2.2==0) then (some (false,0)) else (some ((x1.2==0),x1.2))) else (some ((x1.2==0),x1.2))


def F10L1 (p_s:S_api_ShSheet) (x1:(List Int)×Int):Nat→(Int×(List S_api_Span))→Option (((List S_api_Span)×Int)⊕((List S_api_Span)))
 | 0,_=>none
 | n7+1,c6=>if (decide (c6.1<(p_s.Points.length:Int))) then ((need (0≤c6.1∧c6.1<9)).bind fun x9=>(x1.1[0+c6.1.toNat*9+(8:Int).toNat*1]?).bind fun x10=>(need (0≤c6.1∧c6.1<9)).bind fun x11=>(x1.1[0+(8:Int).toNat*9+c6.1.toNat*1]?).bind fun x12=>(need ((c6.2.length+([(⟨(w64 (0-x10)),x12⟩:S_api_Span)]:List S_api_Span).length)*16≤140737488355328∧c6.2.length+([(⟨(w64 (0-x10)),x12⟩:S_api_Span)]:List S_api_Span).length≤9223372036854775807)).bind fun x13=>F10L1 p_s x1 n7 ((w64 (c6.1+1)),(c6.2++([(⟨(w64 (0-x10)),x12⟩:S_api_Span)]:List S_api_Span)))) else (some (.inr c6.2))

def F10 (fuel:Nat)  (p_s:S_api_ShSheet):Option ((List S_api_Span)×Int) :=
 (F62 fuel p_s).bind fun x1=>(need (x1.1.length=81)).bind fun x2=>if (x1.2 != 0) then (some (([]:List S_api_Span),x1.2)) else ((F10L1 p_s x1 fuel (0,([]:List S_api_Span))).bind fun o5=>outK o5 (fun (ro5:(List S_api_Span)×Int)=>some ro5) (fun (so5:(List S_api_Span))=>some (so5,0)))


def F14L2 (fuel:Nat) (p_s:S_api_ShSheet) (c4:Int×Int):Nat→(Int×(List Int))→Option ((Int×Int)⊕(((List Int))⊕((List Int))))
 | 0,_=>none
 | n11+1,c10=>if (decide (c10.1<(p_s.Notes.length:Int))) then ((cutN c10.2 0 81).bind fun x13=>(F70 fuel (⟨p_s⟩:S_sheet_sheet) x13 c10.1 (w64 ((w64 (c4.1+c4.2)).tdiv 2))).bind fun x14=>(need (x14.1.length=81)).bind fun x15=>if (!x14.2) then (some (.inr (.inl c10.2))) else ((cutN x14.1 0 81).bind fun x17=>(cutN c10.2 0 81).bind fun x18=>(need (x17.length=81)).bind fun x19=>(need (x18.length=81)).bind fun x20=>if (!(x17==x18)) then ((cutN x14.1 0 81).bind fun x22=>(need (x22.length=81)).bind fun x23=>(need (c10.2.length=81)).bind fun x24=>F14L2 fuel p_s c4 n11 ((w64 (c10.1+1)),x22)) else (F14L2 fuel p_s c4 n11 ((w64 (c10.1+1)),c10.2)))) else (some (.inr (.inr c10.2)))

def F14L1 (fuel:Nat) (p_s:S_api_ShSheet):Nat→(Int×Int)→Option ((Int×Int)⊕(Int))
 | 0,_=>none
 | n5+1,c4=>if (decide ((w64 (c4.2-c4.1))>1)) then ((F69 fuel).bind fun x7=>(need (x7.length=81)).bind fun x8=>(F14L2 fuel p_s c4 fuel (0,x7)).bind fun o9=>outK o9 (fun (ro9:Int×Int)=>some (.inl ro9)) (fun yo9=>outK yo9 (fun (qo9:(List Int))=>F14L1 fuel p_s n5 ((w64 ((w64 (c4.1+c4.2)).tdiv 2)),c4.2)) (fun (so9:(List Int))=>F14L1 fuel p_s n5 (c4.1,(w64 ((w64 (c4.1+c4.2)).tdiv 2)))))) else (some (.inr c4.2))

def F14 (fuel:Nat)  (p_s:S_api_ShSheet):Option (Int×Int) :=
 (F65 fuel p_s).bind fun x1=>if (x1.2.2 != 0) then (some (0,x1.2.2)) else ((F14L1 fuel p_s fuel ((-1),9000)).bind fun o3=>outK o3 (fun (ro3:Int×Int)=>some ro3) (fun (so3:Int)=>some (so3,0)))
end Go.Proofs.YtkcgfceihpampaaGreatDoor
