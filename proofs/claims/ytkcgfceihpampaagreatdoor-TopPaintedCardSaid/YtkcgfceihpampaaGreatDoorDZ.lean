/- What functions of the seat compute. Printed by a program of mine. -/
import Derived.Test.YtkcgfceihpampaaGreatDoorP
import Derived.Test.YtkcgfceihpampaaGreatDoorDD
import Derived.Test.YtkcgfceihpampaaGreatDoorDE
import Derived.Test.YtkcgfceihpampaaGreatDoorDF
import Derived.Test.YtkcgfceihpampaaGreatDoorDG
import Derived.Test.YtkcgfceihpampaaGreatDoorDH
import Derived.Test.YtkcgfceihpampaaGreatDoorDI
import Derived.Test.YtkcgfceihpampaaGreatDoorDW
import Derived.Test.YtkcgfceihpampaaGreatDoorDX
namespace Go.Proofs.YtkcgfceihpampaaGreatDoor
open Go Go.Sx
set_option linter.unusedVariables false


def F4L1 (fuel:Nat) (x5:(List Int)) (x14:(List Int)) (x19:(List S_api_Span)×Int) (x20:(List Int)×Int):Nat→Int→Option ((Bool)⊕(Unit))
 | 0,_=>none
 | n24+1,c23=>if (decide (c23<(x5.length:Int))) then ((idx x5 c23).bind fun x26=>(F26 fuel x14 x26).bind fun x27=>(idx x19.1 c23).bind fun x28=>(F27 x27 x28).bind fun x29=>(optG (!(!x29)) (F28 fuel x20.1 c23)).bind fun x30=>(optG ((!(!x29))&&(!x30)) (idx x19.1 c23)).bind fun x31=>if (cond (!x29) true (cond (!x30) (x27 != x31.Lo) false)) then (some (.inl false)) else (F4L1 fuel x5 x14 x19 x20 n24 (w64 (c23+1)))) else (some (.inr ()))

def F4L2 (fuel:Nat) (p_m:S_api_ClMap) (x5:(List Int)) (x7:(List S_api_Span)×Int) (x14:(List Int)) (x33:(List Int)×Int×Int):Nat→Int→Option ((Bool)⊕(Unit))
 | 0,_=>none
 | n40+1,c39=>if (decide (c39<(p_m.Sides.length:Int))) then ((idx p_m.Sides c39).bind fun x42=>(idx x5 x42.A).bind fun x43=>(F26 fuel x14 x43).bind fun x44=>(idx p_m.Sides c39).bind fun x45=>(idx x5 x45.B).bind fun x46=>(F26 fuel x14 x46).bind fun x47=>(idx x33.1 x44).bind fun x48=>(idx x33.1 x47).bind fun x49=>(F30 fuel (⟨p_m.Borders,p_m.Step,x7.1,p_m.Sides,p_m.Inks,p_m.Like⟩:S_api_ClMap) x48 x49).bind fun x50=>if (!(x50==(x44==x47))) then (some (.inl false)) else (F4L2 fuel p_m x5 x7 x14 x33 n40 (w64 (c39+1)))) else (some (.inr ()))

def F4 (fuel:Nat)  (p_s:S_api_ShSheet) (p_m:S_api_ClMap) (p_x:S_hachuretop_Painted):Option (Bool) :=
 (F16 fuel p_s).bind fun x1=>if (x1.2.2 != 0) then ((F7 fuel).bind fun x3=>(optG x3 (F17 fuel)).bind fun x4=>some (cond x3 x4 false)) else ((F18 fuel p_s p_x.Heights).bind fun x5=>(F19 fuel p_s x5 p_x.Off).bind fun x6=>(F10 fuel (⟨x6.Interval,x6.Points,x6.Notes⟩:S_api_ShSheet)).bind fun x7=>if (cond (x7.2 != 0) true ((x7.1.length:Int) != (x5.length:Int))) then (some false) else ((F20 fuel (⟨p_m.Borders,p_m.Step,x7.1,p_m.Sides,p_m.Inks,p_m.Like⟩:S_api_ClMap)).bind fun x9=>if (x9.2.2 != 0) then ((F21 fuel (⟨p_m.Borders,p_m.Step,x7.1,p_m.Sides,p_m.Inks,p_m.Like⟩:S_api_ClMap)).bind fun x11=>(optG (x11.2.2==x9.2.2) (F7 fuel)).bind fun x12=>(optG (cond (x11.2.2==x9.2.2) x12 false) (F17 fuel)).bind fun x13=>some (cond (cond (x11.2.2==x9.2.2) x12 false) x13 false)) else ((F22 fuel (⟨p_m.Borders,p_m.Step,x7.1,p_m.Sides,p_m.Inks,p_m.Like⟩:S_api_ClMap) p_x.Legend).bind fun x14=>(F23 fuel (⟨p_m.Borders,p_m.Step,x7.1,p_m.Sides,p_m.Inks,p_m.Like⟩:S_api_ClMap) x14).bind fun x15=>if (x15.2 != 0) then ((F7 fuel).bind fun x17=>(optG x17 (F17 fuel)).bind fun x18=>some (cond x17 x18 false)) else ((F24 fuel (⟨p_m.Borders,p_m.Step,x7.1,p_m.Sides,p_m.Inks,p_m.Like⟩:S_api_ClMap) x14).bind fun x19=>(F25 fuel (⟨p_m.Borders,p_m.Step,x7.1,p_m.Sides,p_m.Inks,p_m.Like⟩:S_api_ClMap) x14).bind fun x20=>if (cond (cond (x19.2 != 0) true (x20.2 != 0)) true ((x19.1.length:Int) != (x5.length:Int))) then (some false) else ((F4L1 fuel x5 x14 x19 x20 fuel 0).bind fun o22=>outK o22 (fun (ro22:Bool)=>some ro22) (fun (so22:Unit)=>(F29 fuel (⟨p_m.Borders,p_m.Step,x7.1,p_m.Sides,p_m.Inks,p_m.Like⟩:S_api_ClMap) x14).bind fun x33=>if (x33.2.2 != 0) then ((optG (x33.2.2==9) (F7 fuel)).bind fun x35=>(optG (cond (x33.2.2==9) x35 false) (F17 fuel)).bind fun x36=>some (cond (cond (x33.2.2==9) x35 false) x36 false)) else (if ((x33.1.length:Int) != (w64 ((x14.length:Int)+1))) then (some false) else ((F4L2 fuel p_m x5 x7 x14 x33 fuel 0).bind fun o38=>outK o38 (fun (ro38:Bool)=>some ro38) (fun (so38:Unit)=>(F7 fuel).bind fun x52=>(optG x52 (F17 fuel)).bind fun x53=>some (cond x52 x53 false))))))))))
end Go.Proofs.YtkcgfceihpampaaGreatDoor
