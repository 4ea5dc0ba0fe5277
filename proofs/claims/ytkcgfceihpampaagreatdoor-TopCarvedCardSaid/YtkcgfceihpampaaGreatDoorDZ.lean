/- What functions of the seat compute. Printed by a program of mine. -/
import Derived.Test.YtkcgfceihpampaaGreatDoorP
import Derived.Test.YtkcgfceihpampaaGreatDoorDD
import Derived.Test.YtkcgfceihpampaaGreatDoorDK
import Derived.Test.YtkcgfceihpampaaGreatDoorDL
import Derived.Test.YtkcgfceihpampaaGreatDoorDU
import Derived.Test.YtkcgfceihpampaaGreatDoorDV
import Derived.Test.YtkcgfceihpampaaGreatDoorDW
import Derived.Test.YtkcgfceihpampaaGreatDoorDY
namespace Go.Proofs.YtkcgfceihpampaaGreatDoor
open Go Go.Sx
set_option linter.unusedVariables false


def F3 (fuel:Nat)  (p_r:S_api_CvRow):Option (Bool) :=
 (F6 fuel p_r).bind fun x1=>if (cond (x1.2.2 != 0) true (decide ((p_r.Points.length:Int)>6))) then ((F7 fuel).bind fun x3=>(optG x3 (F8 fuel)).bind fun x4=>some (cond x3 x4 false)) else ((F9 fuel p_r).bind fun x5=>(F10 fuel (⟨x5.Interval,x5.Points,x5.Notes⟩:S_api_ShSheet)).bind fun x6=>(F11 fuel p_r).bind fun x7=>(F12 fuel (⟨x5.Interval,x5.Points,x5.Notes⟩:S_api_ShSheet)).bind fun x8=>(F13 fuel p_r).bind fun x9=>(F14 fuel (⟨x5.Interval,x5.Points,x5.Notes⟩:S_api_ShSheet)).bind fun x10=>(optG (!(cond (cond (cond (x8.2 != 0) true (x9.2 != 0)) true (x10.2 != 0)) true (!(x8.1==(x7.2==0))))) (F15 fuel x6.1 x7.1)).bind fun x11=>if (cond (cond (cond (cond (cond (x8.2 != 0) true (x9.2 != 0)) true (x10.2 != 0)) true (!(x8.1==(x7.2==0)))) true (!x11)) true (x6.2 != x7.2)) then (some false) else ((optG (cond (cond (decide (x10.1≥0)) (decide (x10.1≤(if (w64 (x9.1-p_r.Steep))>0 then (w64 (x9.1-p_r.Steep)) else 0))) false) ((x10.1==0)==x8.1) false) (F7 fuel)).bind fun x13=>(optG (cond (cond (cond (decide (x10.1≥0)) (decide (x10.1≤(if (w64 (x9.1-p_r.Steep))>0 then (w64 (x9.1-p_r.Steep)) else 0))) false) ((x10.1==0)==x8.1) false) x13 false) (F8 fuel)).bind fun x14=>some (cond (cond (cond (cond (decide (x10.1≥0)) (decide (x10.1≤(if (w64 (x9.1-p_r.Steep))>0 then (w64 (x9.1-p_r.Steep)) else 0))) false) ((x10.1==0)==x8.1) false) x13 false) x14 false)))
end Go.Proofs.YtkcgfceihpampaaGreatDoor
