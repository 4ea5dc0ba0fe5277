/- What functions of the seat compute. Printed by a program of mine. -/
import Derived.Test.YtkcgfceihpampaaGreatDoorP
import Derived.Test.YtkcgfceihpampaaGreatDoorDA
import Derived.Test.YtkcgfceihpampaaGreatDoorDB
import Derived.Test.YtkcgfceihpampaaGreatDoorDD
namespace Go.Proofs.YtkcgfceihpampaaGreatDoor
open Go Go.Sx
set_option linter.unusedVariables false


def B173v1 (fuel:Nat) (rec44:Int→(List Int)→Bool→Bool→(List Int)→(List Int)→Bool→Int→(List ByteArray)→(List S_api_ShNote)→Option (Bool×(List Int)×(List Int))) (i:Int) (p_b:(List Int)) (bad:Bool) (b0x0:Bool) (a2:List Int) (b3x0:List Int) (b4x0:Bool) (b5x0:Int) (b5x1:List ByteArray) (b5x2:List S_api_ShNote):Option (Bool×(List Int)×(List Int)) :=
 if (cond (cond b0x0 (decide ((a2.length:Int)≥(b3x0.length:Int))) false) true (cond b4x0 bad false)) then (some (b0x0,a2,b3x0)) else (if (cond bad true (cond b4x0 (i==(b5x2.length:Int)) false)) then ((F110 a2).bind fun x3=>some (true,a2,x3)) else (if (i==(b5x2.length:Int)) then (some (b0x0,a2,b3x0)) else ((cutN p_b 0 81).bind fun x5=>(F70 fuel (⟨(⟨b5x0,b5x1,b5x2⟩:S_api_ShSheet)⟩:S_sheet_sheet) x5 i 0).bind fun x6=>(need (x6.1.length=81)).bind fun x7=>(need ((a2.length+([i]:List Int).length)*8≤140737488355328∧a2.length+([i]:List Int).length≤9223372036854775807)).bind fun x8=>(if b4x0 then ((cutN p_b 0 81).bind fun x11=>(rec44 (w64 (i+1)) x11 false b0x0 (a2++([i]:List Int)) b3x0 b4x0 b5x0 b5x1 b5x2).bind fun x12=>some (.inr (x12.1,x12.2.1,x12.2.2))) else ((cutN x6.1 0 81).bind fun x13=>(rec44 (w64 (i+1)) x13 (!x6.2) b0x0 (a2++([i]:List Int)) b3x0 b4x0 b5x0 b5x1 b5x2).bind fun x14=>some (.inr (x14.1,x14.2.1,x14.2.2)))).bind fun o9=>outK o9 (fun (ro9:Bool×(List Int)×(List Int))=>some ro9) (fun (so9:Bool×(List Int)×(List Int))=>(sub so9.2.1 0 (w64 ((so9.2.1.length:Int)-1))).bind fun x15=>if b4x0 then ((cutN x6.1 0 81).bind fun x17=>(rec44 (w64 (i+1)) x17 (!x6.2) so9.1 x15 so9.2.2 b4x0 b5x0 b5x1 b5x2).bind fun x18=>some (x18.1,x18.2.1,x18.2.2)) else ((cutN p_b 0 81).bind fun x19=>(rec44 (w64 (i+1)) x19 false so9.1 x15 so9.2.2 b4x0 b5x0 b5x1 b5x2).bind fun x20=>some (x20.1,x20.2.1,x20.2.2))))))

def F173v1:Nat→Int→(List Int)→Bool→Bool→(List Int)→(List Int)→Bool→Int→(List ByteArray)→(List S_api_ShNote)→Option (Bool×(List Int)×(List Int))
 | 0,_,_,_,_,_,_,_,_,_,_=>none
 | n+1,i,p_b,bad,b0x0,a2,b3x0,b4x0,b5x0,b5x1,b5x2=>B173v1 (n+1) (F173v1 n) i p_b bad b0x0 a2 b3x0 b4x0 b5x0 b5x1 b5x2


def F115 (fuel:Nat)  (p_s:S_sheet_sheet) (left:Bool):Option ((List Int)) :=
 (F69 fuel).bind fun x1=>(F173v1 fuel 0 x1 false false ([]:List Int) ([]:List Int) left p_s.ShSheet.Interval p_s.ShSheet.Points p_s.ShSheet.Notes).bind fun x2=>some x2.2.2


def F42 (fuel:Nat)  (p_s:S_api_ShSheet):Option ((List Int)×Int) :=
 (F12 fuel p_s).bind fun x1=>if (x1.2 != 0) then (some (([]:List Int),x1.2)) else (if x1.1 then (some (([]:List Int),4)) else ((F115 fuel (⟨p_s⟩:S_sheet_sheet) false).bind fun x4=>some (x4,0)))


def F43 (fuel:Nat)  (p_s:S_api_ShSheet):Option ((List Int)×Int) :=
 (F65 fuel p_s).bind fun x1=>if (x1.2.2 != 0) then (some (([]:List Int),x1.2.2)) else ((F115 fuel (⟨p_s⟩:S_sheet_sheet) true).bind fun x3=>some (x3,0))
end Go.Proofs.YtkcgfceihpampaaGreatDoor
