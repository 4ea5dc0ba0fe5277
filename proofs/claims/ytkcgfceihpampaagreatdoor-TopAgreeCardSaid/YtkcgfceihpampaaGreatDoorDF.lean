/- What functions of the seat compute. Printed by a program of mine. -/
import Derived.Test.YtkcgfceihpampaaGreatDoorP
import Derived.Test.YtkcgfceihpampaaGreatDoorDE
namespace Go.Proofs.YtkcgfceihpampaaGreatDoor
open Go Go.Sx
set_option linter.unusedVariables false


def F94  (p_n:Int) (low:Int) (high:Int):Option (Bool) :=
 some (cond (decide (p_n≥low)) (decide (p_n≤high)) false)


def F95v1 (fuel:Nat)  (p_s:S_api_EdSheet) (names:(List ByteArray)):Option (Int) :=
 (F72 fuel p_s.Name names).bind fun x1=>(optG (x1==0) (F94 p_s.Weight 0 20)).bind fun x2=>(optG ((x1==0)&&(!(!x2))) (F94 p_s.Most 0 6)).bind fun x3=>if (cond (x1==0) (cond (!x2) true (!x3)) false) then (some 7) else (some x1)


def F96L1 (p_x:S_api_EdEdge):Nat→Int→Option ((Int)⊕(Unit))
 | 0,_=>none
 | n9+1,c8=>if (decide (c8<(p_x.Points.length:Int))) then ((idx p_x.Points c8).bind fun x11=>(F94 x11.A 0 9000).bind fun x12=>(optG (!(!x12)) (idx p_x.Points c8)).bind fun x13=>(optG (!(!x12)) (F94 x13.B 0 9000)).bind fun x14=>if (cond (!x12) true (!x14)) then (some (.inl 7)) else (F96L1 p_x n9 (w64 (c8+1)))) else (some (.inr ()))

def F96 (fuel:Nat)  (p_x:S_api_EdEdge) (sheets:Int):Option (Int) :=
 (F94 p_x.A 0 (w64 (sheets-1))).bind fun x1=>(optG (!(!x1)) (F94 p_x.B 0 (w64 (sheets-1)))).bind fun x2=>if (cond (!x1) true (!x2)) then (some 4) else (if (p_x.A==p_x.B) then (some 2) else ((F94 (p_x.Points.length:Int) 1 4).bind fun x5=>if (!x5) then (some 3) else ((F96L1 p_x fuel 0).bind fun o7=>outK o7 (fun (ro7:Int)=>some ro7) (fun (so7:Unit)=>some 0))))


def F31L1 (fuel:Nat) (p_c:S_api_EdCase):Nat→(Int×(List ByteArray))→Option ((Int×Int×Int)⊕((List ByteArray)))
 | 0,_=>none
 | n8+1,c7=>if (decide (c7.1<(p_c.Sheets.length:Int))) then ((idx p_c.Sheets c7.1).bind fun x10=>(F95v1 fuel x10 c7.2).bind fun x11=>if (x11 != 0) then (some (.inl (2,c7.1,x11))) else ((idx p_c.Sheets c7.1).bind fun x13=>(need ((c7.2.length+([x13.Name]:List ByteArray).length)*16≤140737488355328∧c7.2.length+([x13.Name]:List ByteArray).length≤9223372036854775807)).bind fun x14=>F31L1 fuel p_c n8 ((w64 (c7.1+1)),(c7.2++([x13.Name]:List ByteArray))))) else (some (.inr c7.2))

def F31L2 (fuel:Nat) (p_c:S_api_EdCase):Nat→Int→Option ((Int×Int×Int)⊕(Unit))
 | 0,_=>none
 | n17+1,c16=>if (decide (c16<(p_c.Edges.length:Int))) then ((idx p_c.Edges c16).bind fun x19=>(F96 fuel x19 (p_c.Sheets.length:Int)).bind fun x20=>if (x20 != 0) then (some (.inl (3,c16,x20))) else (F31L2 fuel p_c n17 (w64 (c16+1)))) else (some (.inr ()))

def F31 (fuel:Nat)  (p_c:S_api_EdCase):Option (Int×Int×Int) :=
 (F94 p_c.Tol 0 50).bind fun x1=>if (!x1) then (some (1,0,7)) else ((F94 (p_c.Sheets.length:Int) 1 5).bind fun x3=>if (cond (!x3) true (decide ((p_c.Edges.length:Int)>8))) then (some (1,0,3)) else ((F31L1 fuel p_c fuel (0,([]:List ByteArray))).bind fun o6=>outK o6 (fun (ro6:Int×Int×Int)=>some ro6) (fun (so6:(List ByteArray))=>(F31L2 fuel p_c fuel 0).bind fun o15=>outK o15 (fun (ro15:Int×Int×Int)=>some ro15) (fun (so15:Unit)=>some (0,0,0)))))
end Go.Proofs.YtkcgfceihpampaaGreatDoor
