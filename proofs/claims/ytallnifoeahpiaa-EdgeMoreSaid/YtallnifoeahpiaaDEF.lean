/- What functions of the seat compute. Printed by a program of mine. -/
import Derived.Test.YtallnifoeahpiaaP
import Derived.Test.YtallnifoeahpiaaDEB
import Derived.Test.YtallnifoeahpiaaDED
namespace Go.Proofs.Ytallnifoeahpiaa
open Go Go.Sx
set_option linter.unusedVariables false


def F93e1 (p_x:Int):Int :=
 (IntKind.u64.wrap ((Go.bits .and .u64 ((IntKind.u64.wrap ((Go.bits .and .u64 (p_x / 2^min (1:Int).toNat 64) 6148914691236517205)+(Go.bits .and .u64 p_x 6148914691236517205))) / 2^min (2:Int).toNat 64) 3689348814741910323)+(Go.bits .and .u64 (IntKind.u64.wrap ((Go.bits .and .u64 (p_x / 2^min (1:Int).toNat 64) 6148914691236517205)+(Go.bits .and .u64 p_x 6148914691236517205))) 3689348814741910323)))

def F93e2 (p_x:Int):Int :=
 (IntKind.u64.wrap ((Go.bits .and .u64 (IntKind.u64.wrap (((F93e1 p_x) / 2^min (4:Int).toNat 64)+(F93e1 p_x))) 1085102592571150095)+((Go.bits .and .u64 (IntKind.u64.wrap (((F93e1 p_x) / 2^min (4:Int).toNat 64)+(F93e1 p_x))) 1085102592571150095) / 2^min (8:Int).toNat 64)))

def F93e3 (p_x:Int):Int :=
 (IntKind.u64.wrap ((IntKind.u64.wrap ((F93e2 p_x)+((F93e2 p_x) / 2^min (16:Int).toNat 64)))+((IntKind.u64.wrap ((F93e2 p_x)+((F93e2 p_x) / 2^min (16:Int).toNat 64))) / 2^min (32:Int).toNat 64)))

def F93  (p_x:Int):Option (Int) :=
 some (Go.bits .and .i64 (IntKind.i64.wrap (F93e3 p_x)) 127)


def F72  (p_x:Int):Option (Int) :=
 (F93 p_x).bind fun x1=>some x1


def F105  (p_x:Int):Option (Bool) :=
 some (p_x != p_x)


def F94  (p_x:Int) (y:Int):Option (Int) :=
 (F105 p_x).bind fun x1=>(F105 y).bind fun x2=>if x1 then (if x2 then (some 0) else (some (-1))) else (if x2 then (some 1) else (if (decide (p_x<y)) then (some (-1)) else (if (decide (p_x>y)) then (some 1) else (some 0))))


def F73L1 (p_s1:(List Int)):Nat→Int→Option ((Int)⊕(Unit))
 | 0,_=>none
 | n4+1,c3=>if (decide (c3<(p_s1.length:Int))) then ((idx p_s1 c3).bind fun x6=>if (decide (c3≥(([]:List Int).length:Int))) then (some (.inl 1)) else ((idx ([]:List Int) c3).bind fun x8=>(F94 x6 x8).bind fun x9=>if (x9 != 0) then (some (.inl x9)) else (F73L1 p_s1 n4 (w64 (c3+1))))) else (some (.inr ()))

def F73 (fuel:Nat)  (p_s1:(List Int)) (p_s2:(List Int)):Option (Int) :=
 (F73L1 p_s1 fuel 0).bind fun o2=>outK o2 (fun (ro2:Int)=>some ro2) (fun (so2:Unit)=>if (decide ((p_s1.length:Int)<(([]:List Int).length:Int))) then (some (-1)) else (some 0))


def F73v1L1 (p_s1:(List Int)) (p_s2:(List Int)):Nat→Int→Option ((Int)⊕(Unit))
 | 0,_=>none
 | n3+1,c2=>if (decide (c2<(p_s1.length:Int))) then ((idx p_s1 c2).bind fun x5=>if (decide (c2≥(p_s2.length:Int))) then (some (.inl 1)) else ((idx p_s2 c2).bind fun x7=>(F94 x5 x7).bind fun x8=>if (x8 != 0) then (some (.inl x8)) else (F73v1L1 p_s1 p_s2 n3 (w64 (c2+1))))) else (some (.inr ()))

def F73v1 (fuel:Nat)  (p_s1:(List Int)) (p_s2:(List Int)):Option (Int) :=
 (F73v1L1 p_s1 p_s2 fuel 0).bind fun o1=>outK o1 (fun (ro1:Int)=>some ro1) (fun (so1:Unit)=>if (decide ((p_s1.length:Int)<(p_s2.length:Int))) then (some (-1)) else (some 0))


def F32L2 (p_c:S_api_EdCase) (c7:Int×Int×(List Int)):Nat→(Int×(List Int))→Option (((List Int)×Int)⊕((List Int)))
 | 0,_=>none
 | n15+1,c14=>if (decide (c14.1<(p_c.Edges.length:Int))) then ((need (0≤c14.1)).bind fun x17=>if ((Go.bits .and .i64 (c7.2.1 / 2^min c14.1.toNat 64) 1)==1) then ((need ((c14.2.length+([c14.1]:List Int).length)*8≤140737488355328∧c14.2.length+([c14.1]:List Int).length≤9223372036854775807)).bind fun x19=>F32L2 p_c c7 n15 ((w64 (c14.1+1)),(c14.2++([c14.1]:List Int)))) else (F32L2 p_c c7 n15 ((w64 (c14.1+1)),c14.2))) else (some (.inr c14.2))

def F32L1 (fuel:Nat) (p_c:S_api_EdCase) (y2:Int×Int×(List S_api_EdSheet)×(List S_api_EdEdge)×(List Int)×(List ((List Int)×Int))):Nat→(Int×Int×(List Int))→Option (((List Int)×Int)⊕((List Int)))
 | 0,_=>none
 | n8+1,c7=>if (decide (c7.2.1<(w64 ((1:Int)*2^min (p_c.Edges.length:Int).toNat 64)))) then ((F72 (IntKind.u64.wrap c7.2.1)).bind fun x10=>if (decide (x10>c7.1)) then (F32L1 fuel p_c y2 n8 (c7.1,(w64 (c7.2.1+1)),c7.2.2)) else ((F32L2 p_c c7 fuel (0,([]:List Int))).bind fun o13=>outK o13 (fun (ro13:(List Int)×Int)=>some (.inl ro13)) (fun (so13:(List Int))=>(optG ((so13.length:Int)==c7.1) (F73v1 fuel so13 c7.2.2)).bind fun x20=>if (cond ((so13.length:Int)==c7.1) (decide (x20≥0)) false) then (F32L1 fuel p_c y2 n8 (c7.1,(w64 (c7.2.1+1)),c7.2.2)) else ((F64 fuel (p_c.Sheets.length:Int) c7.2.1 y2.2.1 y2.2.2.1 y2.2.2.2.1 y2.2.2.2.2.1 y2.2.2.2.2.2).bind fun x22=>if (Nat.beq x22.2.length 0) then (F32L1 fuel p_c y2 n8 ((so13.length:Int),(w64 (c7.2.1+1)),so13)) else (F32L1 fuel p_c y2 n8 (c7.1,(w64 (c7.2.1+1)),c7.2.2)))))) else (some (.inr c7.2.2))

def F32L4 (p_c:S_api_EdCase) (c28:Int):Nat→(Int×(List Int))→Option (((List Int)×Int)⊕((List Int)))
 | 0,_=>none
 | n36+1,c35=>if (decide (c35.1<(p_c.Edges.length:Int))) then ((need (0≤c35.1)).bind fun x38=>if ((Go.bits .and .i64 (c28 / 2^min c35.1.toNat 64) 1)==1) then ((need ((c35.2.length+([c35.1]:List Int).length)*8≤140737488355328∧c35.2.length+([c35.1]:List Int).length≤9223372036854775807)).bind fun x40=>F32L4 p_c c28 n36 ((w64 (c35.1+1)),(c35.2++([c35.1]:List Int)))) else (F32L4 p_c c28 n36 ((w64 (c35.1+1)),c35.2))) else (some (.inr c35.2))

def F32L3 (fuel:Nat) (p_c:S_api_EdCase):Nat→Int→Option (((List Int)×Int)⊕(Unit))
 | 0,_=>none
 | n29+1,c28=>if (decide (c28<(w64 ((1:Int)*2^min (p_c.Edges.length:Int).toNat 64)))) then ((F72 (IntKind.u64.wrap c28)).bind fun x31=>if (decide (x31>(w64 ((p_c.Edges.length:Int)+1)))) then (F32L3 fuel p_c n29 (w64 (c28+1))) else ((F32L4 p_c c28 fuel (0,([]:List Int))).bind fun o34=>outK o34 (fun (ro34:(List Int)×Int)=>some (.inl ro34)) (fun (so34:(List Int))=>(optG ((so34.length:Int)==(w64 ((p_c.Edges.length:Int)+1))) (F73 fuel so34 ([]:(List Int)))).bind fun x41=>if (cond ((so34.length:Int)==(w64 ((p_c.Edges.length:Int)+1))) (decide (x41≥0)) false) then (F32L3 fuel p_c n29 (w64 (c28+1))) else (none)))) else (some (.inr ()))

def F32 (fuel:Nat)  (p_c:S_api_EdCase):Option ((List Int)×Int) :=
 (F57v1 fuel p_c).bind fun x1=>outK x1 (fun (y2:Int×Int×(List S_api_EdSheet)×(List S_api_EdEdge)×(List Int)×(List ((List Int)×Int)))=>if (y2.1 != 0) then (some (([]:List Int),y2.1)) else ((need (0≤(p_c.Edges.length:Int))).bind fun x4=>(F32L1 fuel p_c y2 fuel ((w64 ((p_c.Edges.length:Int)+1)),0,([]:List Int))).bind fun o6=>outK o6 (fun (ro6:(List Int)×Int)=>some ro6) (fun (so6:(List Int))=>some (so6,0)))) (fun (y24:Int)=>if (y24 != 0) then (some (([]:List Int),y24)) else ((need (0≤(p_c.Edges.length:Int))).bind fun x26=>(F32L3 fuel p_c fuel 0).bind fun o27=>outK o27 (fun (ro27:(List Int)×Int)=>some ro27) (fun (so27:Unit)=>some (([]:List Int),0))))
end Go.Proofs.Ytallnifoeahpiaa
