/- What functions of the seat compute. Printed by a program of mine. -/
import Derived.Test.YtallnifoeahpiaaP
import Derived.Test.YtallnifoeahpiaaDEA
import Derived.Test.YtallnifoeahpiaaDEB
namespace Go.Proofs.Ytallnifoeahpiaa
open Go Go.Sx
set_option linter.unusedVariables false


def F91  (p_x:S_api_Span):Option (Bool) :=
 some (decide (p_x.Lo>p_x.Hi))


def F104L1 (p_s:(List S_api_Span)):Nat→Int→Option ((Int)⊕(Unit))
 | 0,_=>none
 | n3+1,c2=>if (decide (c2<(p_s.length:Int))) then ((idx p_s c2).bind fun x5=>(F91 x5).bind fun x6=>if x6 then (some (.inl c2)) else (F104L1 p_s n3 (w64 (c2+1)))) else (some (.inr ()))

def F104 (fuel:Nat)  (p_s:(List S_api_Span)):Option (Int) :=
 (F104L1 p_s fuel 0).bind fun o1=>outK o1 (fun (ro1:Int)=>some ro1) (fun (so1:Unit)=>some (-1))


def F90 (fuel:Nat)  (p_s:(List S_api_Span)):Option (Bool) :=
 (F104 fuel p_s).bind fun x1=>some (decide (x1≥0))


def F68v1 (fuel:Nat)  (p_c:S_api_EdCase):Option ((Int×Int×(List S_api_EdSheet)×(List S_api_EdEdge)×(List Int)×(List ((List Int)×Int)))⊕(Int)) :=
 (F57v1 fuel p_c).bind fun x1=>outK x1 (fun (y2:Int×Int×(List S_api_EdSheet)×(List S_api_EdEdge)×(List Int)×(List ((List Int)×Int)))=>if (y2.1 != 0) then (some (.inr y2.1)) else ((need (0≤(p_c.Edges.length:Int)∧(p_c.Edges.length:Int)≤8)).bind fun x4=>(need (y2.2.2.2.2.1.length=16)).bind fun x5=>(F90 fuel (pairs (fun a b=>(⟨a,b⟩:S_api_Span)) (y2.2.2.2.2.1.take (((p_c.Edges.length:Int)-0).toNat*2)))).bind fun x6=>if x6 then (some (.inl (9,y2.2.1,y2.2.2.1,y2.2.2.2.1,y2.2.2.2.2.1,y2.2.2.2.2.2))) else (some (.inl (0,y2.2.1,y2.2.2.1,y2.2.2.2.1,y2.2.2.2.2.1,y2.2.2.2.2.2))))) (fun (y8:Int)=>if (y8 != 0) then (some (.inr y8)) else (none))


def F69e2 (c25:Int×Int) (x28:S_api_EdSheet) (x32:Int) (x30:Int):Int :=
 (w64 (c25.1-(w64 (x28.Most*(if (w64 ((if (w64 (0-x32))>x30 then (w64 (0-x32)) else x30)-x28.Weight))>0 then (w64 ((if (w64 (0-x32))>x30 then (w64 (0-x32)) else x30)-x28.Weight)) else 0)))))

def F69L1 (proof:(List Int)) (b0x2:List S_api_EdEdge) (b0x3:List Int):Nat→(Int×Int×(List Int))→Option ((Int)⊕(Int×(List Int)))
 | 0,_=>none
 | n3+1,c2=>if (decide (c2.2.1<(b0x2.length:Int))) then ((idx b0x2 c2.2.1).bind fun x5=>(need (0≤x5.A∧x5.A<5)).bind fun x6=>(c2.2.2[0+x5.A.toNat*1]?).bind fun x7=>(idx proof c2.2.1).bind fun x8=>(need (0≤x5.A∧x5.A<5)).bind fun x9=>(c2.2.2[0+x5.A.toNat*1]?).bind fun x10=>(need (0≤x5.B∧x5.B<5)).bind fun x11=>((c2.2.2.set (0+x5.A.toNat*1) (w64 (x7+x8)))[0+x5.B.toNat*1]?).bind fun x12=>(idx proof c2.2.1).bind fun x13=>(need (0≤x5.B∧x5.B<5)).bind fun x14=>((c2.2.2.set (0+x5.A.toNat*1) (w64 (x7+x8)))[0+x5.B.toNat*1]?).bind fun x15=>(idx proof c2.2.1).bind fun x16=>if (decide (x16>0)) then ((idx proof c2.2.1).bind fun x18=>(need (0≤c2.2.1∧c2.2.1<8)).bind fun x19=>(b0x3[0+c2.2.1.toNat*2]?).bind fun x20=>F69L1 proof b0x2 b0x3 n3 ((w64 (c2.1+(w64 (x18*x20)))),(w64 (c2.2.1+1)),((c2.2.2.set (0+x5.A.toNat*1) (w64 (x7+x8))).set (0+x5.B.toNat*1) (w64 (x12-x13))))) else ((idx proof c2.2.1).bind fun x21=>(need (0≤c2.2.1∧c2.2.1<8)).bind fun x22=>(b0x3[0+c2.2.1.toNat*2+1]?).bind fun x23=>F69L1 proof b0x2 b0x3 n3 ((w64 (c2.1+(w64 (x21*x23)))),(w64 (c2.2.1+1)),((c2.2.2.set (0+x5.A.toNat*1) (w64 (x7+x8))).set (0+x5.B.toNat*1) (w64 (x12-x13)))))) else (some (.inr (c2.1,c2.2.2)))

def F69L2 (b0x1:List S_api_EdSheet) (so1:Int×(List Int)):Nat→(Int×Int)→Option ((Int)⊕(Int))
 | 0,_=>none
 | n26+1,c25=>if (decide (c25.2<(b0x1.length:Int))) then ((idx b0x1 c25.2).bind fun x28=>(need (0≤c25.2∧c25.2<5)).bind fun x29=>(so1.2[0+c25.2.toNat*1]?).bind fun x30=>(need (0≤c25.2∧c25.2<5)).bind fun x31=>(so1.2[0+c25.2.toNat*1]?).bind fun x32=>F69L2 b0x1 so1 n26 ((F69e2 c25 x28 x32 x30),(w64 (c25.2+1)))) else (some (.inr c25.1))

def F69 (fuel:Nat)  (proof:(List Int)) (b0x0:Int) (b0x1:List S_api_EdSheet) (b0x2:List S_api_EdEdge) (b0x3:List Int) (m1:List ((List Int)×Int)):Option (Int) :=
 (F69L1 proof b0x2 b0x3 fuel (0,0,(List.replicate 5 (0:Int)))).bind fun o1=>outK o1 (fun (ro1:Int)=>some ro1) (fun (so1:Int×(List Int))=>(F69L2 b0x1 so1 fuel (so1.1,0)).bind fun o24=>outK o24 (fun (ro24:Int)=>some ro24) (fun (so24:Int)=>some so24))


def F30 (fuel:Nat)  (p_c:S_api_EdCase) (proof:(List Int)):Option (Int×Int) :=
 (F68v1 fuel p_c).bind fun x1=>outK x1 (fun (y2:Int×Int×(List S_api_EdSheet)×(List S_api_EdEdge)×(List Int)×(List ((List Int)×Int)))=>if ((proof.length:Int) != (p_c.Edges.length:Int)) then (some (0,3)) else ((F48 fuel (-100000) 100000 proof).bind fun x4=>if x4 then (some (0,7)) else (if (y2.1 != 0) then (some (0,y2.1)) else ((F69 fuel proof y2.2.1 y2.2.2.1 y2.2.2.2.1 y2.2.2.2.2.1 y2.2.2.2.2.2).bind fun x7=>some (x7,0))))) (fun (y8:Int)=>some (0,y8))
end Go.Proofs.Ytallnifoeahpiaa
