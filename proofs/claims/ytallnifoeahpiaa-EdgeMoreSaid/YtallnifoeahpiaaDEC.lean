/- What functions of the seat compute. Printed by a program of mine. -/
import Derived.Test.YtallnifoeahpiaaP
import Derived.Test.YtallnifoeahpiaaDEA
import Derived.Test.YtallnifoeahpiaaDEB
namespace Go.Proofs.Ytallnifoeahpiaa
open Go Go.Sx
set_option linter.unusedVariables false


def F59v1L1 (fuel:Nat) (p_c:S_api_EdCase) (l:(List Int)):Nat→(Int×(List Int))→Option (((List Int)×Int)⊕((List Int)))
 | 0,_=>none
 | n13+1,c12=>if (decide (c12.1<(l.length:Int))) then ((idx l c12.1).bind fun x15=>(idx p_c.Sheets c12.1).bind fun x16=>(idx p_c.Sheets c12.1).bind fun x17=>(F48 fuel (w64 (0-x16.Most)) x17.Most ([x15]:List Int)).bind fun x18=>if x18 then ((cutN c12.2 0 5).bind fun x20=>(need (x20.length=5)).bind fun x21=>(need (c12.2.length=5)).bind fun x22=>some (.inl (x20,7))) else ((need (0≤c12.1∧c12.1<5)).bind fun x23=>(c12.2[0+c12.1.toNat*1]?).bind fun x24=>F59v1L1 fuel p_c l n13 ((w64 (c12.1+1)),(c12.2.set (0+c12.1.toNat*1) x15)))) else (some (.inr c12.2))

def F59v1L2 (fuel:Nat) (p_c:S_api_EdCase) (l:(List Int)):Nat→(Int×(List Int))→Option (((List Int)×Int)⊕((List Int)))
 | 0,_=>none
 | n41+1,c40=>if (decide (c40.1<(l.length:Int))) then ((idx l c40.1).bind fun x43=>(idx p_c.Sheets c40.1).bind fun x44=>(idx p_c.Sheets c40.1).bind fun x45=>(F48 fuel (w64 (0-x44.Most)) x45.Most ([x43]:List Int)).bind fun x46=>if x46 then ((cutN c40.2 0 5).bind fun x48=>(need (x48.length=5)).bind fun x49=>(need (c40.2.length=5)).bind fun x50=>some (.inl (x48,7))) else ((need (0≤c40.1∧c40.1<5)).bind fun x51=>(c40.2[0+c40.1.toNat*1]?).bind fun x52=>F59v1L2 fuel p_c l n41 ((w64 (c40.1+1)),(c40.2.set (0+c40.1.toNat*1) x43)))) else (some (.inr c40.2))

def F59v1 (fuel:Nat)  (p_c:S_api_EdCase) (l:(List Int)):Option (((List Int)×Int×Int×(List S_api_EdSheet)×(List S_api_EdEdge)×(List Int)×(List ((List Int)×Int)))⊕((List Int)×Int)) :=
 (F57v1 fuel p_c).bind fun x1=>outK x1 (fun (y2:Int×Int×(List S_api_EdSheet)×(List S_api_EdEdge)×(List Int)×(List ((List Int)×Int)))=>if (y2.1 != 0) then ((cutN (List.replicate 5 (0:Int)) 0 5).bind fun x4=>(need (x4.length=5)).bind fun x5=>(need (x4.length=5)).bind fun x6=>some (.inr (x4,y2.1))) else (if ((l.length:Int) != (p_c.Sheets.length:Int)) then ((cutN (List.replicate 5 (0:Int)) 0 5).bind fun x8=>(need (x8.length=5)).bind fun x9=>(need (x8.length=5)).bind fun x10=>some (.inr (x8,3))) else ((F59v1L1 fuel p_c l fuel (0,(List.replicate 5 (0:Int)))).bind fun o11=>outK o11 (fun (ro11:(List Int)×Int)=>(need (ro11.1.length=5)).bind fun x29=>some (.inr ro11)) (fun (so11:(List Int))=>(cutN so11 0 5).bind fun x25=>(need (x25.length=5)).bind fun x26=>(need (so11.length=5)).bind fun x27=>(need (x25.length=5)).bind fun x28=>some (.inl (x25,0,y2.2.1,y2.2.2.1,y2.2.2.2.1,y2.2.2.2.2.1,y2.2.2.2.2.2)))))) (fun (y30:Int)=>if (y30 != 0) then ((cutN (List.replicate 5 (0:Int)) 0 5).bind fun x32=>(need (x32.length=5)).bind fun x33=>(need (x32.length=5)).bind fun x34=>some (.inr (x32,y30))) else (if ((l.length:Int) != (p_c.Sheets.length:Int)) then ((cutN (List.replicate 5 (0:Int)) 0 5).bind fun x36=>(need (x36.length=5)).bind fun x37=>(need (x36.length=5)).bind fun x38=>some (.inr (x36,3))) else ((F59v1L2 fuel p_c l fuel (0,(List.replicate 5 (0:Int)))).bind fun o39=>outK o39 (fun (ro39:(List Int)×Int)=>(need (ro39.1.length=5)).bind fun x57=>some (.inr ro39)) (fun (so39:(List Int))=>(cutN so39 0 5).bind fun x53=>(need (x53.length=5)).bind fun x54=>(need (so39.length=5)).bind fun x55=>(need (x53.length=5)).bind fun x56=>some (.inr (x53,0))))))


def F60L1 (fuel:Nat) (p_x:(List Int)) (b0x2:List S_api_EdEdge) (b0x3:List Int):Nat→Int→Option ((Int)⊕(Unit))
 | 0,_=>none
 | n3+1,c2=>if (decide (c2<(b0x2.length:Int))) then ((idx b0x2 c2).bind fun x5=>(need (0≤c2∧c2<8)).bind fun x6=>(b0x3[0+c2.toNat*2]?).bind fun x7=>(need (0≤c2∧c2<8)).bind fun x8=>(b0x3[0+c2.toNat*2+1]?).bind fun x9=>(need (0≤x5.A∧x5.A<5)).bind fun x10=>(p_x[0+x5.A.toNat*1]?).bind fun x11=>(need (0≤x5.B∧x5.B<5)).bind fun x12=>(p_x[0+x5.B.toNat*1]?).bind fun x13=>(F48 fuel x7 x9 ([(w64 (x11-x13))]:List Int)).bind fun x14=>if x14 then (some (.inl c2)) else (F60L1 fuel p_x b0x2 b0x3 n3 (w64 (c2+1)))) else (some (.inr ()))

def F60 (fuel:Nat)  (p_x:(List Int)) (b0x0:Int) (b0x1:List S_api_EdSheet) (b0x2:List S_api_EdEdge) (b0x3:List Int) (m1:List ((List Int)×Int)):Option (Int) :=
 (F60L1 fuel p_x b0x2 b0x3 fuel 0).bind fun o1=>outK o1 (fun (ro1:Int)=>some ro1) (fun (so1:Unit)=>some (-1))


def F20 (fuel:Nat)  (p_c:S_api_EdCase) (l:(List Int)):Option (Int×Int) :=
 (F59v1 fuel p_c l).bind fun x1=>outK x1 (fun (y2:(List Int)×Int×Int×(List S_api_EdSheet)×(List S_api_EdEdge)×(List Int)×(List ((List Int)×Int)))=>(need (y2.1.length=5)).bind fun x3=>if (y2.2.1 != 0) then (some (0,y2.2.1)) else ((cutN y2.1 0 5).bind fun x5=>(F60 fuel x5 y2.2.2.1 y2.2.2.2.1 y2.2.2.2.2.1 y2.2.2.2.2.2.1 y2.2.2.2.2.2.2).bind fun x6=>some (x6,0))) (fun (y7:(List Int)×Int)=>(need (y7.1.length=5)).bind fun x8=>if (y7.2 != 0) then (some (0,y7.2)) else (none))


def F63L1 (p_x:(List Int)) (b0x1:List S_api_EdSheet):Nat→(Int×Int)→Option ((Int×(List ((List Int)×Int)))⊕(Int))
 | 0,_=>none
 | n8+1,c7=>if (decide (c7.2<(b0x1.length:Int))) then ((idx b0x1 c7.2).bind fun x10=>(need (0≤c7.2∧c7.2<5)).bind fun x11=>(p_x[0+c7.2.toNat*1]?).bind fun x12=>(need (0≤c7.2∧c7.2<5)).bind fun x13=>(p_x[0+c7.2.toNat*1]?).bind fun x14=>F63L1 p_x b0x1 n8 ((w64 (c7.1+(w64 (x10.Weight*(if (w64 (0-x14))>x12 then (w64 (0-x14)) else x12))))),(w64 (c7.2+1)))) else (some (.inr c7.1))

def F63 (fuel:Nat)  (p_x:(List Int)) (b0x0:Int) (b0x1:List S_api_EdSheet) (b0x2:List S_api_EdEdge) (b0x3:List Int) (m1:List ((List Int)×Int)):Option (Int×(List ((List Int)×Int))) :=
 (need (b0x3.length=16)).bind fun x1=>(cutN p_x 0 5).bind fun x2=>(need (x2.length=5)).bind fun x3=>(need ((m1.all fun q=>q.1.length==5)=true)).bind fun x4=>if (!(mget eqk101 x2 m1).isSome) then ((F63L1 p_x b0x1 fuel (((mget eqk101 x2 m1).getD 0),0)).bind fun o6=>outK o6 (fun (ro6:Int×(List ((List Int)×Int)))=>some ro6) (fun (so6:Int)=>(need (b0x3.length=16)).bind fun x15=>(cutN p_x 0 5).bind fun x16=>(need (x16.length=5)).bind fun x17=>(need ((m1.all fun q=>q.1.length==5)=true)).bind fun x18=>some (so6,(mset eqk101 x16 so6 m1)))) else (some (((mget eqk101 x2 m1).getD 0),m1))


def F22 (fuel:Nat)  (p_c:S_api_EdCase) (l:(List Int)):Option (Int×Int) :=
 (F59v1 fuel p_c l).bind fun x1=>outK x1 (fun (y2:(List Int)×Int×Int×(List S_api_EdSheet)×(List S_api_EdEdge)×(List Int)×(List ((List Int)×Int)))=>(need (y2.1.length=5)).bind fun x3=>if (y2.2.1 != 0) then (some (0,y2.2.1)) else ((cutN y2.1 0 5).bind fun x5=>(F63 fuel x5 y2.2.2.1 y2.2.2.2.1 y2.2.2.2.2.1 y2.2.2.2.2.2.1 y2.2.2.2.2.2.2).bind fun x6=>some (x6.1,0))) (fun (y7:(List Int)×Int)=>(need (y7.1.length=5)).bind fun x8=>if (y7.2 != 0) then (some (0,y7.2)) else (none))
end Go.Proofs.Ytallnifoeahpiaa
