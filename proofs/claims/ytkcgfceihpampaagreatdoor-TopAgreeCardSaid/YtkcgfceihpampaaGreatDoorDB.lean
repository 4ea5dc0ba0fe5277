/- What functions of the seat compute. Printed by a program of mine. -/
import Derived.Test.YtkcgfceihpampaaGreatDoorP
import Derived.Test.YtkcgfceihpampaaGreatDoorDA
namespace Go.Proofs.YtkcgfceihpampaaGreatDoor
open Go Go.Sx
set_option linter.unusedVariables false


def F69L2 (c2:Int×(List Int)):Nat→(Int×(List Int))→Option (((List Int))⊕((List Int)))
 | 0,_=>none
 | n7+1,c6=>if (decide (c6.1<9)) then (if (cond (c2.1 != c6.1) (c6.1 != 8) false) then ((need (0≤c2.1∧c2.1<9)).bind fun x10=>(need (0≤c6.1∧c6.1<9)).bind fun x11=>(c6.2[0+c2.1.toNat*9+c6.1.toNat*1]?).bind fun x12=>F69L2 c2 n7 ((w64 (c6.1+1)),(c6.2.set (0+c2.1.toNat*9+c6.1.toNat*1) 9000))) else (F69L2 c2 n7 ((w64 (c6.1+1)),c6.2))) else (some (.inr c6.2))

def F69L1 (fuel:Nat):Nat→(Int×(List Int))→Option (((List Int))⊕((List Int)))
 | 0,_=>none
 | n3+1,c2=>if (decide (c2.1<9)) then ((F69L2 c2 fuel (0,c2.2)).bind fun o5=>outK o5 (fun (ro5:(List Int))=>some (.inl ro5)) (fun (so5:(List Int))=>F69L1 fuel n3 ((w64 (c2.1+1)),so5))) else (some (.inr c2.2))

def F69 (fuel:Nat)   : Option ((List Int)) :=
 (F69L1 fuel fuel (0,(List.replicate 81 (0:Int)))).bind fun o1=>outK o1 (fun (ro1:(List Int))=>(need (ro1.length=81)).bind fun x17=>some ro1) (fun (so1:(List Int))=>(cutN so1 0 81).bind fun x13=>(need (x13.length=81)).bind fun x14=>(need (so1.length=81)).bind fun x15=>(need (x13.length=81)).bind fun x16=>some x13)


def F141v1  (p_s:S_sheet_sheet) (i:Int) (wider:Int):Option (Int×(List ByteArray)×(List S_api_ShNote)×Int×Int) :=
 some (p_s.ShSheet.Interval,p_s.ShSheet.Points,p_s.ShSheet.Notes,i,wider)


def F114L2 (from_:Int) (to_:Int) (most:Int) (c10:Int×(List Int)):Nat→(Int×(List Int))→Option ((Bool×(List Int))⊕((List Int)))
 | 0,_=>none
 | n15+1,c14=>if (decide (c14.1<9)) then ((need (0≤c10.1∧c10.1<9)).bind fun x17=>(need (0≤c14.1∧c14.1<9)).bind fun x18=>(c14.2[0+c10.1.toNat*9+c14.1.toNat*1]?).bind fun x19=>(need (0≤c10.1∧c10.1<9)).bind fun x20=>(need (0≤from_∧from_<9)).bind fun x21=>(c14.2[0+c10.1.toNat*9+from_.toNat*1]?).bind fun x22=>(need (0≤to_∧to_<9)).bind fun x23=>(need (0≤c14.1∧c14.1<9)).bind fun x24=>(c14.2[0+to_.toNat*9+c14.1.toNat*1]?).bind fun x25=>(need (0≤c10.1∧c10.1<9)).bind fun x26=>(need (0≤c14.1∧c14.1<9)).bind fun x27=>(c14.2[0+c10.1.toNat*9+c14.1.toNat*1]?).bind fun x28=>F114L2 from_ to_ most c10 n15 ((w64 (c14.1+1)),(c14.2.set (0+c10.1.toNat*9+c14.1.toNat*1) (if (w64 ((w64 (x22+most))+x25))<x19 then (w64 ((w64 (x22+most))+x25)) else x19)))) else (some (.inr c14.2))

def F114L1 (fuel:Nat) (from_:Int) (to_:Int) (most:Int):Nat→(Int×(List Int))→Option ((Bool×(List Int))⊕((List Int)))
 | 0,_=>none
 | n11+1,c10=>if (decide (c10.1<9)) then ((F114L2 from_ to_ most c10 fuel (0,c10.2)).bind fun o13=>outK o13 (fun (ro13:Bool×(List Int))=>some (.inl ro13)) (fun (so13:(List Int))=>F114L1 fuel from_ to_ most n11 ((w64 (c10.1+1)),so13))) else (some (.inr c10.2))

def F114 (fuel:Nat)  (from_:Int) (to_:Int) (most:Int) (b0x0:List Int):Option (Bool×(List Int)) :=
 (need (0≤from_∧from_<9)).bind fun x1=>(need (0≤to_∧to_<9)).bind fun x2=>(b0x0[0+from_.toNat*9+to_.toNat*1]?).bind fun x3=>if (decide (most≥x3)) then (some (true,b0x0)) else ((need (0≤to_∧to_<9)).bind fun x5=>(need (0≤from_∧from_<9)).bind fun x6=>(b0x0[0+to_.toNat*9+from_.toNat*1]?).bind fun x7=>if (decide ((w64 (most+x7))<0)) then (some (false,b0x0)) else ((F114L1 fuel from_ to_ most fuel (0,b0x0)).bind fun o9=>outK o9 (fun (ro9:Bool×(List Int))=>some ro9) (fun (so9:(List Int))=>some (true,so9))))


def F70r (fuel:Nat)  (y1x0:Int) (y1x1:Int) (y1x2:Int) (b1x0:List Int) (b2x0:List Int) (b3x0:Bool):Option (Bool×(List Int)×(List Int)×Bool) :=
 (F114 fuel y1x0 y1x1 y1x2 b1x0).bind fun x1=>if (!x1.1) then ((cutN x1.2 0 81).bind fun x3=>(need (x3.length=81)).bind fun x4=>(need (b2x0.length=81)).bind fun x5=>some (false,x1.2,x3,false)) else (some (true,x1.2,b2x0,b3x0))


def F190 (fuel:Nat)  (b1x0:List Int) (b2x0:List Int) (b3x0:Bool) (b4x0:Int) (b4x1:List ByteArray) (b4x2:List S_api_ShNote) (b5x0:Int) (b6x0:Int):Option (Bool×(List Int)×(List Int)×Bool) :=
 (idx b4x2 b5x0).bind fun x1=>(F178 x1).bind fun x2=>(if (x2.1==some 287) then (some (.inr (8,x1.By.Lo,x1.By.Hi))) else (if (x2.1==some 288) then (some (.inr (8,(w64 (x1.By.Lo*b4x0)),(w64 (x1.By.Hi*b4x0))))) else (some (.inr (x1.B,x1.By.Lo,x1.By.Hi))))).bind fun o3=>outK o3 (fun (ro3:Bool×(List Int)×(List Int)×Bool)=>some ro3) (fun (so3:Int×Int×Int)=>(F70r fuel so3.1 x1.A (w64 (so3.2.2+b6x0)) b1x0 b2x0 b3x0).bind fun x6=>if x6.1 then ((F70r fuel x1.A so3.1 (w64 (b6x0-so3.2.1)) x6.2.1 x6.2.2.1 x6.2.2.2).bind fun x8=>some (x8.1,x8.2.1,x8.2.2.1,x8.2.2.2)) else (some (x6.1,x6.2.1,x6.2.2.1,x6.2.2.2)))


def F70 (fuel:Nat)  (p_s:S_sheet_sheet) (p_b:(List Int)) (i:Int) (wider:Int):Option ((List Int)×Bool) :=
 (F141v1 p_s i wider).bind fun x1=>(F190 fuel p_b (List.replicate 81 (0:Int)) false x1.1 x1.2.1 x1.2.2.1 x1.2.2.2.1 x1.2.2.2.2).bind fun x2=>if x2.1 then ((cutN x2.2.1 0 81).bind fun x4=>(need (x4.length=81)).bind fun x5=>(need (x2.2.2.1.length=81)).bind fun x6=>(need (x4.length=81)).bind fun x7=>some (x4,true)) else ((need (x2.2.2.1.length=81)).bind fun x8=>some (x2.2.2.1,x2.2.2.2))
end Go.Proofs.YtkcgfceihpampaaGreatDoor
