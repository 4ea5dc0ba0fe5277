/- What functions of the seat compute. Printed by a program of mine. -/
import Derived.Test.YtallnifoeahpiaaP
import Derived.Test.YtallnifoeahpiaaDEB
import Derived.Test.YtallnifoeahpiaaDEC
import Derived.Test.YtallnifoeahpiaaDED
namespace Go.Proofs.Ytallnifoeahpiaa
open Go Go.Sx
set_option linter.unusedVariables false


def F89  (p_x:(List Int)) (b0x0:Int) (b0x1:List S_api_EdSheet) (b0x2:List S_api_EdEdge) (b0x3:List Int) (m1:List ((List Int)×Int)):Option ((List Int)) :=
 some p_x


def F88r (fuel:Nat)  (y1x0:List Int) (b1x0:List Int) (b3x0:Int) (b3x1:List S_api_EdSheet) (b3x2:List S_api_EdEdge) (b3x3:List Int) (m4:List ((List Int)×Int)) (b5x0:Int):Option ((List Int)×(List ((List Int)×Int))×Int) :=
 (need (y1x0.length=5)).bind fun x1=>(cutN y1x0 0 5).bind fun x2=>(F63 fuel x2 b3x0 b3x1 b3x2 b3x3 m4).bind fun x3=>if (decide (x3.1<b5x0)) then ((cutN y1x0 0 5).bind fun x5=>(need (x5.length=5)).bind fun x6=>(need (b1x0.length=5)).bind fun x7=>some (x5,x3.2,x3.1)) else (some (b1x0,x3.2,b5x0))


def F103L2 (b3x1:List S_api_EdSheet) (c2:Int×(List Int)×(List ((List Int)×Int))×Int):Nat→(Int×(List Int))→Option (((List Int)×(List ((List Int)×Int))×Int)⊕(((List Int))⊕((List Int))))
 | 0,_=>none
 | n10+1,c9=>if (decide (c9.1<(b3x1.length:Int))) then ((idx b3x1 c9.1).bind fun x12=>(need (0≤c9.1)).bind fun x13=>if ((Go.bits .and .i64 (c2.1 / 2^min c9.1.toNat 64) 1)==0) then (F103L2 b3x1 c2 n10 ((w64 (c9.1+1)),c9.2)) else ((need (0≤c9.1∧c9.1<5)).bind fun x15=>(c9.2[0+c9.1.toNat*1]?).bind fun x16=>(need (0≤c9.1∧c9.1<5)).bind fun x17=>(c9.2[0+c9.1.toNat*1]?).bind fun x18=>(need (0≤c9.1∧c9.1<5)).bind fun x19=>((c9.2.set (0+c9.1.toNat*1) (w64 (x16-1)))[0+c9.1.toNat*1]?).bind fun x20=>if (decide (x20<(w64 (0-x12.Most)))) then (some (.inr (.inl (c9.2.set (0+c9.1.toNat*1) (w64 (x16-1)))))) else (F103L2 b3x1 c2 n10 ((w64 (c9.1+1)),(c9.2.set (0+c9.1.toNat*1) (w64 (x16-1))))))) else (some (.inr (.inr c9.2)))

def F103L1 (fuel:Nat) (b3x0:Int) (b3x1:List S_api_EdSheet) (b3x2:List S_api_EdEdge) (b3x3:List Int) (b7x0:List Int):Nat→(Int×(List Int)×(List ((List Int)×Int))×Int)→Option (((List Int)×(List ((List Int)×Int))×Int)⊕((List Int)×(List ((List Int)×Int))×Int))
 | 0,_=>none
 | n3+1,c2=>(need (0≤(b3x1.length:Int))).bind fun x4=>if (decide (c2.1<(w64 ((1:Int)*2^min (b3x1.length:Int).toNat 64)))) then ((cutN b7x0 0 5).bind fun x6=>(need (x6.length=5)).bind fun x7=>(F103L2 b3x1 c2 fuel (0,x6)).bind fun o8=>outK o8 (fun (ro8:(List Int)×(List ((List Int)×Int))×Int)=>some (.inl ro8)) (fun yo8=>outK yo8 (fun (qo8:(List Int))=>F103L1 fuel b3x0 b3x1 b3x2 b3x3 b7x0 n3 ((w64 (c2.1+1)),c2.2.1,c2.2.2.1,c2.2.2.2)) (fun (so8:(List Int))=>(cutN so8 0 5).bind fun x22=>(F60 fuel x22 b3x0 b3x1 b3x2 b3x3 c2.2.2.1).bind fun x23=>(optG (decide (x23<0)) (cutN so8 0 5)).bind fun x24=>(optG (decide (x23<0)) (F88r fuel x24 c2.2.1 b3x0 b3x1 b3x2 b3x3 c2.2.2.1 c2.2.2.2)).bind fun x25=>if (cond (decide (x23<0)) false false) then (some (.inl ((cond (decide (x23<0)) x25.1 c2.2.1),(cond (decide (x23<0)) x25.2.1 c2.2.2.1),(cond (decide (x23<0)) x25.2.2 c2.2.2.2)))) else (F103L1 fuel b3x0 b3x1 b3x2 b3x3 b7x0 n3 ((w64 (c2.1+1)),(cond (decide (x23<0)) x25.1 c2.2.1),(cond (decide (x23<0)) x25.2.1 c2.2.2.1),(cond (decide (x23<0)) x25.2.2 c2.2.2.2)))))) else (some (.inr (c2.2.1,c2.2.2.1,c2.2.2.2)))

def F103 (fuel:Nat)  (b1x0:List Int) (b3x0:Int) (b3x1:List S_api_EdSheet) (b3x2:List S_api_EdEdge) (b3x3:List Int) (m4:List ((List Int)×Int)) (b5x0:Int) (b7x0:List Int):Option ((List Int)×(List ((List Int)×Int))×Int) :=
 (F103L1 fuel b3x0 b3x1 b3x2 b3x3 b7x0 fuel (1,b1x0,m4,b5x0)).bind fun o1=>outK o1 (fun (ro1:(List Int)×(List ((List Int)×Int))×Int)=>some ro1) (fun (so1:(List Int)×(List ((List Int)×Int))×Int)=>some (so1.1,so1.2.1,so1.2.2))


def F88 (fuel:Nat)  (first:(List Int)) (b1x0:Int) (b1x1:List S_api_EdSheet) (b1x2:List S_api_EdEdge) (b1x3:List Int) (m2:List ((List Int)×Int)) (b3x0:List Int):Option ((List Int)×Int×(List ((List Int)×Int))) :=
 (cutN first 0 5).bind fun x1=>(F63 fuel x1 b1x0 b1x1 b1x2 b1x3 m2).bind fun x2=>(F103 fuel first b1x0 b1x1 b1x2 b1x3 x2.2 x2.1 b3x0).bind fun x3=>(cutN x3.1 0 5).bind fun x4=>(need (x4.length=5)).bind fun x5=>(need (x4.length=5)).bind fun x6=>some (x4,x3.2.2,x3.2.1)


def F66r (fuel:Nat)  (y1x0:List Int) (b2x0:Int) (b2x1:List S_api_EdSheet) (b2x2:List S_api_EdEdge) (b2x3:List Int) (m3:List ((List Int)×Int)) (b4x0:List Int) (b5x0:Bool):Option (Bool×(List ((List Int)×Int))×(List Int)×Bool) :=
 (need (y1x0.length=5)).bind fun x1=>(cutN y1x0 0 5).bind fun x2=>(F63 fuel x2 b2x0 b2x1 b2x2 b2x3 m3).bind fun x3=>(cutN b4x0 0 5).bind fun x4=>(F63 fuel x4 b2x0 b2x1 b2x2 b2x3 x3.2).bind fun x5=>if (x3.1==x5.1) then ((cutN y1x0 0 5).bind fun x7=>(need (x7.length=5)).bind fun x8=>(need (b4x0.length=5)).bind fun x9=>some (false,x5.2,x7,true)) else (some (true,x5.2,b4x0,b5x0))


def F103v1L2 (b2x1:List S_api_EdSheet) (c2:Int×(List ((List Int)×Int))×(List Int)×Bool):Nat→(Int×(List Int))→Option ((Bool×(List ((List Int)×Int))×(List Int)×Bool)⊕(((List Int))⊕((List Int))))
 | 0,_=>none
 | n10+1,c9=>if (decide (c9.1<(b2x1.length:Int))) then ((idx b2x1 c9.1).bind fun x12=>(need (0≤c9.1)).bind fun x13=>if ((Go.bits .and .i64 (c2.1 / 2^min c9.1.toNat 64) 1)==0) then (F103v1L2 b2x1 c2 n10 ((w64 (c9.1+1)),c9.2)) else ((need (0≤c9.1∧c9.1<5)).bind fun x15=>(c9.2[0+c9.1.toNat*1]?).bind fun x16=>(need (0≤c9.1∧c9.1<5)).bind fun x17=>(c9.2[0+c9.1.toNat*1]?).bind fun x18=>(need (0≤c9.1∧c9.1<5)).bind fun x19=>((c9.2.set (0+c9.1.toNat*1) (w64 (x16-1)))[0+c9.1.toNat*1]?).bind fun x20=>if (decide (x20<(w64 (0-x12.Most)))) then (some (.inr (.inl (c9.2.set (0+c9.1.toNat*1) (w64 (x16-1)))))) else (F103v1L2 b2x1 c2 n10 ((w64 (c9.1+1)),(c9.2.set (0+c9.1.toNat*1) (w64 (x16-1))))))) else (some (.inr (.inr c9.2)))

def F103v1L1 (fuel:Nat) (b2x0:Int) (b2x1:List S_api_EdSheet) (b2x2:List S_api_EdEdge) (b2x3:List Int) (b7x0:List Int):Nat→(Int×(List ((List Int)×Int))×(List Int)×Bool)→Option ((Bool×(List ((List Int)×Int))×(List Int)×Bool)⊕((List ((List Int)×Int))×(List Int)×Bool))
 | 0,_=>none
 | n3+1,c2=>(need (0≤(b2x1.length:Int))).bind fun x4=>if (decide (c2.1<(w64 ((1:Int)*2^min (b2x1.length:Int).toNat 64)))) then ((cutN b7x0 0 5).bind fun x6=>(need (x6.length=5)).bind fun x7=>(F103v1L2 b2x1 c2 fuel (0,x6)).bind fun o8=>outK o8 (fun (ro8:Bool×(List ((List Int)×Int))×(List Int)×Bool)=>some (.inl ro8)) (fun yo8=>outK yo8 (fun (qo8:(List Int))=>F103v1L1 fuel b2x0 b2x1 b2x2 b2x3 b7x0 n3 ((w64 (c2.1+1)),c2.2.1,c2.2.2.1,c2.2.2.2)) (fun (so8:(List Int))=>(cutN so8 0 5).bind fun x22=>(F60 fuel x22 b2x0 b2x1 b2x2 b2x3 c2.2.1).bind fun x23=>(optG (decide (x23<0)) (cutN so8 0 5)).bind fun x24=>(optG (decide (x23<0)) (F66r fuel x24 b2x0 b2x1 b2x2 b2x3 c2.2.1 c2.2.2.1 c2.2.2.2)).bind fun x25=>if (cond (decide (x23<0)) (!x25.1) false) then (some (.inl ((cond (decide (x23<0)) x25.1 true),(cond (decide (x23<0)) x25.2.1 c2.2.1),(cond (decide (x23<0)) x25.2.2.1 c2.2.2.1),(cond (decide (x23<0)) x25.2.2.2 c2.2.2.2)))) else (F103v1L1 fuel b2x0 b2x1 b2x2 b2x3 b7x0 n3 ((w64 (c2.1+1)),(cond (decide (x23<0)) x25.2.1 c2.2.1),(cond (decide (x23<0)) x25.2.2.1 c2.2.2.1),(cond (decide (x23<0)) x25.2.2.2 c2.2.2.2)))))) else (some (.inr (c2.2.1,c2.2.2.1,c2.2.2.2)))

def F103v1 (fuel:Nat)  (b2x0:Int) (b2x1:List S_api_EdSheet) (b2x2:List S_api_EdEdge) (b2x3:List Int) (m3:List ((List Int)×Int)) (b4x0:List Int) (b5x0:Bool) (b7x0:List Int):Option (Bool×(List ((List Int)×Int))×(List Int)×Bool) :=
 (F103v1L1 fuel b2x0 b2x1 b2x2 b2x3 b7x0 fuel (1,m3,b4x0,b5x0)).bind fun o1=>outK o1 (fun (ro1:Bool×(List ((List Int)×Int))×(List Int)×Bool)=>some ro1) (fun (so1:(List ((List Int)×Int))×(List Int)×Bool)=>some (true,so1.1,so1.2.1,so1.2.2))


def F66L1 (fuel:Nat) (b0x0:Int) (b0x1:List S_api_EdSheet) (b0x2:List S_api_EdEdge) (b0x3:List Int):Nat→((List ((List Int)×Int))×(List Int)×(List Int))→Option (((List Int)×Bool×(List ((List Int)×Int)))⊕((List ((List Int)×Int))×(List Int)×(List Int)))
 | 0,_=>none
 | n15+1,c14=>(cutN c14.2.2 0 5).bind fun x16=>(cutN c14.2.1 0 5).bind fun x17=>(need (x16.length=5)).bind fun x18=>(need (x17.length=5)).bind fun x19=>if (!(x16==x17)) then ((cutN c14.2.2 0 5).bind fun x21=>(need (x21.length=5)).bind fun x22=>(need (c14.2.1.length=5)).bind fun x23=>(cutN c14.2.2 0 5).bind fun x24=>(need (x24.length=5)).bind fun x25=>(cutN x21 0 5).bind fun x26=>(cutN x21 0 5).bind fun x27=>(F89 x27 b0x0 b0x1 b0x2 b0x3 c14.1).bind fun x28=>(F88 fuel x26 b0x0 b0x1 b0x2 b0x3 c14.1 x28).bind fun x29=>(need (x29.1.length=5)).bind fun x30=>(need (x24.length=5)).bind fun x31=>F66L1 fuel b0x0 b0x1 b0x2 b0x3 n15 (x29.2.2,x21,x29.1)) else (some (.inr (c14.1,c14.2.1,c14.2.2)))

def F66L2 (fuel:Nat) (b0x0:Int) (b0x1:List S_api_EdSheet) (b0x2:List S_api_EdEdge) (b0x3:List Int):Nat→((List ((List Int)×Int))×(List Int)×Bool)→Option (((List Int)×Bool×(List ((List Int)×Int)))⊕((List ((List Int)×Int))×(List Int)×Bool))
 | 0,_=>none
 | n34+1,c33=>if c33.2.2 then ((cutN c33.2.1 0 5).bind fun x36=>(F89 x36 b0x0 b0x1 b0x2 b0x3 c33.1).bind fun x37=>(F103v1 fuel b0x0 b0x1 b0x2 b0x3 c33.1 c33.2.1 false x37).bind fun x38=>if x38.1 then (F66L2 fuel b0x0 b0x1 b0x2 b0x3 n34 (x38.2.1,x38.2.2.1,x38.2.2.2)) else (F66L2 fuel b0x0 b0x1 b0x2 b0x3 n34 (x38.2.1,x38.2.2.1,x38.2.2.2))) else (some (.inr (c33.1,c33.2.1,c33.2.2)))

def F66 (fuel:Nat)  (b0x0:Int) (b0x1:List S_api_EdSheet) (b0x2:List S_api_EdEdge) (b0x3:List Int) (m1:List ((List Int)×Int)):Option ((List Int)×Bool×(List ((List Int)×Int))) :=
 (F64 fuel (b0x1.length:Int) 0 b0x0 b0x1 b0x2 b0x3 m1).bind fun x1=>if (!(Nat.beq x1.2.length 0)) then ((cutN (List.replicate 5 (0:Int)) 0 5).bind fun x3=>(need (x3.length=5)).bind fun x4=>(need (x3.length=5)).bind fun x5=>some (x3,false,m1)) else ((need ((List.replicate 5 (0:Int)).length=5)).bind fun x6=>(sub x1.1 0 (b0x1.length:Int)).bind fun x7=>(cutN (x7.take (List.replicate 5 (0:Int)).length++(List.replicate 5 (0:Int)).drop x7.length:List Int) 0 5).bind fun x8=>(cutN (x7.take (List.replicate 5 (0:Int)).length++(List.replicate 5 (0:Int)).drop x7.length:List Int) 0 5).bind fun x9=>(F89 x9 b0x0 b0x1 b0x2 b0x3 m1).bind fun x10=>(F88 fuel x8 b0x0 b0x1 b0x2 b0x3 m1 x10).bind fun x11=>(need (x11.1.length=5)).bind fun x12=>(F66L1 fuel b0x0 b0x1 b0x2 b0x3 fuel (x11.2.2,(x7.take (List.replicate 5 (0:Int)).length++(List.replicate 5 (0:Int)).drop x7.length:List Int),x11.1)).bind fun o13=>outK o13 (fun (ro13:(List Int)×Bool×(List ((List Int)×Int)))=>(need (ro13.1.length=5)).bind fun x45=>some ro13) (fun (so13:(List ((List Int)×Int))×(List Int)×(List Int))=>(F66L2 fuel b0x0 b0x1 b0x2 b0x3 fuel (so13.1,so13.2.1,true)).bind fun o32=>outK o32 (fun (ro32:(List Int)×Bool×(List ((List Int)×Int)))=>(need (ro32.1.length=5)).bind fun x44=>some ro32) (fun (so32:(List ((List Int)×Int))×(List Int)×Bool)=>(cutN so32.2.1 0 5).bind fun x40=>(need (x40.length=5)).bind fun x41=>(need (so32.2.1.length=5)).bind fun x42=>(need (x40.length=5)).bind fun x43=>some (x40,true,so32.1))))


def F67  (p_s:(List Int)):Option ((List Int)) :=
 (need (0<p_s.length)).bind fun x1=>(need ((([]:List Int).length+p_s.length)*8≤140737488355328∧([]:List Int).length+p_s.length≤9223372036854775807)).bind fun x2=>some (([]:List Int)++p_s)


def F27 (fuel:Nat)  (p_c:S_api_EdCase):Option ((List Int)×Int×Int) :=
 (F57v1 fuel p_c).bind fun x1=>outK x1 (fun (y2:Int×Int×(List S_api_EdSheet)×(List S_api_EdEdge)×(List Int)×(List ((List Int)×Int)))=>if (y2.1 != 0) then (some (([]:List Int),0,y2.1)) else ((F66 fuel y2.2.1 y2.2.2.1 y2.2.2.2.1 y2.2.2.2.2.1 y2.2.2.2.2.2).bind fun x4=>(need (x4.1.length=5)).bind fun x5=>if (!x4.2.1) then (some (([]:List Int),0,9)) else ((sub x4.1 0 (p_c.Sheets.length:Int)).bind fun x7=>(need (x4.1.length=5)).bind fun x8=>(F67 x7).bind fun x9=>(cutN x4.1 0 5).bind fun x10=>(F63 fuel x10 y2.2.1 y2.2.2.1 y2.2.2.2.1 y2.2.2.2.2.1 x4.2.2).bind fun x11=>some (x9,x11.1,0)))) (fun (y12:Int)=>if (y12 != 0) then (some (([]:List Int),0,y12)) else (none))
end Go.Proofs.Ytallnifoeahpiaa
