/- What functions of the seat compute. Printed by a program of mine. -/
import Derived.Test.YtkcgfceihpampaaGreatDoorP
import Derived.Test.YtkcgfceihpampaaGreatDoorDK
namespace Go.Proofs.YtkcgfceihpampaaGreatDoor
open Go Go.Sx
set_option linter.unusedVariables false


def F133v1  (p_x:S_carve_row):Option (Int×(List S_api_CvPoint)) :=
 some (p_x.CvRow.Steep,p_x.CvRow.Points)


def F64r  (y1:Int) (y2:Int) (b1x0:Int) (b1x1:List S_api_CvPoint) (a3:List S_api_Span):Option ((List S_api_Span)) :=
 (idx a3 y2).bind fun x1=>(idx a3 y1).bind fun x2=>(idx a3 y2).bind fun x3=>(idx (a3.set y2.toNat (⟨(if (w64 (x2.Lo-b1x0))>x1.Lo then (w64 (x2.Lo-b1x0)) else x1.Lo),x3.Hi⟩:S_api_Span)) y2).bind fun x4=>(idx (a3.set y2.toNat (⟨(if (w64 (x2.Lo-b1x0))>x1.Lo then (w64 (x2.Lo-b1x0)) else x1.Lo),x3.Hi⟩:S_api_Span)) y1).bind fun x5=>(idx (a3.set y2.toNat (⟨(if (w64 (x2.Lo-b1x0))>x1.Lo then (w64 (x2.Lo-b1x0)) else x1.Lo),x3.Hi⟩:S_api_Span)) y2).bind fun x6=>some ((a3.set y2.toNat (⟨(if (w64 (x2.Lo-b1x0))>x1.Lo then (w64 (x2.Lo-b1x0)) else x1.Lo),x3.Hi⟩:S_api_Span)).set y2.toNat (⟨x6.Lo,(if (w64 (x5.Hi+b1x0))<x4.Hi then (w64 (x5.Hi+b1x0)) else x4.Hi)⟩:S_api_Span))


def F188L1 (b1x0:Int) (b1x1:List S_api_CvPoint) (b4x1:List S_api_CvPoint):Nat→(Int×(List S_api_Span))→Option (((List S_api_Span))⊕((List S_api_Span)))
 | 0,_=>none
 | n3+1,c2=>if (decide (c2.1<(b4x1.length:Int))) then ((F64r (w64 (c2.1-1)) c2.1 b1x0 b1x1 c2.2).bind fun x5=>F188L1 b1x0 b1x1 b4x1 n3 ((w64 (c2.1+1)),x5)) else (some (.inr c2.2))

def F188L2 (b1x0:Int) (b1x1:List S_api_CvPoint):Nat→(Int×(List S_api_Span))→Option (((List S_api_Span))⊕((List S_api_Span)))
 | 0,_=>none
 | n8+1,c7=>if (decide (c7.1>0)) then ((F64r c7.1 (w64 (c7.1-1)) b1x0 b1x1 c7.2).bind fun x10=>F188L2 b1x0 b1x1 n8 ((w64 (c7.1-1)),x10)) else (some (.inr c7.2))

def F188 (fuel:Nat)  (b1x0:Int) (b1x1:List S_api_CvPoint) (a3:List S_api_Span) (b4x0:Int) (b4x1:List S_api_CvPoint):Option ((List S_api_Span)) :=
 (F188L1 b1x0 b1x1 b4x1 fuel (1,a3)).bind fun o1=>outK o1 (fun (ro1:(List S_api_Span))=>some ro1) (fun (so1:(List S_api_Span))=>(F188L2 b1x0 b1x1 fuel ((w64 ((b4x1.length:Int)-1)),so1)).bind fun o6=>outK o6 (fun (ro6:(List S_api_Span))=>some ro6) (fun (so6:(List S_api_Span))=>some so6))


def F135  (p_s:S_api_Span):Option (Bool) :=
 some (decide (p_s.Lo>p_s.Hi))


def F189L1 (a0:List S_api_Span):Nat→Int→Option ((Int)⊕(Unit))
 | 0,_=>none
 | n3+1,c2=>if (decide (c2<(a0.length:Int))) then ((idx a0 c2).bind fun x5=>(F135 x5).bind fun x6=>if x6 then (some (.inl c2)) else (F189L1 a0 n3 (w64 (c2+1)))) else (some (.inr ()))

def F189 (fuel:Nat)  (a0:List S_api_Span):Option (Int) :=
 (F189L1 a0 fuel 0).bind fun o1=>outK o1 (fun (ro1:Int)=>some ro1) (fun (so1:Unit)=>some (-1))


def F134 (fuel:Nat)  (a0:List S_api_Span):Option (Bool) :=
 (F189 fuel a0).bind fun x1=>some (decide (x1≥0))


def F64L1 (p_x:S_carve_row):Nat→(Int×(List S_api_Span))→Option (((List S_api_Span)×Bool)⊕((List S_api_Span)))
 | 0,_=>none
 | n4+1,c3=>if (decide (c3.1<(p_x.CvRow.Points.length:Int))) then ((idx p_x.CvRow.Points c3.1).bind fun x6=>(idx c3.2 c3.1).bind fun x7=>F64L1 p_x n4 ((w64 (c3.1+1)),(c3.2.set c3.1.toNat (⟨x6.Lo,x6.Hi⟩:S_api_Span)))) else (some (.inr c3.2))

def F64 (fuel:Nat)  (p_x:S_carve_row):Option ((List S_api_Span)×Bool) :=
 (need (0≤(p_x.CvRow.Points.length:Int)∧(p_x.CvRow.Points.length:Int)*16≤140737488355328∧(p_x.CvRow.Points.length:Int)≤9223372036854775807)).bind fun x1=>(F64L1 p_x fuel (0,(List.replicate (p_x.CvRow.Points.length:Int).toNat ((⟨0,0⟩:S_api_Span):S_api_Span)))).bind fun o2=>outK o2 (fun (ro2:(List S_api_Span)×Bool)=>some ro2) (fun (so2:(List S_api_Span))=>(F133v1 p_x).bind fun x8=>(F188 fuel p_x.CvRow.Steep p_x.CvRow.Points so2 x8.1 x8.2).bind fun x9=>(F134 fuel x9).bind fun x10=>some (x9,(!x10)))


def F11 (fuel:Nat)  (p_r:S_api_CvRow):Option ((List S_api_Span)×Int) :=
 (F63 fuel p_r).bind fun x1=>if (x1.2.2 != 0) then (some (([]:List S_api_Span),x1.2.2)) else ((F64 fuel (⟨p_r⟩:S_carve_row)).bind fun x3=>if (!x3.2) then (some (([]:List S_api_Span),9)) else (some (x3.1,0)))


def F68 (fuel:Nat)  (p_x:S_carve_row):Option (Bool) :=
 (F64 fuel p_x).bind fun x1=>some x1.2


def F67 (fuel:Nat)  (steep:Int) (b0x0:Int) (b0x1:List S_api_CvPoint):Option (Bool) :=
 (F68 fuel (⟨(⟨steep,b0x1⟩:S_api_CvRow)⟩:S_carve_row)).bind fun x1=>some x1


def F66L1 (fuel:Nat) (b0x0:Int) (b0x1:List S_api_CvPoint):Nat→(Int×Int)→Option ((Int)⊕(Int))
 | 0,_=>none
 | n3+1,c2=>if (decide (c2.1<c2.2)) then ((F67 fuel (w64 ((w64 (c2.1+c2.2)).tdiv 2)) b0x0 b0x1).bind fun x5=>if x5 then (F66L1 fuel b0x0 b0x1 n3 (c2.1,(w64 ((w64 (c2.1+c2.2)).tdiv 2)))) else (F66L1 fuel b0x0 b0x1 n3 ((w64 ((w64 ((w64 (c2.1+c2.2)).tdiv 2))+1)),c2.2))) else (some (.inr c2.1))

def F66 (fuel:Nat)  (last:Int) (b0x0:Int) (b0x1:List S_api_CvPoint):Option (Int) :=
 (F66L1 fuel b0x0 b0x1 fuel (0,last)).bind fun o1=>outK o1 (fun (ro1:Int)=>some ro1) (fun (so1:Int)=>some so1)


def F13 (fuel:Nat)  (p_r:S_api_CvRow):Option (Int×Int) :=
 (F63 fuel p_r).bind fun x1=>if (x1.2.2 != 0) then (some (0,x1.2.2)) else ((F66 fuel 9000 p_r.Steep p_r.Points).bind fun x3=>some (x3,0))
end Go.Proofs.YtkcgfceihpampaaGreatDoor
