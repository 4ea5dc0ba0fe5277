/- What functions of the seat compute. Printed by a program of mine. -/
import Derived.Test.YtkcgfceihpampaaGreatDoorP
import Derived.Test.YtkcgfceihpampaaGreatDoorDK
import Derived.Test.YtkcgfceihpampaaGreatDoorDL
import Derived.Test.YtkcgfceihpampaaGreatDoorDU
namespace Go.Proofs.YtkcgfceihpampaaGreatDoor
open Go Go.Sx
set_option linter.unusedVariables false


def F51  (steep:Int):Option (S_api_CvRow) :=
 some (⟨steep,([(⟨10,4,8⟩:S_api_CvPoint),(⟨10,9,12⟩:S_api_CvPoint),(⟨6,7,9⟩:S_api_CvPoint),(⟨12,3,6⟩:S_api_CvPoint)]:List S_api_CvPoint)⟩:S_api_CvRow)


def F124 (fuel:Nat)  (p_r:S_api_CvRow) (surface:(List Int)):Option (S_carve_row×Int) :=
 (F63 fuel p_r).bind fun x1=>if (x1.2.2 != 0) then (some ((⟨(⟨0,([]:List S_api_CvPoint)⟩:S_api_CvRow)⟩:S_carve_row),x1.2.2)) else (if ((surface.length:Int) != (p_r.Points.length:Int)) then (some ((⟨(⟨0,([]:List S_api_CvPoint)⟩:S_api_CvRow)⟩:S_carve_row),3)) else ((F125 fuel 0 9000 surface).bind fun x4=>if x4 then (some ((⟨(⟨0,([]:List S_api_CvPoint)⟩:S_api_CvRow)⟩:S_carve_row),7)) else (some ((⟨p_r⟩:S_carve_row),0))))


def F52L1 (fuel:Nat) (p_r:S_api_CvRow) (surface:(List Int)) (x1:S_carve_row×Int):Nat→Int→Option ((Int×Int×Int)⊕(Unit))
 | 0,_=>none
 | n5+1,c4=>if (decide (c4<(x1.1.CvRow.Points.length:Int))) then ((idx x1.1.CvRow.Points c4).bind fun x7=>(idx surface c4).bind fun x8=>if (decide (x8<x7.Lo)) then (some (.inl (c4,1,0))) else (if (decide (x8>x7.Hi)) then (some (.inl (c4,2,0))) else ((optG (decide (c4>0)) (idx surface (w64 (c4-1)))).bind fun x11=>(optG (decide (c4>0)) (F125 fuel (w64 (x8-p_r.Steep)) (w64 (x8+p_r.Steep)) ([x11]:List Int))).bind fun x12=>if (cond (decide (c4>0)) x12 false) then (some (.inl (c4,3,0))) else (F52L1 fuel p_r surface x1 n5 (w64 (c4+1)))))) else (some (.inr ()))

def F52 (fuel:Nat)  (p_r:S_api_CvRow) (surface:(List Int)):Option (Int×Int×Int) :=
 (F124 fuel p_r surface).bind fun x1=>if (x1.2 != 0) then (some (0,0,x1.2)) else ((F52L1 fuel p_r surface x1 fuel 0).bind fun o3=>outK o3 (fun (ro3:Int×Int×Int)=>some ro3) (fun (so3:Unit)=>some (0,0,0)))


def F53L2 (fuel:Nat) (p_r:S_api_CvRow) (c4:Int):Nat→(Int×(List S_api_CvPoint))→Option ((Int×Int×Int)⊕(Unit))
 | 0,_=>none
 | n12+1,c11=>(sub p_r.Points c11.1 (w64 (c4+1))).bind fun x13=>(F68 fuel (⟨(⟨p_r.Steep,x13⟩:S_api_CvRow)⟩:S_carve_row)).bind fun x14=>if (!x14) then (some (.inl (c11.1,c4,0))) else (F53L2 fuel p_r c4 n12 ((w64 (c11.1-1)),x13))

def F53L1 (fuel:Nat) (p_r:S_api_CvRow):Nat→Int→Option ((Int×Int×Int)⊕(Unit))
 | 0,_=>none
 | n5+1,c4=>if (decide (c4<(p_r.Points.length:Int))) then ((sub p_r.Points 0 (w64 (c4+1))).bind fun x7=>(F68 fuel (⟨(⟨p_r.Steep,x7⟩:S_api_CvRow)⟩:S_carve_row)).bind fun x8=>if x8 then (F53L1 fuel p_r n5 (w64 (c4+1))) else ((F53L2 fuel p_r c4 fuel (c4,x7)).bind fun o10=>outK o10 (fun (ro10:Int×Int×Int)=>some (.inl ro10)) (fun (_:Unit)=>none))) else (some (.inr ()))

def F53 (fuel:Nat)  (p_r:S_api_CvRow):Option (Int×Int×Int) :=
 (F63 fuel p_r).bind fun x1=>if (x1.2.2 != 0) then (some (0,0,x1.2.2)) else ((F53L1 fuel p_r fuel 0).bind fun o3=>outK o3 (fun (ro3:Int×Int×Int)=>some ro3) (fun (so3:Unit)=>some (0,0,4)))


def F54L1 (surface:(List Int)) (x1:S_carve_row×Int):Nat→(Int×Int)→Option ((Int×Int)⊕(Int))
 | 0,_=>none
 | n5+1,c4=>if (decide (c4.2<(x1.1.CvRow.Points.length:Int))) then ((idx x1.1.CvRow.Points c4.2).bind fun x7=>(idx surface c4.2).bind fun x8=>F54L1 surface x1 n5 ((w64 (c4.1+(if (w64 (x8-x7.Board))>0 then (w64 (x8-x7.Board)) else 0))),(w64 (c4.2+1)))) else (some (.inr c4.1))

def F54 (fuel:Nat)  (p_r:S_api_CvRow) (surface:(List Int)):Option (Int×Int) :=
 (F124 fuel p_r surface).bind fun x1=>if (x1.2 != 0) then (some (0,x1.2)) else ((F54L1 surface x1 fuel (0,0)).bind fun o3=>outK o3 (fun (ro3:Int×Int)=>some ro3) (fun (so3:Int)=>some (so3,0)))


def F126L1 (p_x:(List Int)):Nat→(Int×Int)→Option ((Int)⊕(Int))
 | 0,_=>none
 | n5+1,c4=>if (decide (c4.2<(p_x.length:Int))) then ((idx p_x c4.2).bind fun x7=>F126L1 p_x n5 ((if x7>c4.1 then x7 else c4.1),(w64 (c4.2+1)))) else (some (.inr c4.1))

def F126 (fuel:Nat)  (p_x:(List Int)):Option (Int) :=
 if (decide ((p_x.length:Int)<1)) then (none) else ((idx p_x 0).bind fun x2=>(F126L1 p_x fuel (x2,1)).bind fun o3=>outK o3 (fun (ro3:Int)=>some ro3) (fun (so3:Int)=>some so3))


def F55L1 (surface:(List Int)) (x1:S_carve_row×Int):Nat→(Int×Int×Int×(List Int))→Option (((List S_api_CvPass)×Int)⊕(Int×(List Int)))
 | 0,_=>none
 | n6+1,c5=>if (decide (c5.2.2.1<(x1.1.CvRow.Points.length:Int))) then ((idx x1.1.CvRow.Points c5.2.2.1).bind fun x8=>(idx surface c5.2.2.1).bind fun x9=>(idx c5.2.2.2 c5.2.2.1).bind fun x10=>(idx (c5.2.2.2.set c5.2.2.1.toNat (if (w64 (x8.Board-x9))>0 then (w64 (x8.Board-x9)) else 0)) c5.2.2.1).bind fun x11=>(idx (c5.2.2.2.set c5.2.2.1.toNat (if (w64 (x8.Board-x9))>0 then (w64 (x8.Board-x9)) else 0)) c5.2.2.1).bind fun x12=>F55L1 surface x1 n6 ((w64 (c5.1+(if (w64 (x11-c5.2.1))>0 then (w64 (x11-c5.2.1)) else 0))),x12,(w64 (c5.2.2.1+1)),(c5.2.2.2.set c5.2.2.1.toNat (if (w64 (x8.Board-x9))>0 then (w64 (x8.Board-x9)) else 0)))) else (some (.inr (c5.1,c5.2.2.2)))

def F55L3 (so4:Int×(List Int)) (c17:Int×(List S_api_CvPass)):Nat→(Int×Int×(List S_api_CvPass))→Option (((List S_api_CvPass)×Int)⊕((List S_api_CvPass)))
 | 0,_=>none
 | n22+1,c21=>if (decide (c21.2.1<(so4.2.length:Int))) then ((idx so4.2 c21.2.1).bind fun x24=>if (cond (decide (x24>c17.1)) (decide (c21.1<0)) false) then (F55L3 so4 c17 n22 (c21.2.1,(w64 (c21.2.1+1)),c21.2.2)) else (if (cond (decide (x24≤c17.1)) (decide (c21.1≥0)) false) then ((need ((c21.2.2.length+([(⟨c21.1,(w64 (c21.2.1-1))⟩:S_api_CvPass)]:List S_api_CvPass).length)*16≤140737488355328∧c21.2.2.length+([(⟨c21.1,(w64 (c21.2.1-1))⟩:S_api_CvPass)]:List S_api_CvPass).length≤9223372036854775807)).bind fun x27=>F55L3 so4 c17 n22 ((-1),(w64 (c21.2.1+1)),(c21.2.2++([(⟨c21.1,(w64 (c21.2.1-1))⟩:S_api_CvPass)]:List S_api_CvPass)))) else (F55L3 so4 c17 n22 (c21.1,(w64 (c21.2.1+1)),c21.2.2)))) else (some (.inr c21.2.2))

def F55L2 (fuel:Nat) (so4:Int×(List Int)) (x14:Int):Nat→(Int×(List S_api_CvPass))→Option (((List S_api_CvPass)×Int)⊕((List S_api_CvPass)))
 | 0,_=>none
 | n18+1,c17=>if (decide (c17.1<x14)) then ((F55L3 so4 c17 fuel ((-1),0,c17.2)).bind fun o20=>outK o20 (fun (ro20:(List S_api_CvPass)×Int)=>some (.inl ro20)) (fun (so20:(List S_api_CvPass))=>F55L2 fuel so4 x14 n18 ((w64 (c17.1+1)),so20))) else (some (.inr c17.2))

def F55 (fuel:Nat)  (p_r:S_api_CvRow) (surface:(List Int)):Option ((List S_api_CvPass)×Int) :=
 (F124 fuel p_r surface).bind fun x1=>if (x1.2 != 0) then (some (([]:List S_api_CvPass),x1.2)) else ((need (0≤(w64 ((p_r.Points.length:Int)+1))∧(w64 ((p_r.Points.length:Int)+1))*8≤140737488355328∧(w64 ((p_r.Points.length:Int)+1))≤9223372036854775807)).bind fun x3=>(F55L1 surface x1 fuel (0,0,0,(List.replicate (w64 ((p_r.Points.length:Int)+1)).toNat (0:Int)))).bind fun o4=>outK o4 (fun (ro4:(List S_api_CvPass)×Int)=>some ro4) (fun (so4:Int×(List Int))=>if (decide (so4.1>60)) then (some (([]:List S_api_CvPass),9)) else ((F126 fuel so4.2).bind fun x14=>(F55L2 fuel so4 x14 fuel (0,([]:List S_api_CvPass))).bind fun o16=>outK o16 (fun (ro16:(List S_api_CvPass)×Int)=>some ro16) (fun (so16:(List S_api_CvPass))=>some (so16,0)))))


def F57  (from_:Int) (to_:Int):Option (S_api_CvPass) :=
 some (⟨from_,to_⟩:S_api_CvPass)


def F56L1 (fuel:Nat) (p_r:S_api_CvRow) (passes:(List S_api_CvPass)):Nat→(Int×(List Int))→Option (((List Int)×Int)⊕((List Int)))
 | 0,_=>none
 | n7+1,c6=>if (decide (c6.1<(passes.length:Int))) then ((idx passes c6.1).bind fun x9=>(F125 fuel 0 (w64 ((p_r.Points.length:Int)-1)) ([x9.From,x9.To]:List Int)).bind fun x10=>if x10 then (some (.inl (([]:List Int),4))) else (if (decide (x9.From>x9.To)) then (some (.inl (([]:List Int),2))) else ((idx c6.2 x9.From).bind fun x13=>(idx c6.2 x9.From).bind fun x14=>(idx (c6.2.set x9.From.toNat (w64 (x13+1))) (w64 (x9.To+1))).bind fun x15=>(idx (c6.2.set x9.From.toNat (w64 (x13+1))) (w64 (x9.To+1))).bind fun x16=>F56L1 fuel p_r passes n7 ((w64 (c6.1+1)),((c6.2.set x9.From.toNat (w64 (x13+1))).set (w64 (x9.To+1)).toNat (w64 (x15-1))))))) else (some (.inr c6.2))

def F56L2 (so5:(List Int)):Nat→(Int×(List Int))→Option (((List Int)×Int)⊕((List Int)))
 | 0,_=>none
 | n19+1,c18=>if (decide (c18.1<(w64 ((so5.length:Int)-1)))) then ((idx c18.2 (w64 (c18.1+1))).bind fun x21=>(idx c18.2 c18.1).bind fun x22=>(idx c18.2 (w64 (c18.1+1))).bind fun x23=>F56L2 so5 n19 ((w64 (c18.1+1)),(c18.2.set (w64 (c18.1+1)).toNat (w64 (x21+x22))))) else (some (.inr c18.2))

def F56 (fuel:Nat)  (p_r:S_api_CvRow) (passes:(List S_api_CvPass)):Option ((List Int)×Int) :=
 (F63 fuel p_r).bind fun x1=>if (x1.2.2 != 0) then (some (([]:List Int),x1.2.2)) else (if (decide ((passes.length:Int)>60)) then (some (([]:List Int),3)) else ((need (0≤(w64 ((p_r.Points.length:Int)+1))∧(w64 ((p_r.Points.length:Int)+1))*8≤140737488355328∧(w64 ((p_r.Points.length:Int)+1))≤9223372036854775807)).bind fun x4=>(F56L1 fuel p_r passes fuel (0,(List.replicate (w64 ((p_r.Points.length:Int)+1)).toNat (0:Int)))).bind fun o5=>outK o5 (fun (ro5:(List Int)×Int)=>some ro5) (fun (so5:(List Int))=>(F56L2 so5 fuel (0,so5)).bind fun o17=>outK o17 (fun (ro17:(List Int)×Int)=>some ro17) (fun (so17:(List Int))=>(sub so17 0 (p_r.Points.length:Int)).bind fun x24=>some (x24,0)))))


def F219  (p_x:Int):Option (Bool) :=
 some (p_x != p_x)


def F201  (p_x:Int) (y:Int):Option (Int) :=
 (F219 p_x).bind fun x1=>(F219 y).bind fun x2=>if x1 then (if x2 then (some 0) else (some (-1))) else (if x2 then (some 1) else (if (decide (p_x<y)) then (some (-1)) else (if (decide (p_x>y)) then (some 1) else (some 0))))


def F167L1 (p_s1:(List Int)) (p_s2:(List Int)):Nat→Int→Option ((Int)⊕(Unit))
 | 0,_=>none
 | n3+1,c2=>if (decide (c2<(p_s1.length:Int))) then ((idx p_s1 c2).bind fun x5=>if (decide (c2≥(p_s2.length:Int))) then (some (.inl 1)) else ((idx p_s2 c2).bind fun x7=>(F201 x5 x7).bind fun x8=>if (x8 != 0) then (some (.inl x8)) else (F167L1 p_s1 p_s2 n3 (w64 (c2+1))))) else (some (.inr ()))

def F167 (fuel:Nat)  (p_s1:(List Int)) (p_s2:(List Int)):Option (Int) :=
 (F167L1 p_s1 p_s2 fuel 0).bind fun o1=>outK o1 (fun (ro1:Int)=>some ro1) (fun (so1:Unit)=>if (decide ((p_s1.length:Int)<(p_s2.length:Int))) then (some (-1)) else (some 0))


def F129 (fuel:Nat)  (p_n:S_carve_needs) (p_m:S_carve_needs):Option (Int) :=
 (F167 fuel ([p_n.e0,p_n.e1]:List Int) ([p_m.e0,p_m.e1]:List Int)).bind fun x1=>some x1


def F130 (fuel:Nat)  (p_n:S_carve_needs) (p_m:S_carve_needs):Option (Int) :=
 (F129 fuel (⟨p_n.e1,p_n.e0⟩:S_carve_needs) (⟨p_m.e1,p_m.e0⟩:S_carve_needs)).bind fun x1=>some x1


def F131 (rec91:Int→Int→S_api_Span→(List S_api_Span)→Int→(List S_api_CvPoint)→(List (S_carve_state×S_carve_rest))→Bool→Option (S_carve_rest×(List (S_carve_state×S_carve_rest)))) (p_s:S_carve_state) (b0x0:Int) (b0x1:List S_api_CvPoint) (m2:List (S_carve_state×S_carve_rest)) (b4x0:List S_api_Span) (b7x0:Bool):Option (S_carve_rest×(List (S_carve_state×S_carve_rest))) :=
 if (p_s.at_==(w64 ((b0x1.length:Int)-1))) then (some ((⟨(⟨0,0⟩:S_carve_needs),0⟩:S_carve_rest),m2)) else (if (!(mget eqk212 p_s m2).isSome) then ((idx b0x1 p_s.at_).bind fun x3=>(rec91 (w64 (p_s.at_+1)) (if (w64 (x3.Board-p_s.high))>0 then (w64 (x3.Board-p_s.high)) else 0) (⟨(w64 (p_s.high-b0x0)),(w64 (p_s.high+b0x0))⟩:S_api_Span) b4x0 b0x0 b0x1 m2 b7x0).bind fun x4=>some ((⟨(⟨x4.1.needs.e0,x4.1.needs.e1⟩:S_carve_needs),x4.1.next⟩:S_carve_rest),(mset eqk212 p_s (⟨(⟨x4.1.needs.e0,x4.1.needs.e1⟩:S_carve_needs),x4.1.next⟩:S_carve_rest) x4.2))) else (some (((mget eqk212 p_s m2).getD (⟨(⟨0,0⟩:S_carve_needs),0⟩:S_carve_rest)),m2)))


def F127 (rec91:Int→Int→S_api_Span→(List S_api_Span)→Int→(List S_api_CvPoint)→(List (S_carve_state×S_carve_rest))→Bool→Option (S_carve_rest×(List (S_carve_state×S_carve_rest)))) (p_s:S_carve_state) (deep:Int) (b1x0:Int) (b1x1:List S_api_CvPoint) (m3:List (S_carve_state×S_carve_rest)) (b5x0:List S_api_Span) (b7x0:Bool):Option (S_carve_needs×(List (S_carve_state×S_carve_rest))) :=
 (F131 rec91 p_s b1x0 b1x1 m3 b5x0 b7x0).bind fun x1=>(idx b1x1 p_s.at_).bind fun x2=>some ((⟨(w64 (x1.1.needs.e0+(if (w64 (p_s.high-x2.Board))>0 then (w64 (p_s.high-x2.Board)) else 0))),(w64 (x1.1.needs.e1+(if (w64 ((if (w64 (x2.Board-p_s.high))>0 then (w64 (x2.Board-p_s.high)) else 0)-deep))>0 then (w64 ((if (w64 (x2.Board-p_s.high))>0 then (w64 (x2.Board-p_s.high)) else 0)-deep)) else 0)))⟩:S_carve_needs),x1.2)


def F128L1 (fuel:Nat) (rec91:Int→Int→S_api_Span→(List S_api_Span)→Int→(List S_api_CvPoint)→(List (S_carve_state×S_carve_rest))→Bool→Option (S_carve_rest×(List (S_carve_state×S_carve_rest)))) (at_:Int) (deep:Int) (before:S_api_Span) (b0x0:List S_api_Span) (b3x0:Int) (b3x1:List S_api_CvPoint) (b7x0:Bool) (x1:S_api_Span) (x2:S_api_Span):Nat→(Bool×Int×(List (S_carve_state×S_carve_rest))×Int×Int×Int)→Option ((S_carve_rest×(List (S_carve_state×S_carve_rest)))⊕((List (S_carve_state×S_carve_rest))×Int×Int×Int))
 | 0,_=>none
 | n5+1,c4=>if (decide (c4.2.1<(w64 ((w64 (x1.Hi-x2.Lo))+1)))) then ((idx b0x0 at_).bind fun x7=>(F125 fuel before.Lo before.Hi ([(w64 (x7.Lo+c4.2.1))]:List Int)).bind fun x8=>if x8 then (F128L1 fuel rec91 at_ deep before b0x0 b3x0 b3x1 b7x0 x1 x2 n5 (c4.1,(w64 (c4.2.1+1)),c4.2.2.1,c4.2.2.2.1,c4.2.2.2.2.1,c4.2.2.2.2.2)) else ((F127 rec91 (⟨at_,(w64 (x7.Lo+c4.2.1))⟩:S_carve_state) deep b3x0 b3x1 c4.2.2.1 b0x0 b7x0).bind fun x10=>if b7x0 then ((optG (!(!c4.1)) (F130 fuel (⟨x10.1.e0,x10.1.e1⟩:S_carve_needs) (⟨c4.2.2.2.1,c4.2.2.2.2.1⟩:S_carve_needs))).bind fun x13=>if (cond (!c4.1) true (decide (x13<0))) then (F128L1 fuel rec91 at_ deep before b0x0 b3x0 b3x1 b7x0 x1 x2 n5 (true,(w64 (c4.2.1+1)),x10.2,x10.1.e0,x10.1.e1,(w64 (x7.Lo+c4.2.1)))) else (F128L1 fuel rec91 at_ deep before b0x0 b3x0 b3x1 b7x0 x1 x2 n5 (c4.1,(w64 (c4.2.1+1)),x10.2,c4.2.2.2.1,c4.2.2.2.2.1,c4.2.2.2.2.2))) else ((optG (!(!c4.1)) (F129 fuel (⟨x10.1.e0,x10.1.e1⟩:S_carve_needs) (⟨c4.2.2.2.1,c4.2.2.2.2.1⟩:S_carve_needs))).bind fun x15=>if (cond (!c4.1) true (decide (x15<0))) then (F128L1 fuel rec91 at_ deep before b0x0 b3x0 b3x1 b7x0 x1 x2 n5 (true,(w64 (c4.2.1+1)),x10.2,x10.1.e0,x10.1.e1,(w64 (x7.Lo+c4.2.1)))) else (F128L1 fuel rec91 at_ deep before b0x0 b3x0 b3x1 b7x0 x1 x2 n5 (c4.1,(w64 (c4.2.1+1)),x10.2,c4.2.2.2.1,c4.2.2.2.2.1,c4.2.2.2.2.2))))) else (some (.inr (c4.2.2.1,c4.2.2.2.1,c4.2.2.2.2.1,c4.2.2.2.2.2)))

def B128 (fuel:Nat) (rec91:Int→Int→S_api_Span→(List S_api_Span)→Int→(List S_api_CvPoint)→(List (S_carve_state×S_carve_rest))→Bool→Option (S_carve_rest×(List (S_carve_state×S_carve_rest)))) (at_:Int) (deep:Int) (before:S_api_Span) (b0x0:List S_api_Span) (b3x0:Int) (b3x1:List S_api_CvPoint) (m5:List (S_carve_state×S_carve_rest)) (b7x0:Bool):Option (S_carve_rest×(List (S_carve_state×S_carve_rest))) :=
 (idx b0x0 at_).bind fun x1=>(idx b0x0 at_).bind fun x2=>(F128L1 fuel rec91 at_ deep before b0x0 b3x0 b3x1 b7x0 x1 x2 fuel (false,0,m5,0,0,0)).bind fun o3=>outK o3 (fun (ro3:S_carve_rest×(List (S_carve_state×S_carve_rest)))=>some ro3) (fun (so3:(List (S_carve_state×S_carve_rest))×Int×Int×Int)=>some ((⟨(⟨so3.2.1,so3.2.2.1⟩:S_carve_needs),so3.2.2.2⟩:S_carve_rest),so3.1))

def F128:Nat→Int→Int→S_api_Span→(List S_api_Span)→Int→(List S_api_CvPoint)→(List (S_carve_state×S_carve_rest))→Bool→Option (S_carve_rest×(List (S_carve_state×S_carve_rest)))
 | 0,_,_,_,_,_,_,_,_=>none
 | n+1,at_,deep,before,b0x0,b3x0,b3x1,m5,b7x0=>B128 (n+1) (F128 n) at_ deep before b0x0 b3x0 b3x1 m5 b7x0


def F58L1 (fuel:Nat) (p_r:S_api_CvRow) (passes:Bool) (x3:(List S_api_Span)×Bool) (x5:S_carve_rest×(List (S_carve_state×S_carve_rest))):Nat→((List (S_carve_state×S_carve_rest))×Int×Int×(List Int))→Option (((List Int)×Int×Int×Int)⊕(Unit))
 | 0,_=>none
 | n9+1,c8=>(need ((c8.2.2.2.length+([c8.2.2.1]:List Int).length)*8≤140737488355328∧c8.2.2.2.length+([c8.2.2.1]:List Int).length≤9223372036854775807)).bind fun x10=>if (c8.2.1==(w64 ((p_r.Points.length:Int)-1))) then (some (.inl ((c8.2.2.2++([c8.2.2.1]:List Int)),x5.1.needs.e0,x5.1.needs.e1,0))) else ((F131 (F128 fuel) (⟨c8.2.1,c8.2.2.1⟩:S_carve_state) p_r.Steep p_r.Points c8.1 x3.1 passes).bind fun x12=>F58L1 fuel p_r passes x3 x5 n9 (x12.2,(w64 (c8.2.1+1)),x12.1.next,(c8.2.2.2++([c8.2.2.1]:List Int))))

def F58 (fuel:Nat)  (p_r:S_api_CvRow) (passes:Bool):Option ((List Int)×Int×Int×Int) :=
 (F63 fuel p_r).bind fun x1=>if (x1.2.2 != 0) then (some (([]:List Int),0,0,x1.2.2)) else ((F64 fuel (⟨p_r⟩:S_carve_row)).bind fun x3=>if (!x3.2) then (some (([]:List Int),0,0,9)) else ((F128 fuel 0 0 (⟨0,9000⟩:S_api_Span) x3.1 p_r.Steep p_r.Points ([]:List (S_carve_state×S_carve_rest)) passes).bind fun x5=>(F58L1 fuel p_r passes x3 x5 fuel (x5.2,0,x5.1.next,([]:List Int))).bind fun o7=>outK o7 (fun (ro7:(List Int)×Int×Int×Int)=>some ro7) (fun (_:Unit)=>none)))


def F59   : Option (S_api_CvRow) :=
 some (⟨0,([(⟨10,0,20⟩:S_api_CvPoint),(⟨8,0,20⟩:S_api_CvPoint)]:List S_api_CvPoint)⟩:S_api_CvRow)


def F60  (lo:Int) (hi:Int):Option (S_api_Span) :=
 some (⟨lo,hi⟩:S_api_Span)


def F61L1 (p_a:(List S_api_CvPass)) (p_b:(List S_api_CvPass)):Nat→Int→Option ((Bool)⊕(Unit))
 | 0,_=>none
 | n4+1,c3=>if (decide (c3<(p_a.length:Int))) then ((idx p_a c3).bind fun x6=>(idx p_b c3).bind fun x7=>if (!((x6.From==x7.From)&&(x6.To==x7.To))) then (some (.inl false)) else (F61L1 p_a p_b n4 (w64 (c3+1)))) else (some (.inr ()))

def F61 (fuel:Nat)  (p_a:(List S_api_CvPass)) (p_b:(List S_api_CvPass)):Option (Bool) :=
 if ((p_a.length:Int) != (p_b.length:Int)) then (some false) else ((F61L1 p_a p_b fuel 0).bind fun o2=>outK o2 (fun (ro2:Bool)=>some ro2) (fun (so2:Unit)=>some true))


def F8 (fuel:Nat)   : Option (Bool) :=
 (F51 2).bind fun x1=>(F52 fuel (⟨x1.Steep,x1.Points⟩:S_api_CvRow) ([8,9,7,4]:List Int)).bind fun x2=>(F11 fuel (⟨x1.Steep,x1.Points⟩:S_api_CvRow)).bind fun x3=>(F51 1).bind fun x4=>(F53 fuel (⟨x4.Steep,x4.Points⟩:S_api_CvRow)).bind fun x5=>(F13 fuel (⟨x1.Steep,x1.Points⟩:S_api_CvRow)).bind fun x6=>(F54 fuel (⟨x1.Steep,x1.Points⟩:S_api_CvRow) ([8,9,8,6]:List Int)).bind fun x7=>(F55 fuel (⟨x1.Steep,x1.Points⟩:S_api_CvRow) ([8,9,8,6]:List Int)).bind fun x8=>(F57 0 1).bind fun x9=>(F57 3 3).bind fun x10=>(F56 fuel (⟨x1.Steep,x1.Points⟩:S_api_CvRow) ([(⟨x9.From,x9.To⟩:S_api_CvPass),(⟨x10.From,x10.To⟩:S_api_CvPass)]:List S_api_CvPass)).bind fun x11=>(F58 fuel (⟨x1.Steep,x1.Points⟩:S_api_CvRow) false).bind fun x12=>(F59).bind fun x13=>(F58 fuel (⟨x13.Steep,x13.Points⟩:S_api_CvRow) true).bind fun x14=>(F51 1).bind fun x15=>(F11 fuel (⟨x15.Steep,x15.Points⟩:S_api_CvRow)).bind fun x16=>(optG (cond (cond (cond (cond (cond (cond (cond (cond (cond (cond (cond (x2.2.2==0) (x3.2==0) false) (x5.2.2==0) false) (x6.2==0) false) (x7.2==0) false) (x8.2==0) false) (x11.2==0) false) (x12.2.2.2==0) false) (x14.2.2.2==0) false) (x16.2==9) false) (x2.1==3) false) (x2.2.1==3) false) (F60 7 8)).bind fun x17=>(optG (cond (cond (cond (cond (cond (cond (cond (cond (cond (cond (cond (x2.2.2==0) (x3.2==0) false) (x5.2.2==0) false) (x6.2==0) false) (x7.2==0) false) (x8.2==0) false) (x11.2==0) false) (x12.2.2.2==0) false) (x14.2.2.2==0) false) (x16.2==9) false) (x2.1==3) false) (x2.2.1==3) false) (F60 9 10)).bind fun x18=>(optG (cond (cond (cond (cond (cond (cond (cond (cond (cond (cond (cond (x2.2.2==0) (x3.2==0) false) (x5.2.2==0) false) (x6.2==0) false) (x7.2==0) false) (x8.2==0) false) (x11.2==0) false) (x12.2.2.2==0) false) (x14.2.2.2==0) false) (x16.2==9) false) (x2.1==3) false) (x2.2.1==3) false) (F60 7 8)).bind fun x19=>(optG (cond (cond (cond (cond (cond (cond (cond (cond (cond (cond (cond (x2.2.2==0) (x3.2==0) false) (x5.2.2==0) false) (x6.2==0) false) (x7.2==0) false) (x8.2==0) false) (x11.2==0) false) (x12.2.2.2==0) false) (x14.2.2.2==0) false) (x16.2==9) false) (x2.1==3) false) (x2.2.1==3) false) (F60 5 6)).bind fun x20=>(optG (cond (cond (cond (cond (cond (cond (cond (cond (cond (cond (cond (x2.2.2==0) (x3.2==0) false) (x5.2.2==0) false) (x6.2==0) false) (x7.2==0) false) (x8.2==0) false) (x11.2==0) false) (x12.2.2.2==0) false) (x14.2.2.2==0) false) (x16.2==9) false) (x2.1==3) false) (x2.2.1==3) false) (F15 fuel x3.1 ([(⟨x17.Lo,x17.Hi⟩:S_api_Span),(⟨x18.Lo,x18.Hi⟩:S_api_Span),(⟨x19.Lo,x19.Hi⟩:S_api_Span),(⟨x20.Lo,x20.Hi⟩:S_api_Span)]:List S_api_Span))).bind fun x21=>(optG (cond (cond (cond (cond (cond (cond (cond (cond (cond (cond (cond (cond (cond (cond (cond (cond (x2.2.2==0) (x3.2==0) false) (x5.2.2==0) false) (x6.2==0) false) (x7.2==0) false) (x8.2==0) false) (x11.2==0) false) (x12.2.2.2==0) false) (x14.2.2.2==0) false) (x16.2==9) false) (x2.1==3) false) (x2.2.1==3) false) x21 false) (x5.1==1) false) (x5.2.1==3) false) (x6.1==2) false) (x7.1==2) false) (F57 0 1)).bind fun x22=>(optG (cond (cond (cond (cond (cond (cond (cond (cond (cond (cond (cond (cond (cond (cond (cond (cond (x2.2.2==0) (x3.2==0) false) (x5.2.2==0) false) (x6.2==0) false) (x7.2==0) false) (x8.2==0) false) (x11.2==0) false) (x12.2.2.2==0) false) (x14.2.2.2==0) false) (x16.2==9) false) (x2.1==3) false) (x2.2.1==3) false) x21 false) (x5.1==1) false) (x5.2.1==3) false) (x6.1==2) false) (x7.1==2) false) (F57 3 3)).bind fun x23=>(optG (cond (cond (cond (cond (cond (cond (cond (cond (cond (cond (cond (cond (cond (cond (cond (cond (x2.2.2==0) (x3.2==0) false) (x5.2.2==0) false) (x6.2==0) false) (x7.2==0) false) (x8.2==0) false) (x11.2==0) false) (x12.2.2.2==0) false) (x14.2.2.2==0) false) (x16.2==9) false) (x2.1==3) false) (x2.2.1==3) false) x21 false) (x5.1==1) false) (x5.2.1==3) false) (x6.1==2) false) (x7.1==2) false) (F57 0 0)).bind fun x24=>(optG (cond (cond (cond (cond (cond (cond (cond (cond (cond (cond (cond (cond (cond (cond (cond (cond (x2.2.2==0) (x3.2==0) false) (x5.2.2==0) false) (x6.2==0) false) (x7.2==0) false) (x8.2==0) false) (x11.2==0) false) (x12.2.2.2==0) false) (x14.2.2.2==0) false) (x16.2==9) false) (x2.1==3) false) (x2.2.1==3) false) x21 false) (x5.1==1) false) (x5.2.1==3) false) (x6.1==2) false) (x7.1==2) false) (F57 3 3)).bind fun x25=>(optG (cond (cond (cond (cond (cond (cond (cond (cond (cond (cond (cond (cond (cond (cond (cond (cond (x2.2.2==0) (x3.2==0) false) (x5.2.2==0) false) (x6.2==0) false) (x7.2==0) false) (x8.2==0) false) (x11.2==0) false) (x12.2.2.2==0) false) (x14.2.2.2==0) false) (x16.2==9) false) (x2.1==3) false) (x2.2.1==3) false) x21 false) (x5.1==1) false) (x5.2.1==3) false) (x6.1==2) false) (x7.1==2) false) (F57 3 3)).bind fun x26=>(optG (cond (cond (cond (cond (cond (cond (cond (cond (cond (cond (cond (cond (cond (cond (cond (cond (x2.2.2==0) (x3.2==0) false) (x5.2.2==0) false) (x6.2==0) false) (x7.2==0) false) (x8.2==0) false) (x11.2==0) false) (x12.2.2.2==0) false) (x14.2.2.2==0) false) (x16.2==9) false) (x2.1==3) false) (x2.2.1==3) false) x21 false) (x5.1==1) false) (x5.2.1==3) false) (x6.1==2) false) (x7.1==2) false) (F57 3 3)).bind fun x27=>(optG (cond (cond (cond (cond (cond (cond (cond (cond (cond (cond (cond (cond (cond (cond (cond (cond (x2.2.2==0) (x3.2==0) false) (x5.2.2==0) false) (x6.2==0) false) (x7.2==0) false) (x8.2==0) false) (x11.2==0) false) (x12.2.2.2==0) false) (x14.2.2.2==0) false) (x16.2==9) false) (x2.1==3) false) (x2.2.1==3) false) x21 false) (x5.1==1) false) (x5.2.1==3) false) (x6.1==2) false) (x7.1==2) false) (F57 3 3)).bind fun x28=>(optG (cond (cond (cond (cond (cond (cond (cond (cond (cond (cond (cond (cond (cond (cond (cond (cond (x2.2.2==0) (x3.2==0) false) (x5.2.2==0) false) (x6.2==0) false) (x7.2==0) false) (x8.2==0) false) (x11.2==0) false) (x12.2.2.2==0) false) (x14.2.2.2==0) false) (x16.2==9) false) (x2.1==3) false) (x2.2.1==3) false) x21 false) (x5.1==1) false) (x5.2.1==3) false) (x6.1==2) false) (x7.1==2) false) (F57 3 3)).bind fun x29=>(optG (cond (cond (cond (cond (cond (cond (cond (cond (cond (cond (cond (cond (cond (cond (cond (cond (x2.2.2==0) (x3.2==0) false) (x5.2.2==0) false) (x6.2==0) false) (x7.2==0) false) (x8.2==0) false) (x11.2==0) false) (x12.2.2.2==0) false) (x14.2.2.2==0) false) (x16.2==9) false) (x2.1==3) false) (x2.2.1==3) false) x21 false) (x5.1==1) false) (x5.2.1==3) false) (x6.1==2) false) (x7.1==2) false) (F61 fuel x8.1 ([(⟨x22.From,x22.To⟩:S_api_CvPass),(⟨x23.From,x23.To⟩:S_api_CvPass),(⟨x24.From,x24.To⟩:S_api_CvPass),(⟨x25.From,x25.To⟩:S_api_CvPass),(⟨x26.From,x26.To⟩:S_api_CvPass),(⟨x27.From,x27.To⟩:S_api_CvPass),(⟨x28.From,x28.To⟩:S_api_CvPass),(⟨x29.From,x29.To⟩:S_api_CvPass)]:List S_api_CvPass))).bind fun x30=>(optG (cond (cond (cond (cond (cond (cond (cond (cond (cond (cond (cond (cond (cond (cond (cond (cond (cond (x2.2.2==0) (x3.2==0) false) (x5.2.2==0) false) (x6.2==0) false) (x7.2==0) false) (x8.2==0) false) (x11.2==0) false) (x12.2.2.2==0) false) (x14.2.2.2==0) false) (x16.2==9) false) (x2.1==3) false) (x2.2.1==3) false) x21 false) (x5.1==1) false) (x5.2.1==3) false) (x6.1==2) false) (x7.1==2) false) x30 false) (F48 fuel x11.1 ([1,1,0,1]:List Int))).bind fun x31=>(optG (cond (cond (cond (cond (cond (cond (cond (cond (cond (cond (cond (cond (cond (cond (cond (cond (cond (cond (x2.2.2==0) (x3.2==0) false) (x5.2.2==0) false) (x6.2==0) false) (x7.2==0) false) (x8.2==0) false) (x11.2==0) false) (x12.2.2.2==0) false) (x14.2.2.2==0) false) (x16.2==9) false) (x2.1==3) false) (x2.2.1==3) false) x21 false) (x5.1==1) false) (x5.2.1==3) false) (x6.1==2) false) (x7.1==2) false) x30 false) x31 false) (F48 fuel x12.1 ([8,9,7,6]:List Int))).bind fun x32=>(optG (cond (cond (cond (cond (cond (cond (cond (cond (cond (cond (cond (cond (cond (cond (cond (cond (cond (cond (cond (cond (cond (x2.2.2==0) (x3.2==0) false) (x5.2.2==0) false) (x6.2==0) false) (x7.2==0) false) (x8.2==0) false) (x11.2==0) false) (x12.2.2.2==0) false) (x14.2.2.2==0) false) (x16.2==9) false) (x2.1==3) false) (x2.2.1==3) false) x21 false) (x5.1==1) false) (x5.2.1==3) false) (x6.1==2) false) (x7.1==2) false) x30 false) x31 false) x32 false) (x12.2.1==1) false) (x12.2.2.1==8) false) (F48 fuel x14.1 ([10,10]:List Int))).bind fun x33=>some (cond (cond (cond (cond (cond (cond (cond (cond (cond (cond (cond (cond (cond (cond (cond (cond (cond (cond (cond (cond (cond (cond (cond (cond (x2.2.2==0) (x3.2==0) false) (x5.2.2==0) false) (x6.2==0) false) (x7.2==0) false) (x8.2==0) false) (x11.2==0) false) (x12.2.2.2==0) false) (x14.2.2.2==0) false) (x16.2==9) false) (x2.1==3) false) (x2.2.1==3) false) x21 false) (x5.1==1) false) (x5.2.1==3) false) (x6.1==2) false) (x7.1==2) false) x30 false) x31 false) x32 false) (x12.2.1==1) false) (x12.2.2.1==8) false) x33 false) (x14.2.1==2) false) (x14.2.2.1==0) false)
end Go.Proofs.YtkcgfceihpampaaGreatDoor
