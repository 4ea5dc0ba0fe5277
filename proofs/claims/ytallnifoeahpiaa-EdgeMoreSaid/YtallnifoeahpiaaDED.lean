/- What functions of the seat compute. Printed by a program of mine. -/
import Derived.Test.YtallnifoeahpiaaP
import Derived.Test.YtallnifoeahpiaaDEA
import Derived.Test.YtallnifoeahpiaaDEB
namespace Go.Proofs.Ytallnifoeahpiaa
open Go Go.Sx
set_option linter.unusedVariables false


def F86L1 (without:Int) (b0x2:List S_api_EdEdge) (b0x3:List Int):Nat→(Int×(List S_edge_step))→Option (((List S_edge_step))⊕((List S_edge_step)))
 | 0,_=>none
 | n4+1,c3=>if (decide (c3.1<(b0x2.length:Int))) then ((idx b0x2 c3.1).bind fun x6=>(need (0≤c3.1)).bind fun x7=>if ((Go.bits .and .i64 (without / 2^min c3.1.toNat 64) 1)==0) then ((need (0≤c3.1∧c3.1<8)).bind fun x9=>(b0x3[0+c3.1.toNat*2+1]?).bind fun x10=>(need (0≤c3.1∧c3.1<8)).bind fun x11=>(b0x3[0+c3.1.toNat*2]?).bind fun x12=>(need ((c3.2.length+([(⟨x6.B,x6.A,x10,c3.1,(-1)⟩:S_edge_step),(⟨x6.A,x6.B,(w64 (0-x12)),c3.1,1⟩:S_edge_step)]:List S_edge_step).length)*40≤140737488355328∧c3.2.length+([(⟨x6.B,x6.A,x10,c3.1,(-1)⟩:S_edge_step),(⟨x6.A,x6.B,(w64 (0-x12)),c3.1,1⟩:S_edge_step)]:List S_edge_step).length≤9223372036854775807)).bind fun x13=>F86L1 without b0x2 b0x3 n4 ((w64 (c3.1+1)),(c3.2++([(⟨x6.B,x6.A,x10,c3.1,(-1)⟩:S_edge_step),(⟨x6.A,x6.B,(w64 (0-x12)),c3.1,1⟩:S_edge_step)]:List S_edge_step)))) else (F86L1 without b0x2 b0x3 n4 ((w64 (c3.1+1)),c3.2))) else (some (.inr c3.2))

def F86L2 (b0x1:List S_api_EdSheet):Nat→(Int×(List S_edge_step))→Option (((List S_edge_step))⊕((List S_edge_step)))
 | 0,_=>none
 | n16+1,c15=>if (decide (c15.1<(b0x1.length:Int))) then ((idx b0x1 c15.1).bind fun x18=>(need ((c15.2.length+([(⟨(b0x1.length:Int),c15.1,x18.Most,(-1),0⟩:S_edge_step),(⟨c15.1,(b0x1.length:Int),x18.Most,(-1),0⟩:S_edge_step)]:List S_edge_step).length)*40≤140737488355328∧c15.2.length+([(⟨(b0x1.length:Int),c15.1,x18.Most,(-1),0⟩:S_edge_step),(⟨c15.1,(b0x1.length:Int),x18.Most,(-1),0⟩:S_edge_step)]:List S_edge_step).length≤9223372036854775807)).bind fun x19=>F86L2 b0x1 n16 ((w64 (c15.1+1)),(c15.2++([(⟨(b0x1.length:Int),c15.1,x18.Most,(-1),0⟩:S_edge_step),(⟨c15.1,(b0x1.length:Int),x18.Most,(-1),0⟩:S_edge_step)]:List S_edge_step)))) else (some (.inr c15.2))

def F86 (fuel:Nat)  (without:Int) (b0x0:Int) (b0x1:List S_api_EdSheet) (b0x2:List S_api_EdEdge) (b0x3:List Int) (m1:List ((List Int)×Int)):Option ((List S_edge_step)) :=
 (F86L1 without b0x2 b0x3 fuel (0,([]:List S_edge_step))).bind fun o2=>outK o2 (fun (ro2:(List S_edge_step))=>some ro2) (fun (so2:(List S_edge_step))=>(F86L2 b0x1 fuel (0,so2)).bind fun o14=>outK o14 (fun (ro14:(List S_edge_step))=>some ro14) (fun (so14:(List S_edge_step))=>some so14))


def F64L1 (b0x1:List S_api_EdSheet):Nat→(Int×(List Int))→Option (((List Int)×(List S_edge_step))⊕((List Int)))
 | 0,_=>none
 | n6+1,c5=>if (decide (c5.1<((List.replicate (w64 ((b0x1.length:Int)+1)).toNat (0:Int)).length:Int))) then ((idx c5.2 c5.1).bind fun x8=>F64L1 b0x1 n6 ((w64 (c5.1+1)),(c5.2.set c5.1.toNat 1048576))) else (some (.inr c5.2))

def F64L3 (x1:(List S_edge_step)):Nat→(Int×Int×(List Int)×(List S_edge_step))→Option (((List Int)×(List S_edge_step))⊕(Int×(List Int)×(List S_edge_step)))
 | 0,_=>none
 | n16+1,c15=>if (decide (c15.2.1<(x1.length:Int))) then ((idx x1 c15.2.1).bind fun x18=>(idx c15.2.2.1 x18.from_).bind fun x19=>(idx c15.2.2.1 x18.to_).bind fun x20=>if (decide ((w64 (x19+x18.most))<x20)) then ((idx c15.2.2.1 x18.to_).bind fun x22=>(idx c15.2.2.2 x18.to_).bind fun x23=>F64L3 x1 n16 (x18.to_,(w64 (c15.2.1+1)),(c15.2.2.1.set x18.to_.toNat (w64 (x19+x18.most))),(c15.2.2.2.set x18.to_.toNat x18))) else (F64L3 x1 n16 (c15.1,(w64 (c15.2.1+1)),c15.2.2.1,c15.2.2.2))) else (some (.inr (c15.1,c15.2.2.1,c15.2.2.2)))

def F64L2 (fuel:Nat) (b0x1:List S_api_EdSheet) (x1:(List S_edge_step)):Nat→(Int×Int×(List Int)×(List S_edge_step))→Option (((List Int)×(List S_edge_step))⊕(Int×(List Int)×(List S_edge_step)))
 | 0,_=>none
 | n12+1,c11=>if (decide (c11.2.1<(w64 ((w64 ((b0x1.length:Int)+1))+1)))) then ((F64L3 x1 fuel ((-1),0,c11.2.2.1,c11.2.2.2)).bind fun o14=>outK o14 (fun (ro14:(List Int)×(List S_edge_step))=>some (.inl ro14)) (fun (so14:Int×(List Int)×(List S_edge_step))=>if (decide (so14.1<0)) then (some (.inr (so14.1,so14.2.1,so14.2.2))) else (F64L2 fuel b0x1 x1 n12 (so14.1,(w64 (c11.2.1+1)),so14.2.1,so14.2.2)))) else (some (.inr (c11.1,c11.2.2.1,c11.2.2.2)))

def F64L4 (b0x1:List S_api_EdSheet) (so10:Int×(List Int)×(List S_edge_step)):Nat→(Int×Int)→Option (((List Int)×(List S_edge_step))⊕(Int))
 | 0,_=>none
 | n29+1,c28=>if (decide (c28.2<(w64 ((b0x1.length:Int)+1)))) then ((idx so10.2.2 c28.1).bind fun x31=>F64L4 b0x1 so10 n29 (x31.from_,(w64 (c28.2+1)))) else (some (.inr c28.1))

def F64L5 (so10:Int×(List Int)×(List S_edge_step)) (so27:Int):Nat→(Int×(List S_edge_step))→Option (((List Int)×(List S_edge_step))⊕((List S_edge_step)))
 | 0,_=>none
 | n35+1,c34=>if (cond ((c34.2.length:Int)==0) true (c34.1 != so27)) then ((idx so10.2.2 c34.1).bind fun x37=>(need ((c34.2.length+([x37]:List S_edge_step).length)*40≤140737488355328∧c34.2.length+([x37]:List S_edge_step).length≤9223372036854775807)).bind fun x38=>(idx so10.2.2 c34.1).bind fun x39=>F64L5 so10 so27 n35 (x39.from_,(c34.2++([x37]:List S_edge_step)))) else (some (.inr c34.2))

def F64 (fuel:Nat)  (from_:Int) (without:Int) (b0x0:Int) (b0x1:List S_api_EdSheet) (b0x2:List S_api_EdEdge) (b0x3:List Int) (m1:List ((List Int)×Int)):Option ((List Int)×(List S_edge_step)) :=
 (F86 fuel without b0x0 b0x1 b0x2 b0x3 m1).bind fun x1=>(need (0≤(w64 ((b0x1.length:Int)+1))∧(w64 ((b0x1.length:Int)+1))*8≤140737488355328∧(w64 ((b0x1.length:Int)+1))≤9223372036854775807)).bind fun x2=>(need (0≤(w64 ((b0x1.length:Int)+1))∧(w64 ((b0x1.length:Int)+1))*40≤140737488355328∧(w64 ((b0x1.length:Int)+1))≤9223372036854775807)).bind fun x3=>(F64L1 b0x1 fuel (0,(List.replicate (w64 ((b0x1.length:Int)+1)).toNat (0:Int)))).bind fun o4=>outK o4 (fun (ro4:(List Int)×(List S_edge_step))=>some ro4) (fun (so4:(List Int))=>(idx so4 from_).bind fun x9=>(F64L2 fuel b0x1 x1 fuel ((-1),0,(so4.set from_.toNat 0),(List.replicate (w64 ((b0x1.length:Int)+1)).toNat ((⟨0,0,0,0,0⟩:S_edge_step):S_edge_step)))).bind fun o10=>outK o10 (fun (ro10:(List Int)×(List S_edge_step))=>some ro10) (fun (so10:Int×(List Int)×(List S_edge_step))=>if (decide (so10.1<0)) then ((need (0<so10.2.1.length)).bind fun x26=>some (so10.2.1,([]:List S_edge_step))) else ((F64L4 b0x1 so10 fuel (so10.1,0)).bind fun o27=>outK o27 (fun (ro27:(List Int)×(List S_edge_step))=>some ro27) (fun (so27:Int)=>(F64L5 so10 so27 fuel (so27,([]:List S_edge_step))).bind fun o33=>outK o33 (fun (ro33:(List Int)×(List S_edge_step))=>some ro33) (fun (so33:(List S_edge_step))=>(need (0<so33.length)).bind fun x40=>some (([]:List Int),so33))))))


def F25 (fuel:Nat)  (p_c:S_api_EdCase) (at_:Int):Option (S_api_Span×Int) :=
 (F57v1 fuel p_c).bind fun x1=>outK x1 (fun (y2:Int×Int×(List S_api_EdSheet)×(List S_api_EdEdge)×(List Int)×(List ((List Int)×Int)))=>if (y2.1 != 0) then (some ((⟨0,0⟩:S_api_Span),y2.1)) else ((F48 fuel 0 (w64 ((p_c.Sheets.length:Int)-1)) ([at_]:List Int)).bind fun x4=>if x4 then (some ((⟨0,0⟩:S_api_Span),4)) else ((F64 fuel (p_c.Sheets.length:Int) 0 y2.2.1 y2.2.2.1 y2.2.2.2.1 y2.2.2.2.2.1 y2.2.2.2.2.2).bind fun x6=>if (!(Nat.beq x6.2.length 0)) then (some ((⟨0,0⟩:S_api_Span),9)) else ((F64 fuel at_ 0 y2.2.1 y2.2.2.1 y2.2.2.2.1 y2.2.2.2.2.1 y2.2.2.2.2.2).bind fun x8=>(idx x8.1 (p_c.Sheets.length:Int)).bind fun x9=>(idx x6.1 at_).bind fun x10=>some ((⟨(w64 (0-x9)),x10⟩:S_api_Span),0))))) (fun (y11:Int)=>if (y11 != 0) then (some ((⟨0,0⟩:S_api_Span),y11)) else ((F48 fuel 0 (w64 ((p_c.Sheets.length:Int)-1)) ([at_]:List Int)).bind fun x13=>if x13 then (some ((⟨0,0⟩:S_api_Span),4)) else (none)))
end Go.Proofs.Ytallnifoeahpiaa
