/- What functions of the seat compute. Printed by a program of mine. -/
import Derived.Test.YtkcgfceihpampaaGreatDoorP
namespace Go.Proofs.YtkcgfceihpampaaGreatDoor
open Go Go.Sx
set_option linter.unusedVariables false


def F194  (p_n:Int) (b0x0:Int) (b1x0:Int):Option (Bool) :=
 some (cond (decide (p_n<b0x0)) true (decide (p_n>b1x0)))


def F207v3L1 (p_s:(List Int)) (b0x0:Int) (b1x0:Int):Nat→Int→Option ((Int)⊕(Unit))
 | 0,_=>none
 | n3+1,c2=>if (decide (c2<(p_s.length:Int))) then ((idx p_s c2).bind fun x5=>(F194 x5 b0x0 b1x0).bind fun x6=>if x6 then (some (.inl c2)) else (F207v3L1 p_s b0x0 b1x0 n3 (w64 (c2+1)))) else (some (.inr ()))

def F207v3 (fuel:Nat)  (p_s:(List Int)) (b0x0:Int) (b1x0:Int):Option (Int) :=
 (F207v3L1 p_s b0x0 b1x0 fuel 0).bind fun o1=>outK o1 (fun (ro1:Int)=>some ro1) (fun (so1:Unit)=>some (-1))


def F171v3 (fuel:Nat)  (p_s:(List Int)) (b0x0:Int) (b1x0:Int):Option (Bool) :=
 (F207v3 fuel p_s b0x0 b1x0).bind fun x1=>some (decide (x1≥0))


def F160 (fuel:Nat)  (lo:Int) (hi:Int) (numbers:(List Int)):Option (Bool) :=
 (F171v3 fuel numbers lo hi).bind fun x1=>some x1


def F203  (p_x:S_api_EdSheet) (b0x0:ByteArray) (b0x1:Int) (b0x2:Int):Option (Bool) :=
 some (p_x.Name==b0x0)


def F220L1 (p_s:(List S_api_EdSheet)) (b0x0:ByteArray) (b0x1:Int) (b0x2:Int):Nat→Int→Option ((Int)⊕(Unit))
 | 0,_=>none
 | n3+1,c2=>if (decide (c2<(p_s.length:Int))) then ((idx p_s c2).bind fun x5=>(F203 x5 b0x0 b0x1 b0x2).bind fun x6=>if x6 then (some (.inl c2)) else (F220L1 p_s b0x0 b0x1 b0x2 n3 (w64 (c2+1)))) else (some (.inr ()))

def F220 (fuel:Nat)  (p_s:(List S_api_EdSheet)) (b0x0:ByteArray) (b0x1:Int) (b0x2:Int):Option (Int) :=
 (F220L1 p_s b0x0 b0x1 b0x2 fuel 0).bind fun o1=>outK o1 (fun (ro1:Int)=>some ro1) (fun (so1:Unit)=>some (-1))


def F202 (fuel:Nat)  (p_s:(List S_api_EdSheet)) (b0x0:ByteArray) (b0x1:Int) (b0x2:Int):Option (Bool) :=
 (F220 fuel p_s b0x0 b0x1 b0x2).bind fun x1=>some (decide (x1≥0))


def F205 (fuel:Nat)  (p:S_api_EdPoint):Option (Bool) :=
 (F160 fuel 0 9000 ([p.A,p.B]:List Int)).bind fun x1=>some x1


def F221L1 (fuel:Nat) (p_s:(List S_api_EdPoint)):Nat→Int→Option ((Int)⊕(Unit))
 | 0,_=>none
 | n3+1,c2=>if (decide (c2<(p_s.length:Int))) then ((idx p_s c2).bind fun x5=>(F205 fuel x5).bind fun x6=>if x6 then (some (.inl c2)) else (F221L1 fuel p_s n3 (w64 (c2+1)))) else (some (.inr ()))

def F221 (fuel:Nat)  (p_s:(List S_api_EdPoint)):Option (Int) :=
 (F221L1 fuel p_s fuel 0).bind fun o1=>outK o1 (fun (ro1:Int)=>some ro1) (fun (so1:Unit)=>some (-1))


def F204 (fuel:Nat)  (p_s:(List S_api_EdPoint)):Option (Bool) :=
 (F221 fuel p_s).bind fun x1=>some (decide (x1≥0))


def F168L1 (fuel:Nat) (p_c:S_api_EdCase):Nat→Int→Option ((Int×Int×Int)⊕(Unit))
 | 0,_=>none
 | n7+1,c6=>if (decide (c6<(p_c.Sheets.length:Int))) then ((idx p_c.Sheets c6).bind fun x9=>(F50 x9.Name).bind fun x10=>if (!x10) then (some (.inl (2,c6,6))) else ((sub p_c.Sheets 0 c6).bind fun x12=>(F202 fuel x12 x9.Name x9.Weight x9.Most).bind fun x13=>if x13 then (some (.inl (2,c6,5))) else ((F160 fuel 0 20 ([x9.Weight]:List Int)).bind fun x15=>(optG (!x15) (F160 fuel 0 6 ([x9.Most]:List Int))).bind fun x16=>if (cond x15 true x16) then (some (.inl (2,c6,7))) else (F168L1 fuel p_c n7 (w64 (c6+1)))))) else (some (.inr ()))

def F168L2 (fuel:Nat) (p_c:S_api_EdCase):Nat→Int→Option ((Int×Int×Int)⊕(Unit))
 | 0,_=>none
 | n20+1,c19=>if (decide (c19<(p_c.Edges.length:Int))) then ((idx p_c.Edges c19).bind fun x22=>(F160 fuel 0 (w64 ((p_c.Sheets.length:Int)-1)) ([x22.A,x22.B]:List Int)).bind fun x23=>if x23 then (some (.inl (3,c19,4))) else (if (x22.A==x22.B) then (some (.inl (3,c19,2))) else ((F160 fuel 1 4 ([(x22.Points.length:Int)]:List Int)).bind fun x26=>if x26 then (some (.inl (3,c19,3))) else ((F204 fuel x22.Points).bind fun x28=>if x28 then (some (.inl (3,c19,7))) else (F168L2 fuel p_c n20 (w64 (c19+1))))))) else (some (.inr ()))

def F168 (fuel:Nat)  (p_c:S_api_EdCase):Option (Int×Int×Int) :=
 (F160 fuel 0 50 ([p_c.Tol]:List Int)).bind fun x1=>if x1 then (some (1,0,7)) else ((F160 fuel 1 5 ([(p_c.Sheets.length:Int)]:List Int)).bind fun x3=>if (cond x3 true (decide ((p_c.Edges.length:Int)>8))) then (some (1,0,3)) else ((F168L1 fuel p_c fuel 0).bind fun o5=>outK o5 (fun (ro5:Int×Int×Int)=>some ro5) (fun (so5:Unit)=>(F168L2 fuel p_c fuel 0).bind fun o18=>outK o18 (fun (ro18:Int×Int×Int)=>some ro18) (fun (so18:Unit)=>some (0,0,0)))))


def F108v1L2 (p_c:S_api_EdCase) (x7:S_api_EdEdge):Nat→(Int×Int×Int)→Option ((Int)⊕(Int×Int))
 | 0,_=>none
 | n10+1,c9=>if (decide (c9.2.2<(x7.Points.length:Int))) then ((idx x7.Points c9.2.2).bind fun x12=>F108v1L2 p_c x7 n10 ((if (w64 ((w64 (x12.B-x12.A))-p_c.Tol))>c9.1 then (w64 ((w64 (x12.B-x12.A))-p_c.Tol)) else c9.1),(if (w64 ((w64 (x12.B-x12.A))+p_c.Tol))<c9.2.1 then (w64 ((w64 (x12.B-x12.A))+p_c.Tol)) else c9.2.1),(w64 (c9.2.2+1)))) else (some (.inr (c9.1,c9.2.1)))

def F108v1L1 (fuel:Nat) (p_c:S_api_EdCase):Nat→(Int×(List Int))→Option ((Int)⊕((List Int)))
 | 0,_=>none
 | n5+1,c4=>if (decide (c4.1<(p_c.Edges.length:Int))) then ((idx p_c.Edges c4.1).bind fun x7=>(F108v1L2 p_c x7 fuel ((-18000),18000,0)).bind fun o8=>outK o8 (fun (ro8:Int)=>some (.inl ro8)) (fun (so8:Int×Int)=>(need (0≤c4.1∧c4.1<8)).bind fun x13=>(c4.2[0+c4.1.toNat*2]?).bind fun x14=>(c4.2[0+c4.1.toNat*2+1]?).bind fun x15=>F108v1L1 fuel p_c n5 ((w64 (c4.1+1)),((c4.2.set (0+c4.1.toNat*2) so8.1).set (0+c4.1.toNat*2+1) so8.2)))) else (some (.inr c4.2))

def F108v1 (fuel:Nat)  (p_c:S_api_EdCase):Option ((Int×Int×(List S_api_EdSheet)×(List S_api_EdEdge)×(List Int)×(List ((List Int)×Int)))⊕(Int)) :=
 (F168 fuel p_c).bind fun x1=>if (x1.2.2 != 0) then (some (.inr x1.2.2)) else ((F108v1L1 fuel p_c fuel (0,(List.replicate 16 (0:Int)))).bind fun o3=>outK o3 (fun (ro3:Int)=>some (.inr ro3)) (fun (so3:(List Int))=>some (.inl (0,p_c.Tol,p_c.Sheets,p_c.Edges,so3,([]:List ((List Int)×Int))))))


def F195L1 (without:Int) (b0x2:List S_api_EdEdge) (b0x3:List Int):Nat→(Int×(List S_edge_step))→Option (((List S_edge_step))⊕((List S_edge_step)))
 | 0,_=>none
 | n4+1,c3=>if (decide (c3.1<(b0x2.length:Int))) then ((idx b0x2 c3.1).bind fun x6=>(need (0≤c3.1)).bind fun x7=>if ((Go.bits .and .i64 (without / 2^min c3.1.toNat 64) 1)==0) then ((need (0≤c3.1∧c3.1<8)).bind fun x9=>(b0x3[0+c3.1.toNat*2+1]?).bind fun x10=>(need (0≤c3.1∧c3.1<8)).bind fun x11=>(b0x3[0+c3.1.toNat*2]?).bind fun x12=>(need ((c3.2.length+([(⟨x6.B,x6.A,x10,c3.1,(-1)⟩:S_edge_step),(⟨x6.A,x6.B,(w64 (0-x12)),c3.1,1⟩:S_edge_step)]:List S_edge_step).length)*40≤140737488355328∧c3.2.length+([(⟨x6.B,x6.A,x10,c3.1,(-1)⟩:S_edge_step),(⟨x6.A,x6.B,(w64 (0-x12)),c3.1,1⟩:S_edge_step)]:List S_edge_step).length≤9223372036854775807)).bind fun x13=>F195L1 without b0x2 b0x3 n4 ((w64 (c3.1+1)),(c3.2++([(⟨x6.B,x6.A,x10,c3.1,(-1)⟩:S_edge_step),(⟨x6.A,x6.B,(w64 (0-x12)),c3.1,1⟩:S_edge_step)]:List S_edge_step)))) else (F195L1 without b0x2 b0x3 n4 ((w64 (c3.1+1)),c3.2))) else (some (.inr c3.2))

def F195L2 (b0x1:List S_api_EdSheet):Nat→(Int×(List S_edge_step))→Option (((List S_edge_step))⊕((List S_edge_step)))
 | 0,_=>none
 | n16+1,c15=>if (decide (c15.1<(b0x1.length:Int))) then ((idx b0x1 c15.1).bind fun x18=>(need ((c15.2.length+([(⟨(b0x1.length:Int),c15.1,x18.Most,(-1),0⟩:S_edge_step),(⟨c15.1,(b0x1.length:Int),x18.Most,(-1),0⟩:S_edge_step)]:List S_edge_step).length)*40≤140737488355328∧c15.2.length+([(⟨(b0x1.length:Int),c15.1,x18.Most,(-1),0⟩:S_edge_step),(⟨c15.1,(b0x1.length:Int),x18.Most,(-1),0⟩:S_edge_step)]:List S_edge_step).length≤9223372036854775807)).bind fun x19=>F195L2 b0x1 n16 ((w64 (c15.1+1)),(c15.2++([(⟨(b0x1.length:Int),c15.1,x18.Most,(-1),0⟩:S_edge_step),(⟨c15.1,(b0x1.length:Int),x18.Most,(-1),0⟩:S_edge_step)]:List S_edge_step)))) else (some (.inr c15.2))

def F195 (fuel:Nat)  (without:Int) (b0x0:Int) (b0x1:List S_api_EdSheet) (b0x2:List S_api_EdEdge) (b0x3:List Int) (m1:List ((List Int)×Int)):Option ((List S_edge_step)) :=
 (F195L1 without b0x2 b0x3 fuel (0,([]:List S_edge_step))).bind fun o2=>outK o2 (fun (ro2:(List S_edge_step))=>some ro2) (fun (so2:(List S_edge_step))=>(F195L2 b0x1 fuel (0,so2)).bind fun o14=>outK o14 (fun (ro14:(List S_edge_step))=>some ro14) (fun (so14:(List S_edge_step))=>some so14))


def F163L1 (b0x1:List S_api_EdSheet):Nat→(Int×(List Int))→Option (((List Int)×(List S_edge_step))⊕((List Int)))
 | 0,_=>none
 | n6+1,c5=>if (decide (c5.1<((List.replicate (w64 ((b0x1.length:Int)+1)).toNat (0:Int)).length:Int))) then ((idx c5.2 c5.1).bind fun x8=>F163L1 b0x1 n6 ((w64 (c5.1+1)),(c5.2.set c5.1.toNat 1048576))) else (some (.inr c5.2))

def F163L3 (x1:(List S_edge_step)):Nat→(Int×Int×(List Int)×(List S_edge_step))→Option (((List Int)×(List S_edge_step))⊕(Int×(List Int)×(List S_edge_step)))
 | 0,_=>none
 | n16+1,c15=>if (decide (c15.2.1<(x1.length:Int))) then ((idx x1 c15.2.1).bind fun x18=>(idx c15.2.2.1 x18.from_).bind fun x19=>(idx c15.2.2.1 x18.to_).bind fun x20=>if (decide ((w64 (x19+x18.most))<x20)) then ((idx c15.2.2.1 x18.to_).bind fun x22=>(idx c15.2.2.2 x18.to_).bind fun x23=>F163L3 x1 n16 (x18.to_,(w64 (c15.2.1+1)),(c15.2.2.1.set x18.to_.toNat (w64 (x19+x18.most))),(c15.2.2.2.set x18.to_.toNat x18))) else (F163L3 x1 n16 (c15.1,(w64 (c15.2.1+1)),c15.2.2.1,c15.2.2.2))) else (some (.inr (c15.1,c15.2.2.1,c15.2.2.2)))

def F163L2 (fuel:Nat) (b0x1:List S_api_EdSheet) (x1:(List S_edge_step)):Nat→(Int×Int×(List Int)×(List S_edge_step))→Option (((List Int)×(List S_edge_step))⊕(Int×(List Int)×(List S_edge_step)))
 | 0,_=>none
 | n12+1,c11=>if (decide (c11.2.1<(w64 ((w64 ((b0x1.length:Int)+1))+1)))) then ((F163L3 x1 fuel ((-1),0,c11.2.2.1,c11.2.2.2)).bind fun o14=>outK o14 (fun (ro14:(List Int)×(List S_edge_step))=>some (.inl ro14)) (fun (so14:Int×(List Int)×(List S_edge_step))=>if (decide (so14.1<0)) then (some (.inr (so14.1,so14.2.1,so14.2.2))) else (F163L2 fuel b0x1 x1 n12 (so14.1,(w64 (c11.2.1+1)),so14.2.1,so14.2.2)))) else (some (.inr (c11.1,c11.2.2.1,c11.2.2.2)))

def F163L4 (b0x1:List S_api_EdSheet) (so10:Int×(List Int)×(List S_edge_step)):Nat→(Int×Int)→Option (((List Int)×(List S_edge_step))⊕(Int))
 | 0,_=>none
 | n29+1,c28=>if (decide (c28.2<(w64 ((b0x1.length:Int)+1)))) then ((idx so10.2.2 c28.1).bind fun x31=>F163L4 b0x1 so10 n29 (x31.from_,(w64 (c28.2+1)))) else (some (.inr c28.1))

def F163L5 (so10:Int×(List Int)×(List S_edge_step)) (so27:Int):Nat→(Int×(List S_edge_step))→Option (((List Int)×(List S_edge_step))⊕((List S_edge_step)))
 | 0,_=>none
 | n35+1,c34=>if (cond ((c34.2.length:Int)==0) true (c34.1 != so27)) then ((idx so10.2.2 c34.1).bind fun x37=>(need ((c34.2.length+([x37]:List S_edge_step).length)*40≤140737488355328∧c34.2.length+([x37]:List S_edge_step).length≤9223372036854775807)).bind fun x38=>(idx so10.2.2 c34.1).bind fun x39=>F163L5 so10 so27 n35 (x39.from_,(c34.2++([x37]:List S_edge_step)))) else (some (.inr c34.2))

def F163 (fuel:Nat)  (from_:Int) (without:Int) (b0x0:Int) (b0x1:List S_api_EdSheet) (b0x2:List S_api_EdEdge) (b0x3:List Int) (m1:List ((List Int)×Int)):Option ((List Int)×(List S_edge_step)) :=
 (F195 fuel without b0x0 b0x1 b0x2 b0x3 m1).bind fun x1=>(need (0≤(w64 ((b0x1.length:Int)+1))∧(w64 ((b0x1.length:Int)+1))*8≤140737488355328∧(w64 ((b0x1.length:Int)+1))≤9223372036854775807)).bind fun x2=>(need (0≤(w64 ((b0x1.length:Int)+1))∧(w64 ((b0x1.length:Int)+1))*40≤140737488355328∧(w64 ((b0x1.length:Int)+1))≤9223372036854775807)).bind fun x3=>(F163L1 b0x1 fuel (0,(List.replicate (w64 ((b0x1.length:Int)+1)).toNat (0:Int)))).bind fun o4=>outK o4 (fun (ro4:(List Int)×(List S_edge_step))=>some ro4) (fun (so4:(List Int))=>(idx so4 from_).bind fun x9=>(F163L2 fuel b0x1 x1 fuel ((-1),0,(so4.set from_.toNat 0),(List.replicate (w64 ((b0x1.length:Int)+1)).toNat ((⟨0,0,0,0,0⟩:S_edge_step):S_edge_step)))).bind fun o10=>outK o10 (fun (ro10:(List Int)×(List S_edge_step))=>some ro10) (fun (so10:Int×(List Int)×(List S_edge_step))=>if (decide (so10.1<0)) then ((need (0<so10.2.1.length)).bind fun x26=>some (so10.2.1,([]:List S_edge_step))) else ((F163L4 b0x1 so10 fuel (so10.1,0)).bind fun o27=>outK o27 (fun (ro27:(List Int)×(List S_edge_step))=>some ro27) (fun (so27:Int)=>(F163L5 so10 so27 fuel (so27,([]:List S_edge_step))).bind fun o33=>outK o33 (fun (ro33:(List Int)×(List S_edge_step))=>some ro33) (fun (so33:(List S_edge_step))=>(need (0<so33.length)).bind fun x40=>some (([]:List Int),so33))))))


def F170  (p_x:(List Int)) (b0x0:Int) (b0x1:List S_api_EdSheet) (b0x2:List S_api_EdEdge) (b0x3:List Int) (m1:List ((List Int)×Int)):Option ((List Int)) :=
 some p_x


def F111L1 (p_x:(List Int)) (b0x1:List S_api_EdSheet):Nat→(Int×Int)→Option ((Int×(List ((List Int)×Int)))⊕(Int))
 | 0,_=>none
 | n8+1,c7=>if (decide (c7.2<(b0x1.length:Int))) then ((idx b0x1 c7.2).bind fun x10=>(need (0≤c7.2∧c7.2<5)).bind fun x11=>(p_x[0+c7.2.toNat*1]?).bind fun x12=>(need (0≤c7.2∧c7.2<5)).bind fun x13=>(p_x[0+c7.2.toNat*1]?).bind fun x14=>F111L1 p_x b0x1 n8 ((w64 (c7.1+(w64 (x10.Weight*(if (w64 (0-x14))>x12 then (w64 (0-x14)) else x12))))),(w64 (c7.2+1)))) else (some (.inr c7.1))

def F111 (fuel:Nat)  (p_x:(List Int)) (b0x0:Int) (b0x1:List S_api_EdSheet) (b0x2:List S_api_EdEdge) (b0x3:List Int) (m1:List ((List Int)×Int)):Option (Int×(List ((List Int)×Int))) :=
 (need (b0x3.length=16)).bind fun x1=>(cutN p_x 0 5).bind fun x2=>(need (x2.length=5)).bind fun x3=>(need ((m1.all fun q=>q.1.length==5)=true)).bind fun x4=>if (!(mget eqk188 x2 m1).isSome) then ((F111L1 p_x b0x1 fuel (((mget eqk188 x2 m1).getD 0),0)).bind fun o6=>outK o6 (fun (ro6:Int×(List ((List Int)×Int)))=>some ro6) (fun (so6:Int)=>(need (b0x3.length=16)).bind fun x15=>(cutN p_x 0 5).bind fun x16=>(need (x16.length=5)).bind fun x17=>(need ((m1.all fun q=>q.1.length==5)=true)).bind fun x18=>some (so6,(mset eqk188 x16 so6 m1)))) else (some (((mget eqk188 x2 m1).getD 0),m1))


def F162L1 (fuel:Nat) (p_x:(List Int)) (b0x2:List S_api_EdEdge) (b0x3:List Int):Nat→Int→Option ((Int)⊕(Unit))
 | 0,_=>none
 | n3+1,c2=>if (decide (c2<(b0x2.length:Int))) then ((idx b0x2 c2).bind fun x5=>(need (0≤c2∧c2<8)).bind fun x6=>(b0x3[0+c2.toNat*2]?).bind fun x7=>(need (0≤c2∧c2<8)).bind fun x8=>(b0x3[0+c2.toNat*2+1]?).bind fun x9=>(need (0≤x5.A∧x5.A<5)).bind fun x10=>(p_x[0+x5.A.toNat*1]?).bind fun x11=>(need (0≤x5.B∧x5.B<5)).bind fun x12=>(p_x[0+x5.B.toNat*1]?).bind fun x13=>(F160 fuel x7 x9 ([(w64 (x11-x13))]:List Int)).bind fun x14=>if x14 then (some (.inl c2)) else (F162L1 fuel p_x b0x2 b0x3 n3 (w64 (c2+1)))) else (some (.inr ()))

def F162 (fuel:Nat)  (p_x:(List Int)) (b0x0:Int) (b0x1:List S_api_EdSheet) (b0x2:List S_api_EdEdge) (b0x3:List Int) (m1:List ((List Int)×Int)):Option (Int) :=
 (F162L1 fuel p_x b0x2 b0x3 fuel 0).bind fun o1=>outK o1 (fun (ro1:Int)=>some ro1) (fun (so1:Unit)=>some (-1))


def F169r (fuel:Nat)  (y1x0:List Int) (b1x0:List Int) (b3x0:Int) (b3x1:List S_api_EdSheet) (b3x2:List S_api_EdEdge) (b3x3:List Int) (m4:List ((List Int)×Int)) (b5x0:Int):Option ((List Int)×(List ((List Int)×Int))×Int) :=
 (need (y1x0.length=5)).bind fun x1=>(cutN y1x0 0 5).bind fun x2=>(F111 fuel x2 b3x0 b3x1 b3x2 b3x3 m4).bind fun x3=>if (decide (x3.1<b5x0)) then ((cutN y1x0 0 5).bind fun x5=>(need (x5.length=5)).bind fun x6=>(need (b1x0.length=5)).bind fun x7=>some (x5,x3.2,x3.1)) else (some (b1x0,x3.2,b5x0))


def F206L2 (b3x1:List S_api_EdSheet) (c2:Int×(List Int)×(List ((List Int)×Int))×Int):Nat→(Int×(List Int))→Option (((List Int)×(List ((List Int)×Int))×Int)⊕(((List Int))⊕((List Int))))
 | 0,_=>none
 | n10+1,c9=>if (decide (c9.1<(b3x1.length:Int))) then ((idx b3x1 c9.1).bind fun x12=>(need (0≤c9.1)).bind fun x13=>if ((Go.bits .and .i64 (c2.1 / 2^min c9.1.toNat 64) 1)==0) then (F206L2 b3x1 c2 n10 ((w64 (c9.1+1)),c9.2)) else ((need (0≤c9.1∧c9.1<5)).bind fun x15=>(c9.2[0+c9.1.toNat*1]?).bind fun x16=>(need (0≤c9.1∧c9.1<5)).bind fun x17=>(c9.2[0+c9.1.toNat*1]?).bind fun x18=>(need (0≤c9.1∧c9.1<5)).bind fun x19=>((c9.2.set (0+c9.1.toNat*1) (w64 (x16-1)))[0+c9.1.toNat*1]?).bind fun x20=>if (decide (x20<(w64 (0-x12.Most)))) then (some (.inr (.inl (c9.2.set (0+c9.1.toNat*1) (w64 (x16-1)))))) else (F206L2 b3x1 c2 n10 ((w64 (c9.1+1)),(c9.2.set (0+c9.1.toNat*1) (w64 (x16-1))))))) else (some (.inr (.inr c9.2)))

def F206L1 (fuel:Nat) (b3x0:Int) (b3x1:List S_api_EdSheet) (b3x2:List S_api_EdEdge) (b3x3:List Int) (b7x0:List Int):Nat→(Int×(List Int)×(List ((List Int)×Int))×Int)→Option (((List Int)×(List ((List Int)×Int))×Int)⊕((List Int)×(List ((List Int)×Int))×Int))
 | 0,_=>none
 | n3+1,c2=>(need (0≤(b3x1.length:Int))).bind fun x4=>if (decide (c2.1<(w64 ((1:Int)*2^min (b3x1.length:Int).toNat 64)))) then ((cutN b7x0 0 5).bind fun x6=>(need (x6.length=5)).bind fun x7=>(F206L2 b3x1 c2 fuel (0,x6)).bind fun o8=>outK o8 (fun (ro8:(List Int)×(List ((List Int)×Int))×Int)=>some (.inl ro8)) (fun yo8=>outK yo8 (fun (qo8:(List Int))=>F206L1 fuel b3x0 b3x1 b3x2 b3x3 b7x0 n3 ((w64 (c2.1+1)),c2.2.1,c2.2.2.1,c2.2.2.2)) (fun (so8:(List Int))=>(cutN so8 0 5).bind fun x22=>(F162 fuel x22 b3x0 b3x1 b3x2 b3x3 c2.2.2.1).bind fun x23=>(optG (decide (x23<0)) (cutN so8 0 5)).bind fun x24=>(optG (decide (x23<0)) (F169r fuel x24 c2.2.1 b3x0 b3x1 b3x2 b3x3 c2.2.2.1 c2.2.2.2)).bind fun x25=>if (cond (decide (x23<0)) false false) then (some (.inl ((cond (decide (x23<0)) x25.1 c2.2.1),(cond (decide (x23<0)) x25.2.1 c2.2.2.1),(cond (decide (x23<0)) x25.2.2 c2.2.2.2)))) else (F206L1 fuel b3x0 b3x1 b3x2 b3x3 b7x0 n3 ((w64 (c2.1+1)),(cond (decide (x23<0)) x25.1 c2.2.1),(cond (decide (x23<0)) x25.2.1 c2.2.2.1),(cond (decide (x23<0)) x25.2.2 c2.2.2.2)))))) else (some (.inr (c2.2.1,c2.2.2.1,c2.2.2.2)))

def F206 (fuel:Nat)  (b1x0:List Int) (b3x0:Int) (b3x1:List S_api_EdSheet) (b3x2:List S_api_EdEdge) (b3x3:List Int) (m4:List ((List Int)×Int)) (b5x0:Int) (b7x0:List Int):Option ((List Int)×(List ((List Int)×Int))×Int) :=
 (F206L1 fuel b3x0 b3x1 b3x2 b3x3 b7x0 fuel (1,b1x0,m4,b5x0)).bind fun o1=>outK o1 (fun (ro1:(List Int)×(List ((List Int)×Int))×Int)=>some ro1) (fun (so1:(List Int)×(List ((List Int)×Int))×Int)=>some (so1.1,so1.2.1,so1.2.2))


def F169 (fuel:Nat)  (first:(List Int)) (b1x0:Int) (b1x1:List S_api_EdSheet) (b1x2:List S_api_EdEdge) (b1x3:List Int) (m2:List ((List Int)×Int)) (b3x0:List Int):Option ((List Int)×Int×(List ((List Int)×Int))) :=
 (cutN first 0 5).bind fun x1=>(F111 fuel x1 b1x0 b1x1 b1x2 b1x3 m2).bind fun x2=>(F206 fuel first b1x0 b1x1 b1x2 b1x3 x2.2 x2.1 b3x0).bind fun x3=>(cutN x3.1 0 5).bind fun x4=>(need (x4.length=5)).bind fun x5=>(need (x4.length=5)).bind fun x6=>some (x4,x3.2.2,x3.2.1)


def F109r (fuel:Nat)  (y1x0:List Int) (b2x0:Int) (b2x1:List S_api_EdSheet) (b2x2:List S_api_EdEdge) (b2x3:List Int) (m3:List ((List Int)×Int)) (b4x0:List Int) (b5x0:Bool):Option (Bool×(List ((List Int)×Int))×(List Int)×Bool) :=
 (need (y1x0.length=5)).bind fun x1=>(cutN y1x0 0 5).bind fun x2=>(F111 fuel x2 b2x0 b2x1 b2x2 b2x3 m3).bind fun x3=>(cutN b4x0 0 5).bind fun x4=>(F111 fuel x4 b2x0 b2x1 b2x2 b2x3 x3.2).bind fun x5=>if (x3.1==x5.1) then ((cutN y1x0 0 5).bind fun x7=>(need (x7.length=5)).bind fun x8=>(need (b4x0.length=5)).bind fun x9=>some (false,x5.2,x7,true)) else (some (true,x5.2,b4x0,b5x0))


def F206v1L2 (b2x1:List S_api_EdSheet) (c2:Int×(List ((List Int)×Int))×(List Int)×Bool):Nat→(Int×(List Int))→Option ((Bool×(List ((List Int)×Int))×(List Int)×Bool)⊕(((List Int))⊕((List Int))))
 | 0,_=>none
 | n10+1,c9=>if (decide (c9.1<(b2x1.length:Int))) then ((idx b2x1 c9.1).bind fun x12=>(need (0≤c9.1)).bind fun x13=>if ((Go.bits .and .i64 (c2.1 / 2^min c9.1.toNat 64) 1)==0) then (F206v1L2 b2x1 c2 n10 ((w64 (c9.1+1)),c9.2)) else ((need (0≤c9.1∧c9.1<5)).bind fun x15=>(c9.2[0+c9.1.toNat*1]?).bind fun x16=>(need (0≤c9.1∧c9.1<5)).bind fun x17=>(c9.2[0+c9.1.toNat*1]?).bind fun x18=>(need (0≤c9.1∧c9.1<5)).bind fun x19=>((c9.2.set (0+c9.1.toNat*1) (w64 (x16-1)))[0+c9.1.toNat*1]?).bind fun x20=>if (decide (x20<(w64 (0-x12.Most)))) then (some (.inr (.inl (c9.2.set (0+c9.1.toNat*1) (w64 (x16-1)))))) else (F206v1L2 b2x1 c2 n10 ((w64 (c9.1+1)),(c9.2.set (0+c9.1.toNat*1) (w64 (x16-1))))))) else (some (.inr (.inr c9.2)))

def F206v1L1 (fuel:Nat) (b2x0:Int) (b2x1:List S_api_EdSheet) (b2x2:List S_api_EdEdge) (b2x3:List Int) (b7x0:List Int):Nat→(Int×(List ((List Int)×Int))×(List Int)×Bool)→Option ((Bool×(List ((List Int)×Int))×(List Int)×Bool)⊕((List ((List Int)×Int))×(List Int)×Bool))
 | 0,_=>none
 | n3+1,c2=>(need (0≤(b2x1.length:Int))).bind fun x4=>if (decide (c2.1<(w64 ((1:Int)*2^min (b2x1.length:Int).toNat 64)))) then ((cutN b7x0 0 5).bind fun x6=>(need (x6.length=5)).bind fun x7=>(F206v1L2 b2x1 c2 fuel (0,x6)).bind fun o8=>outK o8 (fun (ro8:Bool×(List ((List Int)×Int))×(List Int)×Bool)=>some (.inl ro8)) (fun yo8=>outK yo8 (fun (qo8:(List Int))=>F206v1L1 fuel b2x0 b2x1 b2x2 b2x3 b7x0 n3 ((w64 (c2.1+1)),c2.2.1,c2.2.2.1,c2.2.2.2)) (fun (so8:(List Int))=>(cutN so8 0 5).bind fun x22=>(F162 fuel x22 b2x0 b2x1 b2x2 b2x3 c2.2.1).bind fun x23=>(optG (decide (x23<0)) (cutN so8 0 5)).bind fun x24=>(optG (decide (x23<0)) (F109r fuel x24 b2x0 b2x1 b2x2 b2x3 c2.2.1 c2.2.2.1 c2.2.2.2)).bind fun x25=>if (cond (decide (x23<0)) (!x25.1) false) then (some (.inl ((cond (decide (x23<0)) x25.1 true),(cond (decide (x23<0)) x25.2.1 c2.2.1),(cond (decide (x23<0)) x25.2.2.1 c2.2.2.1),(cond (decide (x23<0)) x25.2.2.2 c2.2.2.2)))) else (F206v1L1 fuel b2x0 b2x1 b2x2 b2x3 b7x0 n3 ((w64 (c2.1+1)),(cond (decide (x23<0)) x25.2.1 c2.2.1),(cond (decide (x23<0)) x25.2.2.1 c2.2.2.1),(cond (decide (x23<0)) x25.2.2.2 c2.2.2.2)))))) else (some (.inr (c2.2.1,c2.2.2.1,c2.2.2.2)))

def F206v1 (fuel:Nat)  (b2x0:Int) (b2x1:List S_api_EdSheet) (b2x2:List S_api_EdEdge) (b2x3:List Int) (m3:List ((List Int)×Int)) (b4x0:List Int) (b5x0:Bool) (b7x0:List Int):Option (Bool×(List ((List Int)×Int))×(List Int)×Bool) :=
 (F206v1L1 fuel b2x0 b2x1 b2x2 b2x3 b7x0 fuel (1,m3,b4x0,b5x0)).bind fun o1=>outK o1 (fun (ro1:Bool×(List ((List Int)×Int))×(List Int)×Bool)=>some ro1) (fun (so1:(List ((List Int)×Int))×(List Int)×Bool)=>some (true,so1.1,so1.2.1,so1.2.2))


def F109L1 (fuel:Nat) (b0x0:Int) (b0x1:List S_api_EdSheet) (b0x2:List S_api_EdEdge) (b0x3:List Int):Nat→((List ((List Int)×Int))×(List Int)×(List Int))→Option (((List Int)×Bool×(List ((List Int)×Int)))⊕((List ((List Int)×Int))×(List Int)×(List Int)))
 | 0,_=>none
 | n15+1,c14=>(cutN c14.2.2 0 5).bind fun x16=>(cutN c14.2.1 0 5).bind fun x17=>(need (x16.length=5)).bind fun x18=>(need (x17.length=5)).bind fun x19=>if (!(x16==x17)) then ((cutN c14.2.2 0 5).bind fun x21=>(need (x21.length=5)).bind fun x22=>(need (c14.2.1.length=5)).bind fun x23=>(cutN c14.2.2 0 5).bind fun x24=>(need (x24.length=5)).bind fun x25=>(cutN x21 0 5).bind fun x26=>(cutN x21 0 5).bind fun x27=>(F170 x27 b0x0 b0x1 b0x2 b0x3 c14.1).bind fun x28=>(F169 fuel x26 b0x0 b0x1 b0x2 b0x3 c14.1 x28).bind fun x29=>(need (x29.1.length=5)).bind fun x30=>(need (x24.length=5)).bind fun x31=>F109L1 fuel b0x0 b0x1 b0x2 b0x3 n15 (x29.2.2,x21,x29.1)) else (some (.inr (c14.1,c14.2.1,c14.2.2)))

def F109L2 (fuel:Nat) (b0x0:Int) (b0x1:List S_api_EdSheet) (b0x2:List S_api_EdEdge) (b0x3:List Int):Nat→((List ((List Int)×Int))×(List Int)×Bool)→Option (((List Int)×Bool×(List ((List Int)×Int)))⊕((List ((List Int)×Int))×(List Int)×Bool))
 | 0,_=>none
 | n34+1,c33=>if c33.2.2 then ((cutN c33.2.1 0 5).bind fun x36=>(F170 x36 b0x0 b0x1 b0x2 b0x3 c33.1).bind fun x37=>(F206v1 fuel b0x0 b0x1 b0x2 b0x3 c33.1 c33.2.1 false x37).bind fun x38=>if x38.1 then (F109L2 fuel b0x0 b0x1 b0x2 b0x3 n34 (x38.2.1,x38.2.2.1,x38.2.2.2)) else (F109L2 fuel b0x0 b0x1 b0x2 b0x3 n34 (x38.2.1,x38.2.2.1,x38.2.2.2))) else (some (.inr (c33.1,c33.2.1,c33.2.2)))

def F109 (fuel:Nat)  (b0x0:Int) (b0x1:List S_api_EdSheet) (b0x2:List S_api_EdEdge) (b0x3:List Int) (m1:List ((List Int)×Int)):Option ((List Int)×Bool×(List ((List Int)×Int))) :=
 (F163 fuel (b0x1.length:Int) 0 b0x0 b0x1 b0x2 b0x3 m1).bind fun x1=>if (!(Nat.beq x1.2.length 0)) then ((cutN (List.replicate 5 (0:Int)) 0 5).bind fun x3=>(need (x3.length=5)).bind fun x4=>(need (x3.length=5)).bind fun x5=>some (x3,false,m1)) else ((need ((List.replicate 5 (0:Int)).length=5)).bind fun x6=>(sub x1.1 0 (b0x1.length:Int)).bind fun x7=>(cutN (x7.take (List.replicate 5 (0:Int)).length++(List.replicate 5 (0:Int)).drop x7.length:List Int) 0 5).bind fun x8=>(cutN (x7.take (List.replicate 5 (0:Int)).length++(List.replicate 5 (0:Int)).drop x7.length:List Int) 0 5).bind fun x9=>(F170 x9 b0x0 b0x1 b0x2 b0x3 m1).bind fun x10=>(F169 fuel x8 b0x0 b0x1 b0x2 b0x3 m1 x10).bind fun x11=>(need (x11.1.length=5)).bind fun x12=>(F109L1 fuel b0x0 b0x1 b0x2 b0x3 fuel (x11.2.2,(x7.take (List.replicate 5 (0:Int)).length++(List.replicate 5 (0:Int)).drop x7.length:List Int),x11.1)).bind fun o13=>outK o13 (fun (ro13:(List Int)×Bool×(List ((List Int)×Int)))=>(need (ro13.1.length=5)).bind fun x45=>some ro13) (fun (so13:(List ((List Int)×Int))×(List Int)×(List Int))=>(F109L2 fuel b0x0 b0x1 b0x2 b0x3 fuel (so13.1,so13.2.1,true)).bind fun o32=>outK o32 (fun (ro32:(List Int)×Bool×(List ((List Int)×Int)))=>(need (ro32.1.length=5)).bind fun x44=>some ro32) (fun (so32:(List ((List Int)×Int))×(List Int)×Bool)=>(cutN so32.2.1 0 5).bind fun x40=>(need (x40.length=5)).bind fun x41=>(need (so32.2.1.length=5)).bind fun x42=>(need (x40.length=5)).bind fun x43=>some (x40,true,so32.1))))


def F110v9  (p_s:(List Int)):Option ((List Int)) :=
 (need (0<p_s.length)).bind fun x1=>(need ((([]:List Int).length+p_s.length)*8≤140737488355328∧([]:List Int).length+p_s.length≤9223372036854775807)).bind fun x2=>some (([]:List Int)++p_s)


def F34 (fuel:Nat)  (p_c:S_api_EdCase):Option ((List Int)×Int×Int) :=
 (F108v1 fuel p_c).bind fun x1=>outK x1 (fun (y2:Int×Int×(List S_api_EdSheet)×(List S_api_EdEdge)×(List Int)×(List ((List Int)×Int)))=>if (y2.1 != 0) then (some (([]:List Int),0,y2.1)) else ((F109 fuel y2.2.1 y2.2.2.1 y2.2.2.2.1 y2.2.2.2.2.1 y2.2.2.2.2.2).bind fun x4=>(need (x4.1.length=5)).bind fun x5=>if (!x4.2.1) then (some (([]:List Int),0,9)) else ((sub x4.1 0 (p_c.Sheets.length:Int)).bind fun x7=>(need (x4.1.length=5)).bind fun x8=>(F110v9 x7).bind fun x9=>(cutN x4.1 0 5).bind fun x10=>(F111 fuel x10 y2.2.1 y2.2.2.1 y2.2.2.2.1 y2.2.2.2.2.1 x4.2.2).bind fun x11=>some (x9,x11.1,0)))) (fun (y12:Int)=>if (y12 != 0) then (some (([]:List Int),0,y12)) else (none))
end Go.Proofs.YtkcgfceihpampaaGreatDoor
