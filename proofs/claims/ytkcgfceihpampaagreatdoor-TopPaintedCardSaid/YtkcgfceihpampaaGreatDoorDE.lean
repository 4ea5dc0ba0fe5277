/- What functions of the seat compute. Printed by a program of mine. -/
import Derived.Test.YtkcgfceihpampaaGreatDoorP
import Derived.Test.YtkcgfceihpampaaGreatDoorDU
namespace Go.Proofs.YtkcgfceihpampaaGreatDoor
open Go Go.Sx
set_option linter.unusedVariables false


def F71  (p_n:Int) (low:Int) (high:Int):Option (Bool) :=
 some (cond (decide (p_n≥low)) (decide (p_n≤high)) false)


def F142L1 (p_s:ByteArray):Nat→Int→Option ((Bool)⊕(Unit))
 | 0,_=>none
 | n7+1,c6=>if (decide (c6<(p_s.size:Int))) then ((strAt p_s c6).bind fun x9=>(optG (!(decide (x9<97))) (strAt p_s c6)).bind fun x10=>(optG (cond (decide (x9<97)) true (decide (x10>122))) (strAt p_s c6)).bind fun x11=>(optG ((cond (decide (x9<97)) true (decide (x10>122)))&&(!(decide (x11<48)))) (strAt p_s c6)).bind fun x12=>(optG (cond (cond (decide (x9<97)) true (decide (x10>122))) (cond (decide (x11<48)) true (decide (x12>57))) false) (strAt p_s c6)).bind fun x13=>if (cond (cond (cond (decide (x9<97)) true (decide (x10>122))) (cond (decide (x11<48)) true (decide (x12>57))) false) (x13 != 45) false) then (some (.inl false)) else (F142L1 p_s n7 (w64 (c6+1)))) else (some (.inr ()))

def F142 (fuel:Nat)  (p_s:ByteArray):Option (Bool) :=
 (F71 (p_s.size:Int) 1 16).bind fun x1=>(optG (!(!x1)) (strAt p_s 0)).bind fun x2=>(optG (!(cond (!x1) true (decide (x2<97)))) (strAt p_s 0)).bind fun x3=>if (cond (cond (!x1) true (decide (x2<97))) true (decide (x3>122))) then (some false) else ((F142L1 p_s fuel 0).bind fun o5=>outK o5 (fun (ro5:Bool)=>some ro5) (fun (so5:Unit)=>some true))


def F143L1 (l:(List ByteArray)) (p_s:ByteArray):Nat→Int→Option ((Int)⊕(Unit))
 | 0,_=>none
 | n3+1,c2=>if (decide (c2<(l.length:Int))) then ((idx l c2).bind fun x5=>if (x5==p_s) then (some (.inl c2)) else (F143L1 l p_s n3 (w64 (c2+1)))) else (some (.inr ()))

def F143 (fuel:Nat)  (l:(List ByteArray)) (p_s:ByteArray):Option (Int) :=
 (F143L1 l p_s fuel 0).bind fun o1=>outK o1 (fun (ro1:Int)=>some ro1) (fun (so1:Unit)=>some (-1))


def F72 (fuel:Nat)  (p_s:ByteArray) (before:(List ByteArray)):Option (Int) :=
 (F142 fuel p_s).bind fun x1=>if (!x1) then (some 6) else ((F143 fuel before p_s).bind fun x3=>if (decide (x3≥0)) then (some 5) else (some 0))


def F146L1 (l:(List S_api_Span)) (low:Int) (high:Int):Nat→(Int×Int)→Option ((Int)⊕(Int))
 | 0,_=>none
 | n3+1,c2=>if (decide (c2.2<(l.length:Int))) then ((idx l c2.2).bind fun x5=>(F71 x5.Lo low high).bind fun x6=>(optG (!(!x6)) (idx l c2.2)).bind fun x7=>(optG (!(!x6)) (F71 x7.Hi low high)).bind fun x8=>if (cond (!x6) true (!x8)) then (some (.inl 7)) else ((idx l c2.2).bind fun x10=>(idx l c2.2).bind fun x11=>if (decide (x10.Lo>x11.Hi)) then (F146L1 l low high n3 (2,(w64 (c2.2+1)))) else (F146L1 l low high n3 (c2.1,(w64 (c2.2+1)))))) else (some (.inr c2.1))

def F146 (fuel:Nat)  (l:(List S_api_Span)) (low:Int) (high:Int):Option (Int) :=
 (F146L1 l low high fuel (0,0)).bind fun o1=>outK o1 (fun (ro1:Int)=>some ro1) (fun (so1:Int)=>some so1)


def F83 (fuel:Nat)  (p_s:S_api_Span) (low:Int) (high:Int):Option (Int) :=
 (F146 fuel ([p_s]:List S_api_Span) low high).bind fun x1=>some x1


def F73 (fuel:Nat)  (p_s:S_api_ShSheet) (p_x:S_api_ShNote):Option (Int) :=
 (F71 p_x.Kind 1 4).bind fun x1=>if (!x1) then (some 6) else ((F71 p_x.A 0 (w64 ((p_s.Points.length:Int)-1))).bind fun x3=>(optG (!(!x3)) (F71 p_x.B 0 (w64 ((p_s.Points.length:Int)-1)))).bind fun x4=>if (cond (!x3) true (!x4)) then (some 4) else (if (cond (cond (cond (p_x.Kind==3) true (p_x.Kind==4)) (p_x.A==p_x.B) false) true (cond (!(cond (p_x.Kind==3) true (p_x.Kind==4))) (p_x.B != 0) false)) then (some 2) else (if (p_x.Kind==1) then ((F83 fuel p_x.By 0 9000).bind fun x8=>some x8) else (if (p_x.Kind==4) then ((F83 fuel p_x.By (-9000) 9000).bind fun x10=>some x10) else (if (p_x.Kind==3) then ((F83 fuel p_x.By 0 0).bind fun x12=>some x12) else ((need (p_s.Interval≠0)).bind fun x13=>(F83 fuel p_x.By 0 (w64 ((9000:Int).tdiv p_s.Interval))).bind fun x14=>if (cond (x14==0) (p_x.By.Lo==p_x.By.Hi) false) then (some 2) else (some x14)))))))


def F16L1 (fuel:Nat) (p_s:S_api_ShSheet):Nat→Int→Option ((Int×Int×Int)⊕(Unit))
 | 0,_=>none
 | n7+1,c6=>if (decide (c6<(p_s.Points.length:Int))) then ((idx p_s.Points c6).bind fun x9=>(sub p_s.Points 0 c6).bind fun x10=>(F72 fuel x9 x10).bind fun x11=>if (x11 != 0) then (some (.inl (2,c6,x11))) else (F16L1 fuel p_s n7 (w64 (c6+1)))) else (some (.inr ()))

def F16L2 (fuel:Nat) (p_s:S_api_ShSheet):Nat→Int→Option ((Int×Int×Int)⊕(Unit))
 | 0,_=>none
 | n16+1,c15=>if (decide (c15<(p_s.Notes.length:Int))) then ((idx p_s.Notes c15).bind fun x18=>(F73 fuel p_s x18).bind fun x19=>if (x19 != 0) then (some (.inl (3,c15,x19))) else (F16L2 fuel p_s n16 (w64 (c15+1)))) else (some (.inr ()))

def F16 (fuel:Nat)  (p_s:S_api_ShSheet):Option (Int×Int×Int) :=
 (F71 p_s.Interval 1 1000).bind fun x1=>if (!x1) then (some (1,0,7)) else ((F71 (p_s.Points.length:Int) 1 8).bind fun x3=>if (!x3) then (some (2,0,3)) else ((F16L1 fuel p_s fuel 0).bind fun o5=>outK o5 (fun (ro5:Int×Int×Int)=>some ro5) (fun (so5:Unit)=>if (decide ((p_s.Notes.length:Int)>12)) then (some (3,0,3)) else ((F16L2 fuel p_s fuel 0).bind fun o14=>outK o14 (fun (ro14:Int×Int×Int)=>some ro14) (fun (so14:Unit)=>some (0,0,0))))))


def F80  (l:(List Int)) (p_n:Int):Option (Int) :=
 if ((l.length:Int)==0) then (some 0) else ((need ((l.length:Int)≠0)).bind fun x2=>(idx l (p_n.tmod (l.length:Int))).bind fun x3=>some (IntKind.i64.wrap x3))


def F18L1 (p_s:S_api_ShSheet) (p_x:(List Int)):Nat→(Int×(List Int))→Option (((List Int))⊕((List Int)))
 | 0,_=>none
 | n4+1,c3=>if (decide (c3.1<(p_s.Points.length:Int))) then ((F80 p_x c3.1).bind fun x6=>(need ((c3.2.length+([(x6.tmod 9001)]:List Int).length)*8≤140737488355328∧c3.2.length+([(x6.tmod 9001)]:List Int).length≤9223372036854775807)).bind fun x7=>F18L1 p_s p_x n4 ((w64 (c3.1+1)),(c3.2++([(x6.tmod 9001)]:List Int)))) else (some (.inr c3.2))

def F18 (fuel:Nat)  (p_s:S_api_ShSheet) (p_x:(List Int)):Option ((List Int)) :=
 (F18L1 p_s p_x fuel (0,([]:List Int))).bind fun o2=>outK o2 (fun (ro2:(List Int))=>some ro2) (fun (so2:(List Int))=>some so2)


def F81 (fuel:Nat)  (p_s:S_api_ShSheet):Option (Bool) :=
 (F16 fuel p_s).bind fun x1=>some (x1.2.2==0)


def F19L1 (fuel:Nat) (p_s:S_api_ShSheet) (p_h:(List Int)) (off:(List Int)):Nat→(Int×(List S_api_ShNote))→Option ((S_api_ShSheet)⊕((List S_api_ShNote)))
 | 0,_=>none
 | n4+1,c3=>if (decide (c3.1<(p_s.Notes.length:Int))) then ((idx p_s.Notes c3.1).bind fun x6=>if (cond (cond (cond (decide (x6.A<0)) true (decide (x6.A≥(p_h.length:Int)))) true (decide (x6.B<0))) true (decide (x6.B≥(p_h.length:Int)))) then (F19L1 fuel p_s p_h off n4 ((w64 (c3.1+1)),c3.2)) else ((F80 off (w64 (2*c3.1))).bind fun x8=>(F80 off (w64 ((w64 (2*c3.1))+1))).bind fun x9=>if (x6.Kind==1) then ((idx p_h x6.A).bind fun x11=>(idx p_h x6.A).bind fun x12=>(F47 (if (w64 (x11-(x8.tmod 50)))>0 then (w64 (x11-(x8.tmod 50))) else 0) (if (w64 (x12+(x9.tmod 50)))<9000 then (w64 (x12+(x9.tmod 50))) else 9000)).bind fun x13=>(F81 fuel (⟨p_s.Interval,p_s.Points,([(⟨x6.Kind,x6.A,x6.B,(⟨x13.Lo,x13.Hi⟩:S_api_Span)⟩:S_api_ShNote)]:List S_api_ShNote)⟩:S_api_ShSheet)).bind fun x14=>if x14 then ((need ((c3.2.length+([(⟨x6.Kind,x6.A,x6.B,(⟨x13.Lo,x13.Hi⟩:S_api_Span)⟩:S_api_ShNote)]:List S_api_ShNote).length)*40≤140737488355328∧c3.2.length+([(⟨x6.Kind,x6.A,x6.B,(⟨x13.Lo,x13.Hi⟩:S_api_Span)⟩:S_api_ShNote)]:List S_api_ShNote).length≤9223372036854775807)).bind fun x16=>F19L1 fuel p_s p_h off n4 ((w64 (c3.1+1)),(c3.2++([(⟨x6.Kind,x6.A,x6.B,(⟨x13.Lo,x13.Hi⟩:S_api_Span)⟩:S_api_ShNote)]:List S_api_ShNote)))) else (F19L1 fuel p_s p_h off n4 ((w64 (c3.1+1)),c3.2))) else (if (x6.Kind==2) then ((idx p_h x6.A).bind fun x18=>(need (p_s.Interval≠0)).bind fun x19=>(idx p_h x6.A).bind fun x20=>(need (p_s.Interval≠0)).bind fun x21=>(F47 (w64 (x18.tdiv p_s.Interval)) (w64 ((w64 (x20.tdiv p_s.Interval))+1))).bind fun x22=>(F81 fuel (⟨p_s.Interval,p_s.Points,([(⟨x6.Kind,x6.A,x6.B,(⟨x22.Lo,x22.Hi⟩:S_api_Span)⟩:S_api_ShNote)]:List S_api_ShNote)⟩:S_api_ShSheet)).bind fun x23=>if x23 then ((need ((c3.2.length+([(⟨x6.Kind,x6.A,x6.B,(⟨x22.Lo,x22.Hi⟩:S_api_Span)⟩:S_api_ShNote)]:List S_api_ShNote).length)*40≤140737488355328∧c3.2.length+([(⟨x6.Kind,x6.A,x6.B,(⟨x22.Lo,x22.Hi⟩:S_api_Span)⟩:S_api_ShNote)]:List S_api_ShNote).length≤9223372036854775807)).bind fun x25=>F19L1 fuel p_s p_h off n4 ((w64 (c3.1+1)),(c3.2++([(⟨x6.Kind,x6.A,x6.B,(⟨x22.Lo,x22.Hi⟩:S_api_Span)⟩:S_api_ShNote)]:List S_api_ShNote)))) else (F19L1 fuel p_s p_h off n4 ((w64 (c3.1+1)),c3.2))) else (if (x6.Kind==3) then ((idx p_h x6.A).bind fun x27=>(idx p_h x6.B).bind fun x28=>if (x27 != x28) then (F19L1 fuel p_s p_h off n4 ((w64 (c3.1+1)),c3.2)) else ((F81 fuel (⟨p_s.Interval,p_s.Points,([x6]:List S_api_ShNote)⟩:S_api_ShSheet)).bind fun x30=>if x30 then ((need ((c3.2.length+([x6]:List S_api_ShNote).length)*40≤140737488355328∧c3.2.length+([x6]:List S_api_ShNote).length≤9223372036854775807)).bind fun x32=>F19L1 fuel p_s p_h off n4 ((w64 (c3.1+1)),(c3.2++([x6]:List S_api_ShNote)))) else (F19L1 fuel p_s p_h off n4 ((w64 (c3.1+1)),c3.2)))) else ((if (x6.Kind==4) then ((idx p_h x6.A).bind fun x35=>(idx p_h x6.B).bind fun x36=>(F47 (if (w64 ((w64 (x35-x36))-(x8.tmod 50)))>(-9000) then (w64 ((w64 (x35-x36))-(x8.tmod 50))) else (-9000)) (if (w64 ((w64 (x35-x36))+(x9.tmod 50)))<9000 then (w64 ((w64 (x35-x36))+(x9.tmod 50))) else 9000)).bind fun x37=>some (.inr (x37.Lo,x37.Hi))) else (some (.inr (x6.By.Lo,x6.By.Hi)))).bind fun o33=>outK o33 (fun (ro33:S_api_ShSheet)=>some (.inl ro33)) (fun (so33:Int×Int)=>(F81 fuel (⟨p_s.Interval,p_s.Points,([(⟨x6.Kind,x6.A,x6.B,(⟨so33.1,so33.2⟩:S_api_Span)⟩:S_api_ShNote)]:List S_api_ShNote)⟩:S_api_ShSheet)).bind fun x38=>if x38 then ((need ((c3.2.length+([(⟨x6.Kind,x6.A,x6.B,(⟨so33.1,so33.2⟩:S_api_Span)⟩:S_api_ShNote)]:List S_api_ShNote).length)*40≤140737488355328∧c3.2.length+([(⟨x6.Kind,x6.A,x6.B,(⟨so33.1,so33.2⟩:S_api_Span)⟩:S_api_ShNote)]:List S_api_ShNote).length≤9223372036854775807)).bind fun x40=>F19L1 fuel p_s p_h off n4 ((w64 (c3.1+1)),(c3.2++([(⟨x6.Kind,x6.A,x6.B,(⟨so33.1,so33.2⟩:S_api_Span)⟩:S_api_ShNote)]:List S_api_ShNote)))) else (F19L1 fuel p_s p_h off n4 ((w64 (c3.1+1)),c3.2)))))))) else (some (.inr c3.2))

def F19 (fuel:Nat)  (p_s:S_api_ShSheet) (p_h:(List Int)) (off:(List Int)):Option (S_api_ShSheet) :=
 (F19L1 fuel p_s p_h off fuel (0,([]:List S_api_ShNote))).bind fun o2=>outK o2 (fun (ro2:S_api_ShSheet)=>some ro2) (fun (so2:(List S_api_ShNote))=>some (⟨p_s.Interval,p_s.Points,so2⟩:S_api_ShSheet))
end Go.Proofs.YtkcgfceihpampaaGreatDoor
