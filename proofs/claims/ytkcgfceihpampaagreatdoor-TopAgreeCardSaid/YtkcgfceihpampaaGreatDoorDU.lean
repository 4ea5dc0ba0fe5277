/- What functions of the seat compute. Printed by a program of mine. -/
import Derived.Test.YtkcgfceihpampaaGreatDoorP
import Derived.Test.YtkcgfceihpampaaGreatDoorDA
import Derived.Test.YtkcgfceihpampaaGreatDoorDB
import Derived.Test.YtkcgfceihpampaaGreatDoorDC
namespace Go.Proofs.YtkcgfceihpampaaGreatDoor
open Go Go.Sx
set_option linter.unusedVariables false


def F40 (fuel:Nat)  (p_s:S_api_ShSheet) (p:Int) (q:Int):Option (S_api_Span×Int×Int) :=
 (F65 fuel p_s).bind fun x1=>if (x1.2.2 != 0) then (some ((⟨0,0⟩:S_api_Span),0,x1.2.2)) else ((F113 fuel 0 (w64 ((p_s.Points.length:Int)-1)) ([p,q]:List Int)).bind fun x3=>if x3 then (some ((⟨0,0⟩:S_api_Span),0,4)) else ((F62 fuel p_s).bind fun x5=>(need (x5.1.length=81)).bind fun x6=>if (x5.2 != 0) then (some ((⟨0,0⟩:S_api_Span),0,x5.2)) else ((need (0≤p∧p<9)).bind fun x8=>(need (0≤q∧q<9)).bind fun x9=>(x5.1[0+p.toNat*9+q.toNat*1]?).bind fun x10=>(need (0≤q∧q<9)).bind fun x11=>(need (0≤p∧p<9)).bind fun x12=>(x5.1[0+q.toNat*9+p.toNat*1]?).bind fun x13=>if (((w64 (0-x10))==0)&&(x13==0)) then (some ((⟨(w64 (0-x10)),x13⟩:S_api_Span),3,0)) else (if (decide ((w64 (0-x10))>0)) then (some ((⟨(w64 (0-x10)),x13⟩:S_api_Span),2,0)) else (if (decide (x13<0)) then (some ((⟨(w64 (0-x10)),x13⟩:S_api_Span),1,0)) else (some ((⟨(w64 (0-x10)),x13⟩:S_api_Span),0,0)))))))


def F41L2 (fuel:Nat) (p_s:S_api_ShSheet) (c6:Int×(List Int)):Nat→(Bool×Int×(List Int))→Option (((List Int)×Int)⊕(Bool×(List Int)))
 | 0,_=>none
 | n13+1,c12=>if (decide (c12.2.1<(p_s.Points.length:Int))) then ((optG c12.1 (F114 fuel c6.1 c12.2.1 0 c12.2.2)).bind fun x15=>F41L2 fuel p_s c6 n13 ((cond c12.1 x15.1 false),(w64 (c12.2.1+1)),(cond c12.1 x15.2 c12.2.2))) else (some (.inr (c12.1,c12.2.2)))

def F41L1 (fuel:Nat) (p_s:S_api_ShSheet) (x1:(List Int)×Int):Nat→(Int×(List Int))→Option (((List Int)×Int)⊕((List Int)))
 | 0,_=>none
 | n7+1,c6=>if (decide (c6.1<(p_s.Points.length:Int))) then ((cutN x1.1 0 81).bind fun x9=>(need (x9.length=81)).bind fun x10=>(F41L2 fuel p_s c6 fuel (true,0,x9)).bind fun o11=>outK o11 (fun (ro11:(List Int)×Int)=>some (.inl ro11)) (fun (so11:Bool×(List Int))=>if so11.1 then ((need ((c6.2.length+([c6.1]:List Int).length)*8≤140737488355328∧c6.2.length+([c6.1]:List Int).length≤9223372036854775807)).bind fun x17=>F41L1 fuel p_s x1 n7 ((w64 (c6.1+1)),(c6.2++([c6.1]:List Int)))) else (F41L1 fuel p_s x1 n7 ((w64 (c6.1+1)),c6.2)))) else (some (.inr c6.2))

def F41 (fuel:Nat)  (p_s:S_api_ShSheet):Option ((List Int)×Int) :=
 (F62 fuel p_s).bind fun x1=>(need (x1.1.length=81)).bind fun x2=>if (x1.2 != 0) then (some (([]:List Int),x1.2)) else ((F41L1 fuel p_s x1 fuel (0,([]:List Int))).bind fun o5=>outK o5 (fun (ro5:(List Int)×Int)=>some ro5) (fun (so5:(List Int))=>some (so5,0)))


def F47  (lo:Int) (hi:Int):Option (S_api_Span) :=
 some (⟨lo,hi⟩:S_api_Span)


def F112  (kind:Int) (p_a:Int) (p_b:Int) (lo:Int) (hi:Int):Option (S_api_ShNote) :=
 (F47 lo hi).bind fun x1=>some (⟨kind,p_a,p_b,(⟨x1.Lo,x1.Hi⟩:S_api_Span)⟩:S_api_ShNote)


def F37  (further:(List S_api_ShNote)):Option (S_api_ShSheet) :=
 (F112 1 0 0 1180 1200).bind fun x1=>(F112 2 1 0 9 10).bind fun x2=>(F112 3 3 1 0 0).bind fun x3=>(F112 4 0 2 250 300).bind fun x4=>(need ((([(⟨x1.Kind,x1.A,x1.B,(⟨x1.By.Lo,x1.By.Hi⟩:S_api_Span)⟩:S_api_ShNote),(⟨x2.Kind,x2.A,x2.B,(⟨x2.By.Lo,x2.By.Hi⟩:S_api_Span)⟩:S_api_ShNote),(⟨x3.Kind,x3.A,x3.B,(⟨x3.By.Lo,x3.By.Hi⟩:S_api_Span)⟩:S_api_ShNote),(⟨x4.Kind,x4.A,x4.B,(⟨x4.By.Lo,x4.By.Hi⟩:S_api_Span)⟩:S_api_ShNote)]:List S_api_ShNote).length+further.length)*40≤140737488355328∧([(⟨x1.Kind,x1.A,x1.B,(⟨x1.By.Lo,x1.By.Hi⟩:S_api_Span)⟩:S_api_ShNote),(⟨x2.Kind,x2.A,x2.B,(⟨x2.By.Lo,x2.By.Hi⟩:S_api_Span)⟩:S_api_ShNote),(⟨x3.Kind,x3.A,x3.B,(⟨x3.By.Lo,x3.By.Hi⟩:S_api_Span)⟩:S_api_ShNote),(⟨x4.Kind,x4.A,x4.B,(⟨x4.By.Lo,x4.By.Hi⟩:S_api_Span)⟩:S_api_ShNote)]:List S_api_ShNote).length+further.length≤9223372036854775807)).bind fun x5=>some (⟨100,([(⟨#[116,111,114]⟩:ByteArray),(⟨#[109,101,114,101]⟩:ByteArray),(⟨#[102,111,114,100]⟩:ByteArray),(⟨#[100,97,109]⟩:ByteArray)]:List ByteArray),(([(⟨x1.Kind,x1.A,x1.B,(⟨x1.By.Lo,x1.By.Hi⟩:S_api_Span)⟩:S_api_ShNote),(⟨x2.Kind,x2.A,x2.B,(⟨x2.By.Lo,x2.By.Hi⟩:S_api_Span)⟩:S_api_ShNote),(⟨x3.Kind,x3.A,x3.B,(⟨x3.By.Lo,x3.By.Hi⟩:S_api_Span)⟩:S_api_ShNote),(⟨x4.Kind,x4.A,x4.B,(⟨x4.By.Lo,x4.By.Hi⟩:S_api_Span)⟩:S_api_ShNote)]:List S_api_ShNote)++further)⟩:S_api_ShSheet)


def F38   : Option ((List S_api_ShNote)) :=
 (F112 4 1 2 (-40) (-10)).bind fun x1=>some ([(⟨x1.Kind,x1.A,x1.B,(⟨x1.By.Lo,x1.By.Hi⟩:S_api_Span)⟩:S_api_ShNote)]:List S_api_ShNote)


def F39   : Option ((List S_api_ShNote)) :=
 (F112 4 1 0 0 10).bind fun x1=>some ([(⟨x1.Kind,x1.A,x1.B,(⟨x1.By.Lo,x1.By.Hi⟩:S_api_Span)⟩:S_api_ShNote)]:List S_api_ShNote)


def F46   : Option (ByteArray) :=
 some (⟨#[115,104,101,101,116,32,49,48,48,10,112,111,105,110,116,32,116,111,114,10,112,111,105,110,116,32,109,101,114,101,10,112,111,105,110,116,32,102,111,114,100,10,112,111,105,110,116,32,100,97,109,10,115,112,111,116,32,116,111,114,32,49,49,56,48,32,49,50,48,48,10,99,111,110,116,111,117,114,32,109,101,114,101,32,57,32,49,48,10,108,97,107,101,32,100,97,109,32,109,101,114,101,10,115,108,111,112,101,32,116,111,114,32,102,111,114,100,32,50,53,48,32,51,48,48,10]⟩:ByteArray)


def F48L1 (p_a:(List Int)) (p_b:(List Int)):Nat→Int→Option ((Bool)⊕(Unit))
 | 0,_=>none
 | n4+1,c3=>if (decide (c3<(p_a.length:Int))) then ((idx p_a c3).bind fun x6=>(idx p_b c3).bind fun x7=>if (x6 != x7) then (some (.inl false)) else (F48L1 p_a p_b n4 (w64 (c3+1)))) else (some (.inr ()))

def F48 (fuel:Nat)  (p_a:(List Int)) (p_b:(List Int)):Option (Bool) :=
 if ((p_a.length:Int) != (p_b.length:Int)) then (some false) else ((F48L1 p_a p_b fuel 0).bind fun o2=>outK o2 (fun (ro2:Bool)=>some ro2) (fun (so2:Unit)=>some true))


def F123L1 (p_a:(List ByteArray)) (p_b:(List ByteArray)):Nat→Int→Option ((Bool)⊕(Unit))
 | 0,_=>none
 | n4+1,c3=>if (decide (c3<(p_a.length:Int))) then ((idx p_a c3).bind fun x6=>(idx p_b c3).bind fun x7=>if (!(x6==x7)) then (some (.inl false)) else (F123L1 p_a p_b n4 (w64 (c3+1)))) else (some (.inr ()))

def F123 (fuel:Nat)  (p_a:(List ByteArray)) (p_b:(List ByteArray)):Option (Bool) :=
 if ((p_a.length:Int) != (p_b.length:Int)) then (some false) else ((F123L1 p_a p_b fuel 0).bind fun o2=>outK o2 (fun (ro2:Bool)=>some ro2) (fun (so2:Unit)=>some true))


def F49L1 (p_a:S_api_ShSheet) (p_b:S_api_ShSheet):Nat→Int→Option ((Bool)⊕(Unit))
 | 0,_=>none
 | n5+1,c4=>if (decide (c4<(p_a.Notes.length:Int))) then ((idx p_a.Notes c4).bind fun x7=>(idx p_b.Notes c4).bind fun x8=>if (!((x7.Kind==x8.Kind)&&((x7.A==x8.A)&&((x7.B==x8.B)&&((x7.By.Lo==x8.By.Lo)&&(x7.By.Hi==x8.By.Hi)))))) then (some (.inl false)) else (F49L1 p_a p_b n5 (w64 (c4+1)))) else (some (.inr ()))

def F49 (fuel:Nat)  (p_a:S_api_ShSheet) (p_b:S_api_ShSheet):Option (Bool) :=
 (optG (!(p_a.Interval != p_b.Interval)) (F123 fuel p_a.Points p_b.Points)).bind fun x1=>if (cond (cond (p_a.Interval != p_b.Interval) true (!x1)) true ((p_a.Notes.length:Int) != (p_b.Notes.length:Int))) then (some false) else ((F49L1 p_a p_b fuel 0).bind fun o3=>outK o3 (fun (ro3:Bool)=>some ro3) (fun (so3:Unit)=>some true))


def F15L1 (p_a:(List S_api_Span)) (p_b:(List S_api_Span)):Nat→Int→Option ((Bool)⊕(Unit))
 | 0,_=>none
 | n4+1,c3=>if (decide (c3<(p_a.length:Int))) then ((idx p_a c3).bind fun x6=>(idx p_b c3).bind fun x7=>if (!((x6.Lo==x7.Lo)&&(x6.Hi==x7.Hi))) then (some (.inl false)) else (F15L1 p_a p_b n4 (w64 (c3+1)))) else (some (.inr ()))

def F15 (fuel:Nat)  (p_a:(List S_api_Span)) (p_b:(List S_api_Span)):Option (Bool) :=
 if ((p_a.length:Int) != (p_b.length:Int)) then (some false) else ((F15L1 p_a p_b fuel 0).bind fun o2=>outK o2 (fun (ro2:Bool)=>some ro2) (fun (so2:Unit)=>some true))
end Go.Proofs.YtkcgfceihpampaaGreatDoor
