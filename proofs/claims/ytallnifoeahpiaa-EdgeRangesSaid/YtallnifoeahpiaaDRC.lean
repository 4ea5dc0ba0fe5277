/- What functions of the seat compute. Printed by a program of mine. -/
import Derived.Test.YtallnifoeahpiaaP
import Derived.Test.YtallnifoeahpiaaDRA
import Derived.Test.YtallnifoeahpiaaDRB
namespace Go.Proofs.Ytallnifoeahpiaa
open Go Go.Sx
set_option linter.unusedVariables false


def F87L1 (fuel:Nat) (p_c:S_api_EdCase) (l:(List Int)):Nat→Int→Option ((Bool)⊕(Unit))
 | 0,_=>none
 | n3+1,c2=>if (decide (c2<(p_c.Edges.length:Int))) then ((idx p_c.Edges c2).bind fun x5=>(optG ((if x5.B>x5.A then x5.B else x5.A)==(w64 ((l.length:Int)-1))) (idx l x5.A)).bind fun x6=>(optG ((if x5.B>x5.A then x5.B else x5.A)==(w64 ((l.length:Int)-1))) (idx l x5.B)).bind fun x7=>(optG ((if x5.B>x5.A then x5.B else x5.A)==(w64 ((l.length:Int)-1))) (F85 fuel p_c x5 x6 x7)).bind fun x8=>if (cond ((if x5.B>x5.A then x5.B else x5.A)==(w64 ((l.length:Int)-1))) (!x8) false) then (some (.inl false)) else (F87L1 fuel p_c l n3 (w64 (c2+1)))) else (some (.inr ()))

def F87 (fuel:Nat)  (p_c:S_api_EdCase) (l:(List Int)):Option (Bool) :=
 (F87L1 fuel p_c l fuel 0).bind fun o1=>outK o1 (fun (ro1:Bool)=>some ro1) (fun (so1:Unit)=>some true)


def F65v1L1 (fuel:Nat) (rec27:S_api_EdCase→(List Int)→Int→Option (S_hachureref02qFound)) (p_c:S_api_EdCase) (begin:(List Int)) (sheet:Int) (x4:S_api_EdSheet):Nat→(Int×Bool×(List Int)×Int×Int)→Option ((S_hachureref02qFound)⊕(Bool×(List Int)×Int×Int))
 | 0,_=>none
 | n8+1,c7=>if (decide (c7.1≤x4.Most)) then ((need ((([]:List Int).length+begin.length)*8≤140737488355328∧([]:List Int).length+begin.length≤9223372036854775807)).bind fun x10=>(need (((([]:List Int)++begin).length+([c7.1]:List Int).length)*8≤140737488355328∧(([]:List Int)++begin).length+([c7.1]:List Int).length≤9223372036854775807)).bind fun x11=>(F87 fuel p_c ((([]:List Int)++begin)++([c7.1]:List Int))).bind fun x12=>if (!x12) then (F65v1L1 fuel rec27 p_c begin sheet x4 n8 ((w64 (c7.1+1)),c7.2.1,c7.2.2.1,c7.2.2.2.1,c7.2.2.2.2)) else ((rec27 p_c ((([]:List Int)++begin)++([c7.1]:List Int)) sheet).bind fun x14=>if (!x14.Is) then (F65v1L1 fuel rec27 p_c begin sheet x4 n8 ((w64 (c7.1+1)),c7.2.1,c7.2.2.1,c7.2.2.2.1,c7.2.2.2.2)) else (if (!c7.2.1) then (F65v1L1 fuel rec27 p_c begin sheet x4 n8 ((w64 (c7.1+1)),x14.Is,x14.Best,x14.Range.Lo,x14.Range.Hi)) else ((F39 fuel p_c x14.Best).bind fun x17=>(F39 fuel p_c c7.2.2.1).bind fun x18=>if (decide (x17<x18)) then (F65v1L1 fuel rec27 p_c begin sheet x4 n8 ((w64 (c7.1+1)),c7.2.1,x14.Best,(if x14.Range.Lo<c7.2.2.2.1 then x14.Range.Lo else c7.2.2.2.1),(if x14.Range.Hi>c7.2.2.2.2 then x14.Range.Hi else c7.2.2.2.2))) else (F65v1L1 fuel rec27 p_c begin sheet x4 n8 ((w64 (c7.1+1)),c7.2.1,c7.2.2.1,(if x14.Range.Lo<c7.2.2.2.1 then x14.Range.Lo else c7.2.2.2.1),(if x14.Range.Hi>c7.2.2.2.2 then x14.Range.Hi else c7.2.2.2.2))))))) else (some (.inr (c7.2.1,c7.2.2.1,c7.2.2.2.1,c7.2.2.2.2)))

def B65v1 (fuel:Nat) (rec27:S_api_EdCase→(List Int)→Int→Option (S_hachureref02qFound)) (p_c:S_api_EdCase) (begin:(List Int)) (sheet:Int):Option (S_hachureref02qFound) :=
 if ((begin.length:Int)==(p_c.Sheets.length:Int)) then ((idx begin sheet).bind fun x2=>(idx begin sheet).bind fun x3=>some (⟨true,begin,(⟨x2,x3⟩:S_api_Span)⟩:S_hachureref02qFound)) else ((idx p_c.Sheets (begin.length:Int)).bind fun x4=>(F65v1L1 fuel rec27 p_c begin sheet x4 fuel ((w64 (0-x4.Most)),false,([]:List Int),0,0)).bind fun o6=>outK o6 (fun (ro6:S_hachureref02qFound)=>some ro6) (fun (so6:Bool×(List Int)×Int×Int)=>some (⟨so6.1,so6.2.1,(⟨so6.2.2.1,so6.2.2.2⟩:S_api_Span)⟩:S_hachureref02qFound)))

def F65v1:Nat→S_api_EdCase→(List Int)→Int→Option (S_hachureref02qFound)
 | 0,_,_,_=>none
 | n+1,p_c,begin,sheet=>B65v1 (n+1) (F65v1 n) p_c begin sheet


def F65L1 (fuel:Nat) (p_c:S_api_EdCase) (sheet:Int) (x4:S_api_EdSheet):Nat→(Int×Bool×(List Int)×Int×Int)→Option ((S_hachureref02qFound)⊕(Bool×(List Int)×Int×Int))
 | 0,_=>none
 | n8+1,c7=>if (decide (c7.1≤x4.Most)) then ((need ((([]:List Int).length+([]:List Int).length)*8≤140737488355328∧([]:List Int).length+([]:List Int).length≤9223372036854775807)).bind fun x10=>(need (((([]:List Int)++([]:List Int)).length+([c7.1]:List Int).length)*8≤140737488355328∧(([]:List Int)++([]:List Int)).length+([c7.1]:List Int).length≤9223372036854775807)).bind fun x11=>(F87 fuel p_c ((([]:List Int)++([]:List Int))++([c7.1]:List Int))).bind fun x12=>if (!x12) then (F65L1 fuel p_c sheet x4 n8 ((w64 (c7.1+1)),c7.2.1,c7.2.2.1,c7.2.2.2.1,c7.2.2.2.2)) else ((F65v1 fuel p_c ((([]:List Int)++([]:List Int))++([c7.1]:List Int)) sheet).bind fun x14=>if (!x14.Is) then (F65L1 fuel p_c sheet x4 n8 ((w64 (c7.1+1)),c7.2.1,c7.2.2.1,c7.2.2.2.1,c7.2.2.2.2)) else (if (!c7.2.1) then (F65L1 fuel p_c sheet x4 n8 ((w64 (c7.1+1)),x14.Is,x14.Best,x14.Range.Lo,x14.Range.Hi)) else ((F39 fuel p_c x14.Best).bind fun x17=>(F39 fuel p_c c7.2.2.1).bind fun x18=>if (decide (x17<x18)) then (F65L1 fuel p_c sheet x4 n8 ((w64 (c7.1+1)),c7.2.1,x14.Best,(if x14.Range.Lo<c7.2.2.2.1 then x14.Range.Lo else c7.2.2.2.1),(if x14.Range.Hi>c7.2.2.2.2 then x14.Range.Hi else c7.2.2.2.2))) else (F65L1 fuel p_c sheet x4 n8 ((w64 (c7.1+1)),c7.2.1,c7.2.2.1,(if x14.Range.Lo<c7.2.2.2.1 then x14.Range.Lo else c7.2.2.2.1),(if x14.Range.Hi>c7.2.2.2.2 then x14.Range.Hi else c7.2.2.2.2))))))) else (some (.inr (c7.2.1,c7.2.2.1,c7.2.2.2.1,c7.2.2.2.2)))

def F65 (fuel:Nat)  (p_c:S_api_EdCase) (begin:(List Int)) (sheet:Int):Option (S_hachureref02qFound) :=
 if (0==(p_c.Sheets.length:Int)) then ((idx ([]:List Int) sheet).bind fun x2=>(idx ([]:List Int) sheet).bind fun x3=>some (⟨true,([]:List Int),(⟨x2,x3⟩:S_api_Span)⟩:S_hachureref02qFound)) else ((idx p_c.Sheets 0).bind fun x4=>(F65L1 fuel p_c sheet x4 fuel ((w64 (0-x4.Most)),false,([]:List Int),0,0)).bind fun o6=>outK o6 (fun (ro6:S_hachureref02qFound)=>some ro6) (fun (so6:Bool×(List Int)×Int×Int)=>some (⟨so6.1,so6.2.1,(⟨so6.2.2.1,so6.2.2.2⟩:S_api_Span)⟩:S_hachureref02qFound)))


def F26 (fuel:Nat)  (p_c:S_api_EdCase) (sheet:Int):Option (S_api_Span×Int) :=
 (F17 fuel p_c).bind fun x1=>(optG (x1.2.2==0) (F54 sheet 0 (w64 ((p_c.Sheets.length:Int)-1)))).bind fun x2=>(if (cond (x1.2.2==0) (!x2) false) then (some (.inr 4)) else (some (.inr x1.2.2))).bind fun o3=>outK o3 (fun (ro3:S_api_Span×Int)=>some ro3) (fun (so3:Int)=>if (so3 != 0) then (some ((⟨0,0⟩:S_api_Span),so3)) else ((F65 fuel p_c ([]:(List Int)) sheet).bind fun x6=>if (!x6.Is) then (some ((⟨0,0⟩:S_api_Span),9)) else (some ((⟨x6.Range.Lo,x6.Range.Hi⟩:S_api_Span),0))))


def F28 (fuel:Nat)  (p_c:S_api_EdCase):Option ((List Int)×Int×Int) :=
 (F17 fuel p_c).bind fun x1=>if (x1.2.2 != 0) then (some (([]:List Int),0,x1.2.2)) else ((F65 fuel p_c ([]:(List Int)) 0).bind fun x3=>if (!x3.Is) then (some (([]:List Int),0,9)) else ((F39 fuel p_c x3.Best).bind fun x5=>some (x3.Best,x5,0)))
end Go.Proofs.Ytallnifoeahpiaa
