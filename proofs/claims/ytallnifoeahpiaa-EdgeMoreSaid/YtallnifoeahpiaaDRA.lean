/- What functions of the seat compute. Printed by a program of mine. -/
import Derived.Test.YtallnifoeahpiaaP
namespace Go.Proofs.Ytallnifoeahpiaa
open Go Go.Sx
set_option linter.unusedVariables false


def F54  (p_n:Int) (low:Int) (high:Int):Option (Bool) :=
 some (cond (decide (p_n≥low)) (decide (p_n≤high)) false)


def F106  (p_n:Int) (low:Int) (high:Int):Option (Bool) :=
 some (cond (decide (p_n≥low)) (decide (p_n≤high)) false)


def F101L1 (p_s:ByteArray):Nat→Int→Option ((Bool)⊕(Unit))
 | 0,_=>none
 | n7+1,c6=>if (decide (c6<(p_s.size:Int))) then ((strAt p_s c6).bind fun x9=>(optG (!(decide (x9<97))) (strAt p_s c6)).bind fun x10=>(optG (cond (decide (x9<97)) true (decide (x10>122))) (strAt p_s c6)).bind fun x11=>(optG ((cond (decide (x9<97)) true (decide (x10>122)))&&(!(decide (x11<48)))) (strAt p_s c6)).bind fun x12=>(optG (cond (cond (decide (x9<97)) true (decide (x10>122))) (cond (decide (x11<48)) true (decide (x12>57))) false) (strAt p_s c6)).bind fun x13=>if (cond (cond (cond (decide (x9<97)) true (decide (x10>122))) (cond (decide (x11<48)) true (decide (x12>57))) false) (x13 != 45) false) then (some (.inl false)) else (F101L1 p_s n7 (w64 (c6+1)))) else (some (.inr ()))

def F101 (fuel:Nat)  (p_s:ByteArray):Option (Bool) :=
 (F106 (p_s.size:Int) 1 16).bind fun x1=>(optG (!(!x1)) (strAt p_s 0)).bind fun x2=>(optG (!(cond (!x1) true (decide (x2<97)))) (strAt p_s 0)).bind fun x3=>if (cond (cond (!x1) true (decide (x2<97))) true (decide (x3>122))) then (some false) else ((F101L1 p_s fuel 0).bind fun o5=>outK o5 (fun (ro5:Bool)=>some ro5) (fun (so5:Unit)=>some true))


def F102v1L1 (l:(List ByteArray)) (p_s:ByteArray):Nat→Int→Option ((Int)⊕(Unit))
 | 0,_=>none
 | n3+1,c2=>if (decide (c2<(l.length:Int))) then ((idx l c2).bind fun x5=>if (x5==p_s) then (some (.inl c2)) else (F102v1L1 l p_s n3 (w64 (c2+1)))) else (some (.inr ()))

def F102v1 (fuel:Nat)  (l:(List ByteArray)) (p_s:ByteArray):Option (Int) :=
 (F102v1L1 l p_s fuel 0).bind fun o1=>outK o1 (fun (ro1:Int)=>some ro1) (fun (so1:Unit)=>some (-1))


def F84v1 (fuel:Nat)  (p_s:ByteArray) (before:(List ByteArray)):Option (Int) :=
 (F101 fuel p_s).bind fun x1=>if (!x1) then (some 6) else ((F102v1 fuel before p_s).bind fun x3=>if (decide (x3≥0)) then (some 5) else (some 0))


def F55v1 (fuel:Nat)  (p_s:S_api_EdSheet) (names:(List ByteArray)):Option (Int) :=
 (F84v1 fuel p_s.Name names).bind fun x1=>(optG (x1==0) (F54 p_s.Weight 0 20)).bind fun x2=>(optG ((x1==0)&&(!(!x2))) (F54 p_s.Most 0 6)).bind fun x3=>if (cond (x1==0) (cond (!x2) true (!x3)) false) then (some 7) else (some x1)


def F56L1 (p_x:S_api_EdEdge):Nat→Int→Option ((Int)⊕(Unit))
 | 0,_=>none
 | n9+1,c8=>if (decide (c8<(p_x.Points.length:Int))) then ((idx p_x.Points c8).bind fun x11=>(F54 x11.A 0 9000).bind fun x12=>(optG (!(!x12)) (idx p_x.Points c8)).bind fun x13=>(optG (!(!x12)) (F54 x13.B 0 9000)).bind fun x14=>if (cond (!x12) true (!x14)) then (some (.inl 7)) else (F56L1 p_x n9 (w64 (c8+1)))) else (some (.inr ()))

def F56 (fuel:Nat)  (p_x:S_api_EdEdge) (sheets:Int):Option (Int) :=
 (F54 p_x.A 0 (w64 (sheets-1))).bind fun x1=>(optG (!(!x1)) (F54 p_x.B 0 (w64 (sheets-1)))).bind fun x2=>if (cond (!x1) true (!x2)) then (some 4) else (if (p_x.A==p_x.B) then (some 2) else ((F54 (p_x.Points.length:Int) 1 4).bind fun x5=>if (!x5) then (some 3) else ((F56L1 p_x fuel 0).bind fun o7=>outK o7 (fun (ro7:Int)=>some ro7) (fun (so7:Unit)=>some 0))))


def F17L1 (fuel:Nat) (p_c:S_api_EdCase):Nat→(Int×(List ByteArray))→Option ((Int×Int×Int)⊕((List ByteArray)))
 | 0,_=>none
 | n8+1,c7=>if (decide (c7.1<(p_c.Sheets.length:Int))) then ((idx p_c.Sheets c7.1).bind fun x10=>(F55v1 fuel x10 c7.2).bind fun x11=>if (x11 != 0) then (some (.inl (2,c7.1,x11))) else ((idx p_c.Sheets c7.1).bind fun x13=>(need ((c7.2.length+([x13.Name]:List ByteArray).length)*16≤140737488355328∧c7.2.length+([x13.Name]:List ByteArray).length≤9223372036854775807)).bind fun x14=>F17L1 fuel p_c n8 ((w64 (c7.1+1)),(c7.2++([x13.Name]:List ByteArray))))) else (some (.inr c7.2))

def F17L2 (fuel:Nat) (p_c:S_api_EdCase):Nat→Int→Option ((Int×Int×Int)⊕(Unit))
 | 0,_=>none
 | n17+1,c16=>if (decide (c16<(p_c.Edges.length:Int))) then ((idx p_c.Edges c16).bind fun x19=>(F56 fuel x19 (p_c.Sheets.length:Int)).bind fun x20=>if (x20 != 0) then (some (.inl (3,c16,x20))) else (F17L2 fuel p_c n17 (w64 (c16+1)))) else (some (.inr ()))

def F17 (fuel:Nat)  (p_c:S_api_EdCase):Option (Int×Int×Int) :=
 (F54 p_c.Tol 0 50).bind fun x1=>if (!x1) then (some (1,0,7)) else ((F54 (p_c.Sheets.length:Int) 1 5).bind fun x3=>if (cond (!x3) true (decide ((p_c.Edges.length:Int)>8))) then (some (1,0,3)) else ((F17L1 fuel p_c fuel (0,([]:List ByteArray))).bind fun o6=>outK o6 (fun (ro6:Int×Int×Int)=>some ro6) (fun (so6:(List ByteArray))=>(F17L2 fuel p_c fuel 0).bind fun o15=>outK o15 (fun (ro15:Int×Int×Int)=>some ro15) (fun (so15:Unit)=>some (0,0,0)))))


def F58L1 (p_c:S_api_EdCase) (p_x:S_api_EdEdge):Nat→(Int×Int×Int)→Option ((S_api_Span×Bool)⊕(Int×Int))
 | 0,_=>none
 | n7+1,c6=>if (decide (c6.1<(p_x.Points.length:Int))) then ((idx p_x.Points c6.1).bind fun x9=>(idx p_x.Points c6.1).bind fun x10=>F58L1 p_c p_x n7 ((w64 (c6.1+1)),(if (w64 ((w64 (x9.B-x10.A))-p_c.Tol))>c6.2.1 then (w64 ((w64 (x9.B-x10.A))-p_c.Tol)) else c6.2.1),(if (w64 ((w64 (x9.B-x10.A))+p_c.Tol))<c6.2.2 then (w64 ((w64 (x9.B-x10.A))+p_c.Tol)) else c6.2.2))) else (some (.inr (c6.2.1,c6.2.2)))

def F58 (fuel:Nat)  (p_c:S_api_EdCase) (p_x:S_api_EdEdge):Option (S_api_Span×Bool) :=
 (idx p_x.Points 0).bind fun x1=>(idx p_x.Points 0).bind fun x2=>(idx p_x.Points 0).bind fun x3=>(idx p_x.Points 0).bind fun x4=>(F58L1 p_c p_x fuel (1,(w64 ((w64 (x1.B-x2.A))-p_c.Tol)),(w64 ((w64 (x3.B-x4.A))+p_c.Tol)))).bind fun o5=>outK o5 (fun (ro5:S_api_Span×Bool)=>some ro5) (fun (so5:Int×Int)=>some ((⟨so5.1,so5.2⟩:S_api_Span),(decide (so5.1≤so5.2))))


def F19 (fuel:Nat)  (p_c:S_api_EdCase) (i:Int):Option (S_api_Span×Int) :=
 (F17 fuel p_c).bind fun x1=>(optG (x1.2.2==0) (F54 i 0 (w64 ((p_c.Edges.length:Int)-1)))).bind fun x2=>(if (cond (x1.2.2==0) (!x2) false) then (some (.inr 4)) else (some (.inr x1.2.2))).bind fun o3=>outK o3 (fun (ro3:S_api_Span×Int)=>some ro3) (fun (so3:Int)=>if (so3 != 0) then (some ((⟨0,0⟩:S_api_Span),so3)) else ((idx p_c.Edges i).bind fun x6=>(F58 fuel p_c x6).bind fun x7=>if (!x7.2) then (some ((⟨0,0⟩:S_api_Span),9)) else (some ((⟨x7.1.Lo,x7.1.Hi⟩:S_api_Span),0))))
end Go.Proofs.Ytallnifoeahpiaa
