/- What functions of the seat compute. Printed by a program of mine. -/
import Derived.Test.YtkcgfceihpampaaGreatDoorP
namespace Go.Proofs.YtkcgfceihpampaaGreatDoor
open Go Go.Sx
set_option linter.unusedVariables false


def F71  (p_n:Int) (low:Int) (high:Int):Option (Bool) :=
 some (cond (decide (p_n≥low)) (decide (p_n≤high)) false)


def F142L1 (p_s:ByteArray):Nat→Int→Option ((Bool)⊕(Unit))
 | 0,_=>none
 | n7+1,c6=>if (decide (c6<(p_s.size:Int))) then ((strAt p_s c6).bind fun x9=>(optG (!(decide (x9<97))) (strAt p_s c6)).bind fun x10=>(optG (cond (decide (x9<97)) true (decide (x10>122))) (strAt p_s c6)).bind fun x11=>(optG ((cond (decide (x9<97)) true (decide (x10>122)))&&(!(decide (x11<48)))) (strAt p_s c6)).bind fun x12=>(optG (cond (cond (decide (x9<97)) true (decide (x10>122))) (cond (decide (x11<48)) true (decide (x12>57))) false) (strAt p_s c6)).bind fun x13=>if (cond (cond (cond (decide (x9<97)) true (decide (x10>122))) (cond (decide (x11<48)) true (decide (x12>57))) false) (x13 != 45) false) then (some (.inl false)) else (F142L1 p_s n7 (w64 (c6+1)))) else (some (.inr ()))

def F142 (fuel:Nat)  (p_s:ByteArray):Option (Bool) :=
 (F71 (p_s.size:Int) 1 16).bind fun x1=>(optG (!(!x1)) (strAt p_s 0)).bind fun x2=>(optG (!(cond (!x1) true (decide (x2<97)))) (strAt p_s 0)).bind fun x3=>if (cond (cond (!x1) true (decide (x2<97))) true (decide (x3>122))) then (some false) else ((F142L1 p_s fuel 0).bind fun o5=>outK o5 (fun (ro5:Bool)=>some ro5) (fun (so5:Unit)=>some true))


def F143L1 (l:(List ByteArray)) (p_s:ByteArray):Nat→Int→Option ((Int)⊕(Unit))
 | 0,_=>none
 | n3+1,c2=>if (decide (c2<(l.length:Int))) then ((idx l c2).bind fun x5=>if (x5==p_s) then (some (.inl c2)) else (F143L1 l p_s n3 (w64 (c2+1)))) else (some (.inr ()))

def F143 (fuel:Nat)  (l:(List ByteArray)) (p_s:ByteArray):Option (Int) :=
 (F143L1 l p_s fuel 0).bind fun o1=>outK o1 (fun (ro1:Int)=>some ro1) (fun (so1:Unit)=>some (-1))


def F72 (fuel:Nat)  (p_s:ByteArray) (before:(List ByteArray)):Option (Int) :=
 (F142 fuel p_s).bind fun x1=>if (!x1) then (some 6) else ((F143 fuel before p_s).bind fun x3=>if (decide (x3≥0)) then (some 5) else (some 0))


def F146L1 (l:(List S_api_Span)) (low:Int) (high:Int):Nat→(Int×Int)→Option ((Int)⊕(Int))
 | 0,_=>none
 | n3+1,c2=>if (decide (c2.2<(l.length:Int))) then ((idx l c2.2).bind fun x5=>(F71 x5.Lo low high).bind fun x6=>(optG (!(!x6)) (idx l c2.2)).bind fun x7=>(optG (!(!x6)) (F71 x7.Hi low high)).bind fun x8=>if (cond (!x6) true (!x8)) then (some (.inl 7)) else ((idx l c2.2).bind fun x10=>(idx l c2.2).bind fun x11=>if (decide (x10.Lo>x11.Hi)) then (F146L1 l low high n3 (2,(w64 (c2.2+1)))) else (F146L1 l low high n3 (c2.1,(w64 (c2.2+1)))))) else (some (.inr c2.1))

def F146 (fuel:Nat)  (l:(List S_api_Span)) (low:Int) (high:Int):Option (Int) :=
 (F146L1 l low high fuel (0,0)).bind fun o1=>outK o1 (fun (ro1:Int)=>some ro1) (fun (so1:Int)=>some so1)


def F83 (fuel:Nat)  (p_s:S_api_Span) (low:Int) (high:Int):Option (Int) :=
 (F146 fuel ([p_s]:List S_api_Span) low high).bind fun x1=>some x1


def F73 (fuel:Nat)  (p_s:S_api_ShSheet) (p_x:S_api_ShNote):Option (Int) :=
 (F71 p_x.Kind 1 4).bind fun x1=>if (!x1) then (some 6) else ((F71 p_x.A 0 (w64 ((p_s.Points.length:Int)-1))).bind fun x3=>(optG (!(!x3)) (F71 p_x.B 0 (w64 ((p_s.Points.length:Int)-1)))).bind fun x4=>if (cond (!x3) true (!x4)) then (some 4) else (if (cond (cond (cond (p_x.Kind==3) true (p_x.Kind==4)) (p_x.A==p_x.B) false) true (cond (!(cond (p_x.Kind==3) true (p_x.Kind==4))) (p_x.B != 0) false)) then (some 2) else (if (p_x.Kind==1) then ((F83 fuel p_x.By 0 9000).bind fun x8=>some x8) else (if (p_x.Kind==4) then ((F83 fuel p_x.By (-9000) 9000).bind fun x10=>some x10) else (if (p_x.Kind==3) then ((F83 fuel p_x.By 0 0).bind fun x12=>some x12) else ((need (p_s.Interval≠0)).bind fun x13=>(F83 fuel p_x.By 0 (w64 ((9000:Int).tdiv p_s.Interval))).bind fun x14=>if (cond (x14==0) (p_x.By.Lo==p_x.By.Hi) false) then (some 2) else (some x14)))))))


def F16L1 (fuel:Nat) (p_s:S_api_ShSheet):Nat→Int→Option ((Int×Int×Int)⊕(Unit))
 | 0,_=>none
 | n7+1,c6=>if (decide (c6<(p_s.Points.length:Int))) then ((idx p_s.Points c6).bind fun x9=>(sub p_s.Points 0 c6).bind fun x10=>(F72 fuel x9 x10).bind fun x11=>if (x11 != 0) then (some (.inl (2,c6,x11))) else (F16L1 fuel p_s n7 (w64 (c6+1)))) else (some (.inr ()))

def F16L2 (fuel:Nat) (p_s:S_api_ShSheet):Nat→Int→Option ((Int×Int×Int)⊕(Unit))
 | 0,_=>none
 | n16+1,c15=>if (decide (c15<(p_s.Notes.length:Int))) then ((idx p_s.Notes c15).bind fun x18=>(F73 fuel p_s x18).bind fun x19=>if (x19 != 0) then (some (.inl (3,c15,x19))) else (F16L2 fuel p_s n16 (w64 (c15+1)))) else (some (.inr ()))

def F16 (fuel:Nat)  (p_s:S_api_ShSheet):Option (Int×Int×Int) :=
 (F71 p_s.Interval 1 1000).bind fun x1=>if (!x1) then (some (1,0,7)) else ((F71 (p_s.Points.length:Int) 1 8).bind fun x3=>if (!x3) then (some (2,0,3)) else ((F16L1 fuel p_s fuel 0).bind fun o5=>outK o5 (fun (ro5:Int×Int×Int)=>some ro5) (fun (so5:Unit)=>if (decide ((p_s.Notes.length:Int)>12)) then (some (3,0,3)) else ((F16L2 fuel p_s fuel 0).bind fun o14=>outK o14 (fun (ro14:Int×Int×Int)=>some ro14) (fun (so14:Unit)=>some (0,0,0))))))


def F27  (p_n:Int) (p_s:S_api_Span):Option (Bool) :=
 (F71 p_n p_s.Lo p_s.Hi).bind fun x1=>some x1
end Go.Proofs.YtkcgfceihpampaaGreatDoor
