/- What functions of the seat compute. Printed by a program of mine. -/
import Derived.Test.YtallnifoeahpiaaP
namespace Go.Proofs.Ytallnifoeahpiaa
open Go Go.Sx
set_option linter.unusedVariables false


def F81  (p_n:Int) (b0x0:Int) (b1x0:Int):Option (Bool) :=
 some (cond (decide (p_n<b0x0)) true (decide (p_n>b1x0)))


def F100L1 (p_s:(List Int)) (b0x0:Int) (b1x0:Int):Nat→Int→Option ((Int)⊕(Unit))
 | 0,_=>none
 | n3+1,c2=>if (decide (c2<(p_s.length:Int))) then ((idx p_s c2).bind fun x5=>(F81 x5 b0x0 b1x0).bind fun x6=>if x6 then (some (.inl c2)) else (F100L1 p_s b0x0 b1x0 n3 (w64 (c2+1)))) else (some (.inr ()))

def F100 (fuel:Nat)  (p_s:(List Int)) (b0x0:Int) (b1x0:Int):Option (Int) :=
 (F100L1 p_s b0x0 b1x0 fuel 0).bind fun o1=>outK o1 (fun (ro1:Int)=>some ro1) (fun (so1:Unit)=>some (-1))


def F80 (fuel:Nat)  (p_s:(List Int)) (b0x0:Int) (b1x0:Int):Option (Bool) :=
 (F100 fuel p_s b0x0 b1x0).bind fun x1=>some (decide (x1≥0))


def F48 (fuel:Nat)  (lo:Int) (hi:Int) (numbers:(List Int)):Option (Bool) :=
 (F80 fuel numbers lo hi).bind fun x1=>some x1


def F51  (p_x:S_api_EdSheet) (b0x0:ByteArray) (b0x1:Int) (b0x2:Int):Option (Bool) :=
 some (p_x.Name==b0x0)


def F82L1 (p_s:(List S_api_EdSheet)) (b0x0:ByteArray) (b0x1:Int) (b0x2:Int):Nat→Int→Option ((Int)⊕(Unit))
 | 0,_=>none
 | n3+1,c2=>if (decide (c2<(p_s.length:Int))) then ((idx p_s c2).bind fun x5=>(F51 x5 b0x0 b0x1 b0x2).bind fun x6=>if x6 then (some (.inl c2)) else (F82L1 p_s b0x0 b0x1 b0x2 n3 (w64 (c2+1)))) else (some (.inr ()))

def F82 (fuel:Nat)  (p_s:(List S_api_EdSheet)) (b0x0:ByteArray) (b0x1:Int) (b0x2:Int):Option (Int) :=
 (F82L1 p_s b0x0 b0x1 b0x2 fuel 0).bind fun o1=>outK o1 (fun (ro1:Int)=>some ro1) (fun (so1:Unit)=>some (-1))


def F50 (fuel:Nat)  (p_s:(List S_api_EdSheet)) (b0x0:ByteArray) (b0x1:Int) (b0x2:Int):Option (Bool) :=
 (F82 fuel p_s b0x0 b0x1 b0x2).bind fun x1=>some (decide (x1≥0))


def F53 (fuel:Nat)  (p:S_api_EdPoint):Option (Bool) :=
 (F48 fuel 0 9000 ([p.A,p.B]:List Int)).bind fun x1=>some x1


def F83L1 (fuel:Nat) (p_s:(List S_api_EdPoint)):Nat→Int→Option ((Int)⊕(Unit))
 | 0,_=>none
 | n3+1,c2=>if (decide (c2<(p_s.length:Int))) then ((idx p_s c2).bind fun x5=>(F53 fuel x5).bind fun x6=>if x6 then (some (.inl c2)) else (F83L1 fuel p_s n3 (w64 (c2+1)))) else (some (.inr ()))

def F83 (fuel:Nat)  (p_s:(List S_api_EdPoint)):Option (Int) :=
 (F83L1 fuel p_s fuel 0).bind fun o1=>outK o1 (fun (ro1:Int)=>some ro1) (fun (so1:Unit)=>some (-1))


def F52 (fuel:Nat)  (p_s:(List S_api_EdPoint)):Option (Bool) :=
 (F83 fuel p_s).bind fun x1=>some (decide (x1≥0))


def F16L1 (fuel:Nat) (p_c:S_api_EdCase):Nat→Int→Option ((Int×Int×Int)⊕(Unit))
 | 0,_=>none
 | n7+1,c6=>if (decide (c6<(p_c.Sheets.length:Int))) then ((idx p_c.Sheets c6).bind fun x9=>(F49 x9.Name).bind fun x10=>if (!x10) then (some (.inl (2,c6,6))) else ((sub p_c.Sheets 0 c6).bind fun x12=>(F50 fuel x12 x9.Name x9.Weight x9.Most).bind fun x13=>if x13 then (some (.inl (2,c6,5))) else ((F48 fuel 0 20 ([x9.Weight]:List Int)).bind fun x15=>(optG (!x15) (F48 fuel 0 6 ([x9.Most]:List Int))).bind fun x16=>if (cond x15 true x16) then (some (.inl (2,c6,7))) else (F16L1 fuel p_c n7 (w64 (c6+1)))))) else (some (.inr ()))

def F16L2 (fuel:Nat) (p_c:S_api_EdCase):Nat→Int→Option ((Int×Int×Int)⊕(Unit))
 | 0,_=>none
 | n20+1,c19=>if (decide (c19<(p_c.Edges.length:Int))) then ((idx p_c.Edges c19).bind fun x22=>(F48 fuel 0 (w64 ((p_c.Sheets.length:Int)-1)) ([x22.A,x22.B]:List Int)).bind fun x23=>if x23 then (some (.inl (3,c19,4))) else (if (x22.A==x22.B) then (some (.inl (3,c19,2))) else ((F48 fuel 1 4 ([(x22.Points.length:Int)]:List Int)).bind fun x26=>if x26 then (some (.inl (3,c19,3))) else ((F52 fuel x22.Points).bind fun x28=>if x28 then (some (.inl (3,c19,7))) else (F16L2 fuel p_c n20 (w64 (c19+1))))))) else (some (.inr ()))

def F16 (fuel:Nat)  (p_c:S_api_EdCase):Option (Int×Int×Int) :=
 (F48 fuel 0 50 ([p_c.Tol]:List Int)).bind fun x1=>if x1 then (some (1,0,7)) else ((F48 fuel 1 5 ([(p_c.Sheets.length:Int)]:List Int)).bind fun x3=>if (cond x3 true (decide ((p_c.Edges.length:Int)>8))) then (some (1,0,3)) else ((F16L1 fuel p_c fuel 0).bind fun o5=>outK o5 (fun (ro5:Int×Int×Int)=>some ro5) (fun (so5:Unit)=>(F16L2 fuel p_c fuel 0).bind fun o18=>outK o18 (fun (ro18:Int×Int×Int)=>some ro18) (fun (so18:Unit)=>some (0,0,0)))))
end Go.Proofs.Ytallnifoeahpiaa
