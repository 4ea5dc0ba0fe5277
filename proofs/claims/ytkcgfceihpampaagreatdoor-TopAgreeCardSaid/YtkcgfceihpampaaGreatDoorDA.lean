/- What functions of the seat compute. Printed by a program of mine. -/
import Derived.Test.YtkcgfceihpampaaGreatDoorP
namespace Go.Proofs.YtkcgfceihpampaaGreatDoor
open Go Go.Sx
set_option linter.unusedVariables false


def F172  (p_n:Int) (b0x0:Int) (b1x0:Int):Option (Bool) :=
 some (cond (decide (p_n<b0x0)) true (decide (p_n>b1x0)))


def F207v1L1 (p_s:(List Int)) (b0x0:Int) (b1x0:Int):Nat→Int→Option ((Int)⊕(Unit))
 | 0,_=>none
 | n3+1,c2=>if (decide (c2<(p_s.length:Int))) then ((idx p_s c2).bind fun x5=>(F172 x5 b0x0 b1x0).bind fun x6=>if x6 then (some (.inl c2)) else (F207v1L1 p_s b0x0 b1x0 n3 (w64 (c2+1)))) else (some (.inr ()))

def F207v1 (fuel:Nat)  (p_s:(List Int)) (b0x0:Int) (b1x0:Int):Option (Int) :=
 (F207v1L1 p_s b0x0 b1x0 fuel 0).bind fun o1=>outK o1 (fun (ro1:Int)=>some ro1) (fun (so1:Unit)=>some (-1))


def F171v1 (fuel:Nat)  (p_s:(List Int)) (b0x0:Int) (b1x0:Int):Option (Bool) :=
 (F207v1 fuel p_s b0x0 b1x0).bind fun x1=>some (decide (x1≥0))


def F113 (fuel:Nat)  (lo:Int) (hi:Int) (numbers:(List Int)):Option (Bool) :=
 (F171v1 fuel numbers lo hi).bind fun x1=>some x1


def F178  (p_x:S_api_ShNote):Option ((Option Nat×S_api_ShNote)) :=
 if (p_x.Kind==1) then (some ((some 287),p_x)) else (if (p_x.Kind==2) then (some ((some 288),p_x)) else (if (p_x.Kind==3) then (some ((some 289),p_x)) else (if (p_x.Kind==4) then (some ((some 290),p_x)) else (some ((none:Option Nat),(default:S_api_ShNote))))))


def F140 (fuel:Nat)  (p_s:S_api_ShSheet) (p_x:S_api_ShNote):Option (Int) :=
 (F178 p_x).bind fun x1=>if x1.1.isNone then (some 6) else ((F113 fuel 0 (w64 ((p_s.Points.length:Int)-1)) ([p_x.A,p_x.B]:List Int)).bind fun x3=>if x3 then (some 4) else ((aboutF x1.1).bind fun x5=>(optG (!(cond (x5==1) (p_x.B != 0) false)) (aboutF x1.1)).bind fun x6=>if (cond (cond (x5==1) (p_x.B != 0) false) true (cond (x6==2) (p_x.A==p_x.B) false)) then (some 2) else ((if (x1.1==some 287) then (some (.inr (0,9000,0))) else (if (x1.1==some 288) then ((need (p_s.Interval≠0)).bind fun x11=>some (.inr (0,(w64 ((9000:Int).tdiv p_s.Interval)),1))) else (if (x1.1==some 290) then (some (.inr ((-9000),9000,0))) else (some (.inr (0,0,0)))))).bind fun o8=>outK o8 (fun (ro8:Int)=>some ro8) (fun (so8:Int×Int×Int)=>(F113 fuel so8.1 so8.2.1 ([p_x.By.Lo,p_x.By.Hi]:List Int)).bind fun x13=>if x13 then (some 7) else (if (decide (p_x.By.Hi<(w64 (p_x.By.Lo+so8.2.2)))) then (some 2) else (some 0))))))


def F137  (p0:Int) (p:ByteArray) (m1:List (ByteArray×Int)):Option (Int×(List (ByteArray×Int))) :=
 (F50 p).bind fun x1=>if (!x1) then (some (6,(mset eqk9 p (w64 (((mget eqk9 p m1).getD 0)+1)) m1))) else (if (decide (((mget eqk9 p (mset eqk9 p (w64 (((mget eqk9 p m1).getD 0)+1)) m1)).getD 0)>1)) then (some (5,(mset eqk9 p (w64 (((mget eqk9 p m1).getD 0)+1)) m1))) else (some (0,(mset eqk9 p (w64 (((mget eqk9 p m1).getD 0)+1)) m1))))


def F136L1 (l:(List ByteArray)):Nat→(Int×(List (ByteArray×Int)))→Option ((Int×Int×(List (ByteArray×Int)))⊕((List (ByteArray×Int))))
 | 0,_=>none
 | n3+1,c2=>if (decide (c2.1<(l.length:Int))) then ((idx l c2.1).bind fun x5=>(F137 c2.1 x5 c2.2).bind fun x6=>if (x6.1 != 0) then (some (.inl (c2.1,x6.1,x6.2))) else (F136L1 l n3 ((w64 (c2.1+1)),x6.2))) else (some (.inr c2.2))

def F136 (fuel:Nat)  (l:(List ByteArray)) (m1:List (ByteArray×Int)):Option (Int×Int×(List (ByteArray×Int))) :=
 (F136L1 l fuel (0,m1)).bind fun o1=>outK o1 (fun (ro1:Int×Int×(List (ByteArray×Int)))=>some ro1) (fun (so1:(List (ByteArray×Int)))=>some (0,0,so1))


def F139 (fuel:Nat)  (p0:Int) (p_x:S_api_ShNote) (b0x0:Int) (b0x1:List ByteArray) (b0x2:List S_api_ShNote):Option (Int) :=
 (F140 fuel (⟨b0x0,b0x1,b0x2⟩:S_api_ShSheet) p_x).bind fun x1=>some x1


def F138L1 (fuel:Nat) (l:(List S_api_ShNote)) (b0x0:Int) (b0x1:List ByteArray) (b0x2:List S_api_ShNote):Nat→Int→Option ((Int×Int)⊕(Unit))
 | 0,_=>none
 | n3+1,c2=>if (decide (c2<(l.length:Int))) then ((idx l c2).bind fun x5=>(F139 fuel c2 x5 b0x0 b0x1 b0x2).bind fun x6=>if (x6 != 0) then (some (.inl (c2,x6))) else (F138L1 fuel l b0x0 b0x1 b0x2 n3 (w64 (c2+1)))) else (some (.inr ()))

def F138 (fuel:Nat)  (l:(List S_api_ShNote)) (b0x0:Int) (b0x1:List ByteArray) (b0x2:List S_api_ShNote):Option (Int×Int) :=
 (F138L1 fuel l b0x0 b0x1 b0x2 fuel 0).bind fun o1=>outK o1 (fun (ro1:Int×Int)=>some ro1) (fun (so1:Unit)=>some (0,0))


def F65 (fuel:Nat)  (p_s:S_api_ShSheet):Option (Int×Int×Int) :=
 (F113 fuel 1 1000 ([p_s.Interval]:List Int)).bind fun x1=>if x1 then (some (1,0,7)) else ((F113 fuel 1 8 ([(p_s.Points.length:Int)]:List Int)).bind fun x3=>if x3 then (some (2,0,3)) else ((F136 fuel p_s.Points ([]:List (ByteArray×Int))).bind fun x5=>if (x5.2.1 != 0) then (some (2,x5.1,x5.2.1)) else (if (decide ((p_s.Notes.length:Int)>12)) then (some (3,0,3)) else ((F138 fuel p_s.Notes p_s.Interval p_s.Points p_s.Notes).bind fun x8=>if (x8.2 != 0) then (some (3,x8.1,x8.2)) else (some (0,0,0))))))
end Go.Proofs.YtkcgfceihpampaaGreatDoor
