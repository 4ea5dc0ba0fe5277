/- What functions of the seat compute. Printed by a program of mine. -/
import Derived.Test.YtkcgfceihpampaaGreatDoorP
namespace Go.Proofs.YtkcgfceihpampaaGreatDoor
open Go Go.Sx
set_option linter.unusedVariables false


def F36  (p_n:Int) (low:Int) (high:Int):Option (Bool) :=
 some (cond (decide (p_n≥low)) (decide (p_n≤high)) false)


def F6L1 (p_r:S_api_CvRow):Nat→Int→Option ((Int×Int×Int)⊕(Unit))
 | 0,_=>none
 | n7+1,c6=>if (decide (c6<(p_r.Points.length:Int))) then ((idx p_r.Points c6).bind fun x9=>(F36 x9.Board 0 9000).bind fun x10=>(optG (!(!x10)) (F36 x9.Lo 0 9000)).bind fun x11=>(optG (!(cond (!x10) true (!x11))) (F36 x9.Hi 0 9000)).bind fun x12=>if (cond (cond (!x10) true (!x11)) true (!x12)) then (some (.inl (2,c6,7))) else ((F36 x9.Hi x9.Lo (w64 (x9.Lo+30))).bind fun x14=>if (!x14) then (some (.inl (2,c6,2))) else (F6L1 p_r n7 (w64 (c6+1))))) else (some (.inr ()))

def F6 (fuel:Nat)  (p_r:S_api_CvRow):Option (Int×Int×Int) :=
 (F36 p_r.Steep 0 200).bind fun x1=>if (!x1) then (some (1,0,7)) else ((F36 (p_r.Points.length:Int) 1 10).bind fun x3=>if (!x3) then (some (1,0,3)) else ((F6L1 p_r fuel 0).bind fun o5=>outK o5 (fun (ro5:Int×Int×Int)=>some ro5) (fun (so5:Unit)=>some (0,0,0))))


def F187  (p_n:Int) (b0x0:Int) (b1x0:Int):Option (Bool) :=
 some (cond (decide (p_n<b0x0)) true (decide (p_n>b1x0)))


def F207L1 (p_s:(List Int)) (b0x0:Int) (b1x0:Int):Nat→Int→Option ((Int)⊕(Unit))
 | 0,_=>none
 | n3+1,c2=>if (decide (c2<(p_s.length:Int))) then ((idx p_s c2).bind fun x5=>(F187 x5 b0x0 b1x0).bind fun x6=>if x6 then (some (.inl c2)) else (F207L1 p_s b0x0 b1x0 n3 (w64 (c2+1)))) else (some (.inr ()))

def F207 (fuel:Nat)  (p_s:(List Int)) (b0x0:Int) (b1x0:Int):Option (Int) :=
 (F207L1 p_s b0x0 b1x0 fuel 0).bind fun o1=>outK o1 (fun (ro1:Int)=>some ro1) (fun (so1:Unit)=>some (-1))


def F171 (fuel:Nat)  (p_s:(List Int)) (b0x0:Int) (b1x0:Int):Option (Bool) :=
 (F207 fuel p_s b0x0 b1x0).bind fun x1=>some (decide (x1≥0))


def F125 (fuel:Nat)  (lo:Int) (hi:Int) (numbers:(List Int)):Option (Bool) :=
 (F171 fuel numbers lo hi).bind fun x1=>some x1


def F63L1 (fuel:Nat) (p_r:S_api_CvRow):Nat→Int→Option ((Int×Int×Int)⊕(Unit))
 | 0,_=>none
 | n7+1,c6=>if (decide (c6<(p_r.Points.length:Int))) then ((idx p_r.Points c6).bind fun x9=>(F125 fuel 0 9000 ([x9.Board,x9.Lo,x9.Hi]:List Int)).bind fun x10=>if x10 then (some (.inl (2,c6,7))) else ((F125 fuel x9.Lo (w64 (x9.Lo+30)) ([x9.Hi]:List Int)).bind fun x12=>if x12 then (some (.inl (2,c6,2))) else (F63L1 fuel p_r n7 (w64 (c6+1))))) else (some (.inr ()))

def F63 (fuel:Nat)  (p_r:S_api_CvRow):Option (Int×Int×Int) :=
 (F125 fuel 0 200 ([p_r.Steep]:List Int)).bind fun x1=>if x1 then (some (1,0,7)) else ((F125 fuel 1 10 ([(p_r.Points.length:Int)]:List Int)).bind fun x3=>if x3 then (some (1,0,3)) else ((F63L1 fuel p_r fuel 0).bind fun o5=>outK o5 (fun (ro5:Int×Int×Int)=>some ro5) (fun (so5:Unit)=>some (0,0,0))))
end Go.Proofs.YtkcgfceihpampaaGreatDoor
