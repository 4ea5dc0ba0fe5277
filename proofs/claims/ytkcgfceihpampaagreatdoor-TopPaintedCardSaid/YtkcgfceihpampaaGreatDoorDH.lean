/- What functions of the seat compute. Printed by a program of mine. -/
import Derived.Test.YtkcgfceihpampaaGreatDoorP
import Derived.Test.YtkcgfceihpampaaGreatDoorDG
namespace Go.Proofs.YtkcgfceihpampaaGreatDoor
open Go Go.Sx
set_option linter.unusedVariables false


def F86  (p_s:S_api_Span) (border:Int):Option (Bool) :=
 some (cond (decide (p_s.Lo<border)) (decide (border≤p_s.Hi)) false)


def F87L2 (p_s:S_colour_state) (b0x2:List S_api_Span) (x3:S_api_Span) (c5:Int×(List (S_colour_state×S_colour_rest))×Int×Int):Nat→(Int×Int)→Option ((S_colour_rest×(List (S_colour_state×S_colour_rest)))⊕(Int))
 | 0,_=>none
 | n13+1,c12=>if (decide (c12.1<(b0x2.length:Int))) then ((idx b0x2 c12.1).bind fun x15=>(F86 x15 (w64 (x3.Lo+c5.1))).bind fun x16=>(optG (x16&&(!(decide (p_s.at_<0)))) (F86 x15 p_s.border)).bind fun x17=>if (cond x16 (cond (decide (p_s.at_<0)) true (!x17)) false) then (F87L2 p_s b0x2 x3 c5 n13 ((w64 (c12.1+1)),(w64 (c12.2+1)))) else (F87L2 p_s b0x2 x3 c5 n13 ((w64 (c12.1+1)),c12.2))) else (some (.inr c12.2))

def F87L1 (fuel:Nat) (rec111:S_colour_state→(List S_api_Span)→Int→(List S_api_Span)→(List S_api_ClPair)→Int→(List S_api_ClPair)→(List (S_colour_state×S_colour_rest))→Option (S_colour_rest×(List (S_colour_state×S_colour_rest)))) (p_s:S_colour_state) (b0x0:List S_api_Span) (b0x1:Int) (b0x2:List S_api_Span) (b0x3:List S_api_ClPair) (b0x4:Int) (b0x5:List S_api_ClPair) (x3:S_api_Span):Nat→(Int×(List (S_colour_state×S_colour_rest))×Int×Int)→Option ((S_colour_rest×(List (S_colour_state×S_colour_rest)))⊕((List (S_colour_state×S_colour_rest))×Int×Int))
 | 0,_=>none
 | n6+1,c5=>if (decide (c5.1<(w64 ((w64 (x3.Hi-x3.Lo))+1)))) then (if (cond (decide (p_s.at_≥0)) (decide ((w64 (x3.Lo+c5.1))<(w64 (p_s.border+b0x1)))) false) then (F87L1 fuel rec111 p_s b0x0 b0x1 b0x2 b0x3 b0x4 b0x5 x3 n6 ((w64 (c5.1+1)),c5.2.1,c5.2.2.1,c5.2.2.2)) else ((rec111 (⟨(w64 (p_s.at_+1)),(w64 (x3.Lo+c5.1))⟩:S_colour_state) b0x0 b0x1 b0x2 b0x3 b0x4 b0x5 c5.2.1).bind fun x9=>if (decide (x9.1.next<0)) then (F87L1 fuel rec111 p_s b0x0 b0x1 b0x2 b0x3 b0x4 b0x5 x3 n6 ((w64 (c5.1+1)),x9.2,c5.2.2.1,c5.2.2.2)) else ((F87L2 p_s b0x2 x3 c5 fuel (0,x9.1.many)).bind fun o11=>outK o11 (fun (ro11:S_colour_rest×(List (S_colour_state×S_colour_rest)))=>some (.inl ro11)) (fun (so11:Int)=>if (cond (decide (c5.2.2.2<0)) true (decide (so11<c5.2.2.1))) then (F87L1 fuel rec111 p_s b0x0 b0x1 b0x2 b0x3 b0x4 b0x5 x3 n6 ((w64 (c5.1+1)),x9.2,so11,(w64 (x3.Lo+c5.1)))) else (F87L1 fuel rec111 p_s b0x0 b0x1 b0x2 b0x3 b0x4 b0x5 x3 n6 ((w64 (c5.1+1)),x9.2,c5.2.2.1,c5.2.2.2)))))) else (some (.inr (c5.2.1,c5.2.2.1,c5.2.2.2)))

def B87 (fuel:Nat) (rec111:S_colour_state→(List S_api_Span)→Int→(List S_api_Span)→(List S_api_ClPair)→Int→(List S_api_ClPair)→(List (S_colour_state×S_colour_rest))→Option (S_colour_rest×(List (S_colour_state×S_colour_rest)))) (p_s:S_colour_state) (b0x0:List S_api_Span) (b0x1:Int) (b0x2:List S_api_Span) (b0x3:List S_api_ClPair) (b0x4:Int) (b0x5:List S_api_ClPair) (m2:List (S_colour_state×S_colour_rest)):Option (S_colour_rest×(List (S_colour_state×S_colour_rest))) :=
 if (p_s.at_==(w64 ((b0x0.length:Int)-1))) then (some ((⟨0,0⟩:S_colour_rest),m2)) else (if (mget eqk154 p_s m2).isSome then (some (((mget eqk154 p_s m2).getD (⟨0,0⟩:S_colour_rest)),m2)) else ((idx b0x0 (w64 (p_s.at_+1))).bind fun x3=>(F87L1 fuel rec111 p_s b0x0 b0x1 b0x2 b0x3 b0x4 b0x5 x3 fuel (0,m2,((mget eqk154 p_s m2).getD (⟨0,0⟩:S_colour_rest)).many,(-1))).bind fun o4=>outK o4 (fun (ro4:S_colour_rest×(List (S_colour_state×S_colour_rest)))=>some ro4) (fun (so4:(List (S_colour_state×S_colour_rest))×Int×Int)=>some ((⟨so4.2.1,so4.2.2⟩:S_colour_rest),(mset eqk154 p_s (⟨so4.2.1,so4.2.2⟩:S_colour_rest) so4.1)))))

def F87:Nat→S_colour_state→(List S_api_Span)→Int→(List S_api_Span)→(List S_api_ClPair)→Int→(List S_api_ClPair)→(List (S_colour_state×S_colour_rest))→Option (S_colour_rest×(List (S_colour_state×S_colour_rest)))
 | 0,_,_,_,_,_,_,_,_=>none
 | n+1,p_s,b0x0,b0x1,b0x2,b0x3,b0x4,b0x5,m2=>B87 (n+1) (F87 n) p_s b0x0 b0x1 b0x2 b0x3 b0x4 b0x5 m2


def F21L1 (fuel:Nat) (p_m:S_api_ClMap):Nat→(Int×(List (S_colour_state×S_colour_rest))×Int×Int×(List Int))→Option (((List Int)×Int×Int)⊕((List (S_colour_state×S_colour_rest))×Int×Int×(List Int)))
 | 0,_=>none
 | n7+1,c6=>if (decide (c6.1<(p_m.Borders.length:Int))) then ((F87 fuel (⟨c6.2.2.1,c6.2.2.2.1⟩:S_colour_state) p_m.Borders p_m.Step p_m.Heights p_m.Sides p_m.Inks p_m.Like c6.2.1).bind fun x9=>if (decide (x9.1.next<0)) then (some (.inl (([]:List Int),0,9))) else ((need ((c6.2.2.2.2.length+([x9.1.next]:List Int).length)*8≤140737488355328∧c6.2.2.2.2.length+([x9.1.next]:List Int).length≤9223372036854775807)).bind fun x11=>F21L1 fuel p_m n7 ((w64 (c6.1+1)),x9.2,(w64 (c6.2.2.1+1)),x9.1.next,(c6.2.2.2.2++([x9.1.next]:List Int))))) else (some (.inr (c6.2.1,c6.2.2.1,c6.2.2.2.1,c6.2.2.2.2)))

def F21 (fuel:Nat)  (p_m:S_api_ClMap):Option ((List Int)×Int×Int) :=
 (F85 fuel p_m).bind fun x1=>if (x1.2.2 != 0) then (some (([]:List Int),0,x1.2.2)) else ((F87 fuel (⟨(-1),0⟩:S_colour_state) p_m.Borders p_m.Step p_m.Heights p_m.Sides p_m.Inks p_m.Like ([]:List (S_colour_state×S_colour_rest))).bind fun x3=>(F21L1 fuel p_m fuel (0,x3.2,(-1),0,([]:List Int))).bind fun o5=>outK o5 (fun (ro5:(List Int)×Int×Int)=>some ro5) (fun (so5:(List (S_colour_state×S_colour_rest))×Int×Int×(List Int))=>some (so5.2.2.2,x3.1.many,0)))
end Go.Proofs.YtkcgfceihpampaaGreatDoor
