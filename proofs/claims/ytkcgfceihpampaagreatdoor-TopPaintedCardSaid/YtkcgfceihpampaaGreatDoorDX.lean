/- What functions of the seat compute. Printed by a program of mine. -/
import Derived.Test.YtkcgfceihpampaaGreatDoorP
import Derived.Test.YtkcgfceihpampaaGreatDoorDG
import Derived.Test.YtkcgfceihpampaaGreatDoorDH
import Derived.Test.YtkcgfceihpampaaGreatDoorDI
import Derived.Test.YtkcgfceihpampaaGreatDoorDU
namespace Go.Proofs.YtkcgfceihpampaaGreatDoor
open Go Go.Sx
set_option linter.unusedVariables false


def F77  (lo:Int) (hi:Int):Option (S_api_Span) :=
 some (⟨lo,hi⟩:S_api_Span)


def F79  (p_a:Int) (p_b:Int):Option (S_api_ClPair) :=
 some (⟨p_a,p_b⟩:S_api_ClPair)


def F74  (inks:Int):Option (S_api_ClMap) :=
 (F77 100 105).bind fun x1=>(F77 200 204).bind fun x2=>(F77 90 99).bind fun x3=>(F77 98 103).bind fun x4=>(F77 104 150).bind fun x5=>(F77 190 202).bind fun x6=>(F77 210 300).bind fun x7=>(F79 0 1).bind fun x8=>(F79 1 2).bind fun x9=>(F79 2 3).bind fun x10=>(F79 3 4).bind fun x11=>(F79 0 1).bind fun x12=>some (⟨([(⟨x1.Lo,x1.Hi⟩:S_api_Span),(⟨x2.Lo,x2.Hi⟩:S_api_Span)]:List S_api_Span),50,([(⟨x3.Lo,x3.Hi⟩:S_api_Span),(⟨x4.Lo,x4.Hi⟩:S_api_Span),(⟨x5.Lo,x5.Hi⟩:S_api_Span),(⟨x6.Lo,x6.Hi⟩:S_api_Span),(⟨x7.Lo,x7.Hi⟩:S_api_Span)]:List S_api_Span),([(⟨x8.A,x8.B⟩:S_api_ClPair),(⟨x9.A,x9.B⟩:S_api_ClPair),(⟨x10.A,x10.B⟩:S_api_ClPair),(⟨x11.A,x11.B⟩:S_api_ClPair)]:List S_api_ClPair),inks,([(⟨x12.A,x12.B⟩:S_api_ClPair)]:List S_api_ClPair)⟩:S_api_ClMap)


def F75L2 (c7:Int×(List S_api_ClPair)) (x13:List Int):Nat→(Int×(List S_api_ClPair))→Option (((List S_api_ClPair)×Int)⊕((List S_api_ClPair)))
 | 0,_=>none
 | n16+1,c15=>if (decide (c15.1<6)) then ((need (0≤c15.1∧c15.1<6)).bind fun x18=>(x13[0+c15.1.toNat*1]?).bind fun x19=>if (cond (decide (c7.1<c15.1)) (decide (x19>0)) false) then ((need ((c15.2.length+([(⟨c7.1,c15.1⟩:S_api_ClPair)]:List S_api_ClPair).length)*16≤140737488355328∧c15.2.length+([(⟨c7.1,c15.1⟩:S_api_ClPair)]:List S_api_ClPair).length≤9223372036854775807)).bind fun x21=>F75L2 c7 x13 n16 ((w64 (c15.1+1)),(c15.2++([(⟨c7.1,c15.1⟩:S_api_ClPair)]:List S_api_ClPair)))) else (F75L2 c7 x13 n16 ((w64 (c15.1+1)),c15.2))) else (some (.inr c15.2))

def F75L1 (fuel:Nat) (x4:List Int):Nat→(Int×(List S_api_ClPair))→Option (((List S_api_ClPair)×Int)⊕((List S_api_ClPair)))
 | 0,_=>none
 | n8+1,c7=>if (decide (c7.1<6)) then ((need (0≤c7.1∧c7.1<6)).bind fun x10=>(cutN x4 (0+c7.1.toNat*6) 6).bind fun x11=>(need (x11.length=6)).bind fun x12=>(cutN x11 0 6).bind fun x13=>(F75L2 c7 x13 fuel (0,c7.2)).bind fun o14=>outK o14 (fun (ro14:(List S_api_ClPair)×Int)=>some (.inl ro14)) (fun (so14:(List S_api_ClPair))=>F75L1 fuel x4 n8 ((w64 (c7.1+1)),so14))) else (some (.inr c7.2))

def F75 (fuel:Nat)  (p_m:S_api_ClMap) (legend:(List Int)):Option ((List S_api_ClPair)×Int) :=
 (F90 fuel p_m legend).bind fun x1=>if (x1.2 != 0) then (some (([]:List S_api_ClPair),x1.2)) else ((x1.1).bind fun x3=>(cutN x3.vec 0 36).bind fun x4=>(F75L1 fuel x4 fuel (0,([]:List S_api_ClPair))).bind fun o6=>outK o6 (fun (ro6:(List S_api_ClPair)×Int)=>some ro6) (fun (so6:(List S_api_ClPair))=>some (so6,0)))


def F145v2  (p_c:(Option S_colour_chart)) (p_s:S_api_ClPair):Option ((Option S_colour_chart)×Int×Int) :=
 some (p_c,p_s.A,p_s.B)


def F76r  (y1:Int) (y2:Int) (b1x0:List Int) (b2x0:(Option S_colour_chart)) (b3x0:Bool):Option (Bool) :=
 (optG (!b3x0) (idx b1x0 y1)).bind fun x1=>(optG (!b3x0) (idx b1x0 y2)).bind fun x2=>(optG (!b3x0) (F91 b2x0 x1 x2)).bind fun x3=>some (cond b3x0 true x3)


def F192v1L2 (b1x0:List Int) (b2x0:(Option S_colour_chart)) (x2:S_api_Span) (x4:S_api_Span) (c6:Int×Bool):Nat→(Int×Bool)→Option ((Bool)⊕(Bool))
 | 0,_=>none
 | n11+1,c10=>if (decide (c10.1<(w64 ((w64 (x4.Hi-x4.Lo))+1)))) then ((optG ((w64 (x2.Lo+c6.1)) != (w64 (x4.Lo+c10.1))) (F76r (w64 (x2.Lo+c6.1)) (w64 (x4.Lo+c10.1)) b1x0 b2x0 c10.2)).bind fun x13=>if (cond ((w64 (x2.Lo+c6.1)) != (w64 (x4.Lo+c10.1))) false false) then (some (.inl (cond ((w64 (x2.Lo+c6.1)) != (w64 (x4.Lo+c10.1))) x13 c10.2))) else (F192v1L2 b1x0 b2x0 x2 x4 c6 n11 ((w64 (c10.1+1)),(cond ((w64 (x2.Lo+c6.1)) != (w64 (x4.Lo+c10.1))) x13 c10.2)))) else (some (.inr c10.2))

def F192v1L1 (fuel:Nat) (b1x0:List Int) (b2x0:(Option S_colour_chart)) (x2:S_api_Span) (x4:S_api_Span):Nat→(Int×Bool)→Option ((Bool)⊕(Bool))
 | 0,_=>none
 | n7+1,c6=>if (decide (c6.1<(w64 ((w64 (x2.Hi-x2.Lo))+1)))) then ((F192v1L2 b1x0 b2x0 x2 x4 c6 fuel (0,c6.2)).bind fun o9=>outK o9 (fun (ro9:Bool)=>some (.inl ro9)) (fun (so9:Bool)=>F192v1L1 fuel b1x0 b2x0 x2 x4 n7 ((w64 (c6.1+1)),so9))) else (some (.inr c6.2))

def F192v1 (fuel:Nat)  (b1x0:List Int) (b2x0:(Option S_colour_chart)) (b3x0:Bool) (b4x0:(Option S_colour_chart)) (b5x0:Int) (b5x1:Int):Option (Bool) :=
 (b4x0).bind fun x1=>(idx x1.bands b5x0).bind fun x2=>(b4x0).bind fun x3=>(idx x3.bands b5x1).bind fun x4=>(F192v1L1 fuel b1x0 b2x0 x2 x4 fuel (0,b3x0)).bind fun o5=>outK o5 (fun (ro5:Bool)=>some ro5) (fun (so5:Bool)=>some so5)


def F76L1 (fuel:Nat) (p_m:S_api_ClMap) (inks:(List Int)) (x1:(Option S_colour_chart)×Int):Nat→(Int×(List Int))→Option (((List Int)×Int)⊕((List Int)))
 | 0,_=>none
 | n9+1,c8=>if (decide (c8.1<(p_m.Sides.length:Int))) then ((idx p_m.Sides c8.1).bind fun x11=>(F145v2 x1.1 x11).bind fun x12=>(F192v1 fuel inks x1.1 false x12.1 x12.2.1 x12.2.2).bind fun x13=>if x13 then ((need ((c8.2.length+([c8.1]:List Int).length)*8≤140737488355328∧c8.2.length+([c8.1]:List Int).length≤9223372036854775807)).bind fun x15=>F76L1 fuel p_m inks x1 n9 ((w64 (c8.1+1)),(c8.2++([c8.1]:List Int)))) else (F76L1 fuel p_m inks x1 n9 ((w64 (c8.1+1)),c8.2))) else (some (.inr c8.2))

def F76 (fuel:Nat)  (p_m:S_api_ClMap) (legend:(List Int)) (inks:(List Int)):Option ((List Int)×Int) :=
 (F90 fuel p_m legend).bind fun x1=>if (x1.2 != 0) then (some (([]:List Int),x1.2)) else (if ((inks.length:Int) != (w64 ((legend.length:Int)+1))) then (some (([]:List Int),3)) else ((F144 fuel 0 (w64 (p_m.Inks-1)) inks).bind fun x4=>if x4 then (some (([]:List Int),4)) else ((F76L1 fuel p_m inks x1 fuel (0,([]:List Int))).bind fun o7=>outK o7 (fun (ro7:(List Int)×Int)=>some ro7) (fun (so7:(List Int))=>some (so7,0)))))


def F78L1 (p_a:(List S_api_ClPair)) (p_b:(List S_api_ClPair)):Nat→Int→Option ((Bool)⊕(Unit))
 | 0,_=>none
 | n4+1,c3=>if (decide (c3<(p_a.length:Int))) then ((idx p_a c3).bind fun x6=>(idx p_b c3).bind fun x7=>if (!((x6.A==x7.A)&&(x6.B==x7.B))) then (some (.inl false)) else (F78L1 p_a p_b n4 (w64 (c3+1)))) else (some (.inr ()))

def F78 (fuel:Nat)  (p_a:(List S_api_ClPair)) (p_b:(List S_api_ClPair)):Option (Bool) :=
 if ((p_a.length:Int) != (p_b.length:Int)) then (some false) else ((F78L1 p_a p_b fuel 0).bind fun o2=>outK o2 (fun (ro2:Bool)=>some ro2) (fun (so2:Unit)=>some true))


def F17 (fuel:Nat)   : Option (Bool) :=
 (F74 3).bind fun x1=>(F24 fuel (⟨x1.Borders,x1.Step,x1.Heights,x1.Sides,x1.Inks,x1.Like⟩:S_api_ClMap) ([100,200]:List Int)).bind fun x2=>(F25 fuel (⟨x1.Borders,x1.Step,x1.Heights,x1.Sides,x1.Inks,x1.Like⟩:S_api_ClMap) ([100,200]:List Int)).bind fun x3=>(F75 fuel (⟨x1.Borders,x1.Step,x1.Heights,x1.Sides,x1.Inks,x1.Like⟩:S_api_ClMap) ([100,200]:List Int)).bind fun x4=>(F29 fuel (⟨x1.Borders,x1.Step,x1.Heights,x1.Sides,x1.Inks,x1.Like⟩:S_api_ClMap) ([100,200]:List Int)).bind fun x5=>(F76 fuel (⟨x1.Borders,x1.Step,x1.Heights,x1.Sides,x1.Inks,x1.Like⟩:S_api_ClMap) ([100,200]:List Int) ([0,1,2]:List Int)).bind fun x6=>(F21 fuel (⟨x1.Borders,x1.Step,x1.Heights,x1.Sides,x1.Inks,x1.Like⟩:S_api_ClMap)).bind fun x7=>(F74 2).bind fun x8=>(F29 fuel (⟨x8.Borders,x8.Step,x8.Heights,x8.Sides,x8.Inks,x8.Like⟩:S_api_ClMap) ([100,200]:List Int)).bind fun x9=>(optG (cond (cond (cond (cond (cond (cond (x2.2==0) (x3.2==0) false) (x4.2==0) false) (x5.2.2==0) false) (x6.2==0) false) (x7.2.2==0) false) (x9.2.2==9) false) (F77 0 0)).bind fun x10=>(optG (cond (cond (cond (cond (cond (cond (x2.2==0) (x3.2==0) false) (x4.2==0) false) (x5.2.2==0) false) (x6.2==0) false) (x7.2.2==0) false) (x9.2.2==9) false) (F77 0 1)).bind fun x11=>(optG (cond (cond (cond (cond (cond (cond (x2.2==0) (x3.2==0) false) (x4.2==0) false) (x5.2.2==0) false) (x6.2==0) false) (x7.2.2==0) false) (x9.2.2==9) false) (F77 1 1)).bind fun x12=>(optG (cond (cond (cond (cond (cond (cond (x2.2==0) (x3.2==0) false) (x4.2==0) false) (x5.2.2==0) false) (x6.2==0) false) (x7.2.2==0) false) (x9.2.2==9) false) (F77 1 2)).bind fun x13=>(optG (cond (cond (cond (cond (cond (cond (x2.2==0) (x3.2==0) false) (x4.2==0) false) (x5.2.2==0) false) (x6.2==0) false) (x7.2.2==0) false) (x9.2.2==9) false) (F77 2 2)).bind fun x14=>(optG (cond (cond (cond (cond (cond (cond (x2.2==0) (x3.2==0) false) (x4.2==0) false) (x5.2.2==0) false) (x6.2==0) false) (x7.2.2==0) false) (x9.2.2==9) false) (F15 fuel x2.1 ([(⟨x10.Lo,x10.Hi⟩:S_api_Span),(⟨x11.Lo,x11.Hi⟩:S_api_Span),(⟨x12.Lo,x12.Hi⟩:S_api_Span),(⟨x13.Lo,x13.Hi⟩:S_api_Span),(⟨x14.Lo,x14.Hi⟩:S_api_Span)]:List S_api_Span))).bind fun x15=>(optG (cond (cond (cond (cond (cond (cond (cond (x2.2==0) (x3.2==0) false) (x4.2==0) false) (x5.2.2==0) false) (x6.2==0) false) (x7.2.2==0) false) (x9.2.2==9) false) x15 false) (F48 fuel x3.1 ([1,3]:List Int))).bind fun x16=>(optG (cond (cond (cond (cond (cond (cond (cond (cond (x2.2==0) (x3.2==0) false) (x4.2==0) false) (x5.2.2==0) false) (x6.2==0) false) (x7.2.2==0) false) (x9.2.2==9) false) x15 false) x16 false) (F79 0 1)).bind fun x17=>(optG (cond (cond (cond (cond (cond (cond (cond (cond (x2.2==0) (x3.2==0) false) (x4.2==0) false) (x5.2.2==0) false) (x6.2==0) false) (x7.2.2==0) false) (x9.2.2==9) false) x15 false) x16 false) (F79 1 2)).bind fun x18=>(optG (cond (cond (cond (cond (cond (cond (cond (cond (x2.2==0) (x3.2==0) false) (x4.2==0) false) (x5.2.2==0) false) (x6.2==0) false) (x7.2.2==0) false) (x9.2.2==9) false) x15 false) x16 false) (F78 fuel x4.1 ([(⟨x17.A,x17.B⟩:S_api_ClPair),(⟨x18.A,x18.B⟩:S_api_ClPair)]:List S_api_ClPair))).bind fun x19=>(optG (cond (cond (cond (cond (cond (cond (cond (cond (cond (x2.2==0) (x3.2==0) false) (x4.2==0) false) (x5.2.2==0) false) (x6.2==0) false) (x7.2.2==0) false) (x9.2.2==9) false) x15 false) x16 false) x19 false) (F48 fuel x5.1 ([0,2,0]:List Int))).bind fun x20=>(optG (cond (cond (cond (cond (cond (cond (cond (cond (cond (cond (cond (x2.2==0) (x3.2==0) false) (x4.2==0) false) (x5.2.2==0) false) (x6.2==0) false) (x7.2.2==0) false) (x9.2.2==9) false) x15 false) x16 false) x19 false) x20 false) (x5.2.1==2) false) (F48 fuel x6.1 ([0,1]:List Int))).bind fun x21=>(optG (cond (cond (cond (cond (cond (cond (cond (cond (cond (cond (cond (cond (x2.2==0) (x3.2==0) false) (x4.2==0) false) (x5.2.2==0) false) (x6.2==0) false) (x7.2.2==0) false) (x9.2.2==9) false) x15 false) x16 false) x19 false) x20 false) (x5.2.1==2) false) x21 false) (F48 fuel x7.1 ([104,203]:List Int))).bind fun x22=>some (cond (cond (cond (cond (cond (cond (cond (cond (cond (cond (cond (cond (cond (cond (x2.2==0) (x3.2==0) false) (x4.2==0) false) (x5.2.2==0) false) (x6.2==0) false) (x7.2.2==0) false) (x9.2.2==9) false) x15 false) x16 false) x19 false) x20 false) (x5.2.1==2) false) x21 false) x22 false) (x7.2.1==0) false)
end Go.Proofs.YtkcgfceihpampaaGreatDoor
