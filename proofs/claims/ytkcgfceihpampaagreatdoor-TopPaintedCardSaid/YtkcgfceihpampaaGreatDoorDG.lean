/- What functions of the seat compute. Printed by a program of mine. -/
import Derived.Test.YtkcgfceihpampaaGreatDoorP
namespace Go.Proofs.YtkcgfceihpampaaGreatDoor
open Go Go.Sx
set_option linter.unusedVariables false


def F191  (p_n:Int) (b0x0:Int) (b1x0:Int):Option (Bool) :=
 some (cond (decide (p_n<b0x0)) true (decide (p_n>b1x0)))


def F207v2L1 (p_s:(List Int)) (b0x0:Int) (b1x0:Int):Nat→Int→Option ((Int)⊕(Unit))
 | 0,_=>none
 | n3+1,c2=>if (decide (c2<(p_s.length:Int))) then ((idx p_s c2).bind fun x5=>(F191 x5 b0x0 b1x0).bind fun x6=>if x6 then (some (.inl c2)) else (F207v2L1 p_s b0x0 b1x0 n3 (w64 (c2+1)))) else (some (.inr ()))

def F207v2 (fuel:Nat)  (p_s:(List Int)) (b0x0:Int) (b1x0:Int):Option (Int) :=
 (F207v2L1 p_s b0x0 b1x0 fuel 0).bind fun o1=>outK o1 (fun (ro1:Int)=>some ro1) (fun (so1:Unit)=>some (-1))


def F171v2 (fuel:Nat)  (p_s:(List Int)) (b0x0:Int) (b1x0:Int):Option (Bool) :=
 (F207v2 fuel p_s b0x0 b1x0).bind fun x1=>some (decide (x1≥0))


def F144 (fuel:Nat)  (lo:Int) (hi:Int) (numbers:(List Int)):Option (Bool) :=
 (F171v2 fuel numbers lo hi).bind fun x1=>some x1


def F149 (fuel:Nat)  (p_s:S_api_Span) (wide:Int):Option (Int) :=
 (F144 fuel 0 9000 ([p_s.Lo,p_s.Hi]:List Int)).bind fun x1=>if x1 then (some 7) else ((F144 fuel p_s.Lo (w64 (p_s.Lo+wide)) ([p_s.Hi]:List Int)).bind fun x3=>if x3 then (some 2) else (some 0))


def F148 (fuel:Nat)  (p_s:S_api_Span):Option (Int) :=
 (F149 fuel p_s 20).bind fun x1=>some x1


def F147L1 (fuel:Nat) (l:(List S_api_Span)):Nat→Int→Option ((Int×Int)⊕(Unit))
 | 0,_=>none
 | n3+1,c2=>if (decide (c2<(l.length:Int))) then ((idx l c2).bind fun x5=>(F148 fuel x5).bind fun x6=>if (x6 != 0) then (some (.inl (c2,x6))) else (F147L1 fuel l n3 (w64 (c2+1)))) else (some (.inr ()))

def F147 (fuel:Nat)  (l:(List S_api_Span)):Option (Int×Int) :=
 (F147L1 fuel l fuel 0).bind fun o1=>outK o1 (fun (ro1:Int×Int)=>some ro1) (fun (so1:Unit)=>some (0,0))


def F150 (fuel:Nat)  (p_s:S_api_Span):Option (Int) :=
 (F149 fuel p_s 9000).bind fun x1=>some x1


def F147v1L1 (fuel:Nat) (l:(List S_api_Span)):Nat→Int→Option ((Int×Int)⊕(Unit))
 | 0,_=>none
 | n3+1,c2=>if (decide (c2<(l.length:Int))) then ((idx l c2).bind fun x5=>(F150 fuel x5).bind fun x6=>if (x6 != 0) then (some (.inl (c2,x6))) else (F147v1L1 fuel l n3 (w64 (c2+1)))) else (some (.inr ()))

def F147v1 (fuel:Nat)  (l:(List S_api_Span)):Option (Int×Int) :=
 (F147v1L1 fuel l fuel 0).bind fun o1=>outK o1 (fun (ro1:Int×Int)=>some ro1) (fun (so1:Unit)=>some (0,0))


def F153 (fuel:Nat)  (p:S_api_ClPair) (below:Int):Option (Int) :=
 (F144 fuel 0 (w64 (below-1)) ([p.A,p.B]:List Int)).bind fun x1=>if x1 then (some 4) else (if (p.A==p.B) then (some 2) else (some 0))


def F152 (fuel:Nat)  (p:S_api_ClPair) (b0x0:List S_api_Span) (b0x1:Int) (b0x2:List S_api_Span) (b0x3:List S_api_ClPair) (b0x4:Int) (b0x5:List S_api_ClPair):Option (Int) :=
 (F153 fuel p (b0x2.length:Int)).bind fun x1=>some x1


def F151L1 (fuel:Nat) (l:(List S_api_ClPair)) (b0x0:List S_api_Span) (b0x1:Int) (b0x2:List S_api_Span) (b0x3:List S_api_ClPair) (b0x4:Int) (b0x5:List S_api_ClPair):Nat→Int→Option ((Int×Int)⊕(Unit))
 | 0,_=>none
 | n3+1,c2=>if (decide (c2<(l.length:Int))) then ((idx l c2).bind fun x5=>(F152 fuel x5 b0x0 b0x1 b0x2 b0x3 b0x4 b0x5).bind fun x6=>if (x6 != 0) then (some (.inl (c2,x6))) else (F151L1 fuel l b0x0 b0x1 b0x2 b0x3 b0x4 b0x5 n3 (w64 (c2+1)))) else (some (.inr ()))

def F151 (fuel:Nat)  (l:(List S_api_ClPair)) (b0x0:List S_api_Span) (b0x1:Int) (b0x2:List S_api_Span) (b0x3:List S_api_ClPair) (b0x4:Int) (b0x5:List S_api_ClPair):Option (Int×Int) :=
 (F151L1 fuel l b0x0 b0x1 b0x2 b0x3 b0x4 b0x5 fuel 0).bind fun o1=>outK o1 (fun (ro1:Int×Int)=>some ro1) (fun (so1:Unit)=>some (0,0))


def F154 (fuel:Nat)  (p:S_api_ClPair) (b0x0:List S_api_Span) (b0x1:Int) (b0x2:List S_api_Span) (b0x3:List S_api_ClPair) (b0x4:Int) (b0x5:List S_api_ClPair):Option (Int) :=
 (F153 fuel p b0x4).bind fun x1=>some x1


def F151v1L1 (fuel:Nat) (l:(List S_api_ClPair)) (b0x0:List S_api_Span) (b0x1:Int) (b0x2:List S_api_Span) (b0x3:List S_api_ClPair) (b0x4:Int) (b0x5:List S_api_ClPair):Nat→Int→Option ((Int×Int)⊕(Unit))
 | 0,_=>none
 | n3+1,c2=>if (decide (c2<(l.length:Int))) then ((idx l c2).bind fun x5=>(F154 fuel x5 b0x0 b0x1 b0x2 b0x3 b0x4 b0x5).bind fun x6=>if (x6 != 0) then (some (.inl (c2,x6))) else (F151v1L1 fuel l b0x0 b0x1 b0x2 b0x3 b0x4 b0x5 n3 (w64 (c2+1)))) else (some (.inr ()))

def F151v1 (fuel:Nat)  (l:(List S_api_ClPair)) (b0x0:List S_api_Span) (b0x1:Int) (b0x2:List S_api_Span) (b0x3:List S_api_ClPair) (b0x4:Int) (b0x5:List S_api_ClPair):Option (Int×Int) :=
 (F151v1L1 fuel l b0x0 b0x1 b0x2 b0x3 b0x4 b0x5 fuel 0).bind fun o1=>outK o1 (fun (ro1:Int×Int)=>some ro1) (fun (so1:Unit)=>some (0,0))


def F85 (fuel:Nat)  (p_m:S_api_ClMap):Option (Int×Int×Int) :=
 (F144 fuel 1 5 ([(p_m.Borders.length:Int)]:List Int)).bind fun x1=>(optG (!x1) (F144 fuel 1 8 ([(p_m.Heights.length:Int)]:List Int))).bind fun x2=>if (cond (cond (cond x1 true x2) true (decide ((p_m.Sides.length:Int)>10))) true (decide ((p_m.Like.length:Int)>8))) then (some (1,0,3)) else ((F144 fuel 1 1000 ([p_m.Step]:List Int)).bind fun x4=>(optG (!x4) (F144 fuel 1 6 ([p_m.Inks]:List Int))).bind fun x5=>if (cond x4 true x5) then (some (1,0,7)) else ((F147 fuel p_m.Borders).bind fun x7=>if (x7.2 != 0) then (some (2,x7.1,x7.2)) else ((F147v1 fuel p_m.Heights).bind fun x9=>if (x9.2 != 0) then (some (3,x9.1,x9.2)) else ((F151 fuel p_m.Sides p_m.Borders p_m.Step p_m.Heights p_m.Sides p_m.Inks p_m.Like).bind fun x11=>if (x11.2 != 0) then (some (4,x11.1,x11.2)) else ((F151v1 fuel p_m.Like p_m.Borders p_m.Step p_m.Heights p_m.Sides p_m.Inks p_m.Like).bind fun x13=>if (x13.2 != 0) then (some (5,x13.1,x13.2)) else (some (0,0,0)))))))


def F155L1 (fuel:Nat) (p_m:S_api_ClMap) (legend:(List Int)):Nat→Int→Option ((Int×Int)⊕(Unit))
 | 0,_=>none
 | n6+1,c5=>if (decide (c5<(legend.length:Int))) then ((idx legend c5).bind fun x8=>(idx p_m.Borders c5).bind fun x9=>(idx p_m.Borders c5).bind fun x10=>(F144 fuel x9.Lo x10.Hi ([x8]:List Int)).bind fun x11=>if x11 then (some (.inl (c5,7))) else ((optG (decide (c5>0)) (idx legend (w64 (c5-1)))).bind fun x13=>if (cond (decide (c5>0)) (decide (x8<(w64 (x13+p_m.Step)))) false) then (some (.inl (c5,2))) else (F155L1 fuel p_m legend n6 (w64 (c5+1))))) else (some (.inr ()))

def F155 (fuel:Nat)  (p_m:S_api_ClMap) (legend:(List Int)):Option (Int×Int) :=
 (F85 fuel p_m).bind fun x1=>if (x1.2.2 != 0) then (some (0,x1.2.2)) else (if ((legend.length:Int) != (p_m.Borders.length:Int)) then (some (0,3)) else ((F155L1 fuel p_m legend fuel 0).bind fun o4=>outK o4 (fun (ro4:Int×Int)=>some ro4) (fun (so4:Unit)=>some (0,0))))


def F219  (p_x:Int):Option (Bool) :=
 some (p_x != p_x)


def F217  (p_x:Int) (y:Int):Option (Bool) :=
 (F219 p_x).bind fun x1=>(optG x1 (F219 y)).bind fun x2=>some (cond (cond x1 (!x2) false) true (decide (p_x<y)))


def F218  (p_x:Int):Option (Bool) :=
 some (p_x != p_x)


def F193L1 (p_x:(List Int)) (target:Int):Nat→(Int×Int)→Option ((Int×Bool)⊕(Int))
 | 0,_=>none
 | n3+1,c2=>if (decide (c2.1<c2.2)) then ((idx p_x (IntKind.i64.wrap ((IntKind.u64.wrap (w64 (c2.1+c2.2))) / 2^min (1:Int).toNat 64))).bind fun x5=>(F217 x5 target).bind fun x6=>if x6 then (F193L1 p_x target n3 ((w64 ((IntKind.i64.wrap ((IntKind.u64.wrap (w64 (c2.1+c2.2))) / 2^min (1:Int).toNat 64))+1)),c2.2)) else (F193L1 p_x target n3 (c2.1,(IntKind.i64.wrap ((IntKind.u64.wrap (w64 (c2.1+c2.2))) / 2^min (1:Int).toNat 64))))) else (some (.inr c2.1))

def F193 (fuel:Nat)  (p_x:(List Int)) (target:Int):Option (Int×Bool) :=
 (F193L1 p_x target fuel (0,(p_x.length:Int))).bind fun o1=>outK o1 (fun (ro1:Int×Bool)=>some ro1) (fun (so1:Int)=>(optG (decide (so1<(p_x.length:Int))) (idx p_x so1)).bind fun x8=>(optG ((decide (so1<(p_x.length:Int)))&&(!(x8==target))) (idx p_x so1)).bind fun x9=>(optG ((decide (so1<(p_x.length:Int)))&&(!(x8==target))) (F218 x9)).bind fun x10=>(optG (((decide (so1<(p_x.length:Int)))&&(!(x8==target)))&&x10) (F218 target)).bind fun x11=>some (so1,(cond (decide (so1<(p_x.length:Int))) (cond (x8==target) true (cond x10 x11 false)) false)))


def F156v1 (fuel:Nat)  (high:Int) (b0x0:List S_api_Span) (b0x1:Int) (b0x2:List S_api_Span) (b0x3:List S_api_ClPair) (b0x4:Int) (b0x5:List S_api_ClPair) (b0x6:List Int) (b0x8:List Int) (a1:List S_api_Span):Option (Int) :=
 (F193 fuel b0x6 high).bind fun x1=>if x1.2 then (some (w64 (x1.1+1))) else (some x1.1)


def F145  (p_s:S_api_ClPair) (b0x0:List S_api_Span) (b0x1:Int) (b0x2:List S_api_Span) (b0x3:List S_api_ClPair) (b0x4:Int) (b0x5:List S_api_ClPair) (b0x6:List Int) (b0x8:List Int) (a1:List S_api_Span):Option (Int×Int) :=
 some (p_s.A,p_s.B)


def F90r  (y1:Int) (y2:Int) (b2x0:List S_api_Span) (b2x1:Int) (b2x2:List S_api_Span) (b2x3:List S_api_ClPair) (b2x4:Int) (b2x5:List S_api_ClPair) (b2x6:List Int) (b2x8:List Int) (a3:List S_api_Span):Option ((List Int)) :=
 (need (0≤y1∧y1<6)).bind fun x1=>(need (0≤y2∧y2<6)).bind fun x2=>(b2x8[0+y1.toNat*6+y2.toNat*1]?).bind fun x3=>(need (0≤y1∧y1<6)).bind fun x4=>(need (0≤y2∧y2<6)).bind fun x5=>(b2x8[0+y1.toNat*6+y2.toNat*1]?).bind fun x6=>(need (0≤y2∧y2<6)).bind fun x7=>(need (0≤y1∧y1<6)).bind fun x8=>((b2x8.set (0+y1.toNat*6+y2.toNat*1) (w64 (x3+1)))[0+y2.toNat*6+y1.toNat*1]?).bind fun x9=>(need (0≤y2∧y2<6)).bind fun x10=>(need (0≤y1∧y1<6)).bind fun x11=>((b2x8.set (0+y1.toNat*6+y2.toNat*1) (w64 (x3+1)))[0+y2.toNat*6+y1.toNat*1]?).bind fun x12=>some ((b2x8.set (0+y1.toNat*6+y2.toNat*1) (w64 (x3+1))).set (0+y2.toNat*6+y1.toNat*1) (w64 (x9+1)))


def F192L2 (b2x0:List S_api_Span) (b2x1:Int) (b2x2:List S_api_Span) (b2x3:List S_api_ClPair) (b2x4:Int) (b2x5:List S_api_ClPair) (b2x6:List Int) (a3:List S_api_Span) (x1:S_api_Span) (x2:S_api_Span) (c4:Int×(List Int)):Nat→(Int×(List Int))→Option (((List Int))⊕((List Int)))
 | 0,_=>none
 | n9+1,c8=>if (decide (c8.1<(w64 ((w64 (x2.Hi-x2.Lo))+1)))) then ((optG ((w64 (x1.Lo+c4.1)) != (w64 (x2.Lo+c8.1))) (F90r (w64 (x1.Lo+c4.1)) (w64 (x2.Lo+c8.1)) b2x0 b2x1 b2x2 b2x3 b2x4 b2x5 b2x6 c8.2 a3)).bind fun x11=>if (cond ((w64 (x1.Lo+c4.1)) != (w64 (x2.Lo+c8.1))) false false) then (some (.inl (cond ((w64 (x1.Lo+c4.1)) != (w64 (x2.Lo+c8.1))) x11 c8.2))) else (F192L2 b2x0 b2x1 b2x2 b2x3 b2x4 b2x5 b2x6 a3 x1 x2 c4 n9 ((w64 (c8.1+1)),(cond ((w64 (x1.Lo+c4.1)) != (w64 (x2.Lo+c8.1))) x11 c8.2)))) else (some (.inr c8.2))

def F192L1 (fuel:Nat) (b2x0:List S_api_Span) (b2x1:Int) (b2x2:List S_api_Span) (b2x3:List S_api_ClPair) (b2x4:Int) (b2x5:List S_api_ClPair) (b2x6:List Int) (a3:List S_api_Span) (x1:S_api_Span) (x2:S_api_Span):Nat→(Int×(List Int))→Option (((List Int))⊕((List Int)))
 | 0,_=>none
 | n5+1,c4=>if (decide (c4.1<(w64 ((w64 (x1.Hi-x1.Lo))+1)))) then ((F192L2 b2x0 b2x1 b2x2 b2x3 b2x4 b2x5 b2x6 a3 x1 x2 c4 fuel (0,c4.2)).bind fun o7=>outK o7 (fun (ro7:(List Int))=>some (.inl ro7)) (fun (so7:(List Int))=>F192L1 fuel b2x0 b2x1 b2x2 b2x3 b2x4 b2x5 b2x6 a3 x1 x2 n5 ((w64 (c4.1+1)),so7))) else (some (.inr c4.2))

def F192 (fuel:Nat)  (b2x0:List S_api_Span) (b2x1:Int) (b2x2:List S_api_Span) (b2x3:List S_api_ClPair) (b2x4:Int) (b2x5:List S_api_ClPair) (b2x6:List Int) (b2x8:List Int) (a3:List S_api_Span) (b5x0:Int) (b5x1:Int):Option ((List Int)) :=
 (idx a3 b5x0).bind fun x1=>(idx a3 b5x1).bind fun x2=>(F192L1 fuel b2x0 b2x1 b2x2 b2x3 b2x4 b2x5 b2x6 a3 x1 x2 fuel (0,b2x8)).bind fun o3=>outK o3 (fun (ro3:(List Int))=>some ro3) (fun (so3:(List Int))=>some so3)


def F90L1 (fuel:Nat) (p_m:S_api_ClMap) (legend:(List Int)):Nat→(Int×(List S_api_Span))→Option (((Option S_colour_chart)×Int)⊕((List S_api_Span)))
 | 0,_=>none
 | n6+1,c5=>if (decide (c5.1<(p_m.Heights.length:Int))) then ((idx p_m.Heights c5.1).bind fun x8=>(F156v1 fuel x8.Lo p_m.Borders p_m.Step p_m.Heights p_m.Sides p_m.Inks p_m.Like legend (List.replicate 42 (0:Int)) c5.2).bind fun x9=>(F156v1 fuel x8.Hi p_m.Borders p_m.Step p_m.Heights p_m.Sides p_m.Inks p_m.Like legend (List.replicate 42 (0:Int)) c5.2).bind fun x10=>(need ((c5.2.length+([(⟨x9,x10⟩:S_api_Span)]:List S_api_Span).length)*16≤140737488355328∧c5.2.length+([(⟨x9,x10⟩:S_api_Span)]:List S_api_Span).length≤9223372036854775807)).bind fun x11=>F90L1 fuel p_m legend n6 ((w64 (c5.1+1)),(c5.2++([(⟨x9,x10⟩:S_api_Span)]:List S_api_Span)))) else (some (.inr c5.2))

def F90L2 (fuel:Nat) (p_m:S_api_ClMap) (legend:(List Int)) (so4:(List S_api_Span)):Nat→(Int×(List Int))→Option (((Option S_colour_chart)×Int)⊕((List Int)))
 | 0,_=>none
 | n14+1,c13=>if (decide (c13.1<(p_m.Sides.length:Int))) then ((idx p_m.Sides c13.1).bind fun x16=>(F145 x16 p_m.Borders p_m.Step p_m.Heights p_m.Sides p_m.Inks p_m.Like legend c13.2 so4).bind fun x17=>(F192 fuel p_m.Borders p_m.Step p_m.Heights p_m.Sides p_m.Inks p_m.Like legend c13.2 so4 x17.1 x17.2).bind fun x18=>F90L2 fuel p_m legend so4 n14 ((w64 (c13.1+1)),x18)) else (some (.inr c13.2))

def F90L3 (p_m:S_api_ClMap):Nat→(Int×(List Int))→Option (((Option S_colour_chart)×Int)⊕((List Int)))
 | 0,_=>none
 | n21+1,c20=>if (decide (c20.1<p_m.Inks)) then ((need (0≤c20.1)).bind fun x23=>(need (0≤c20.1∧c20.1<6)).bind fun x24=>(c20.2[36+c20.1.toNat*1]?).bind fun x25=>F90L3 p_m n21 ((w64 (c20.1+1)),(c20.2.set (36+c20.1.toNat*1) (w64 ((1:Int)*2^min c20.1.toNat 64))))) else (some (.inr c20.2))

def F90L4 (p_m:S_api_ClMap):Nat→(Int×(List Int))→Option (((Option S_colour_chart)×Int)⊕((List Int)))
 | 0,_=>none
 | n28+1,c27=>if (decide (c27.1<(p_m.Like.length:Int))) then ((idx p_m.Like c27.1).bind fun x30=>(need (0≤x30.A∧x30.A<6)).bind fun x31=>(c27.2[36+x30.A.toNat*1]?).bind fun x32=>(need (0≤x30.B)).bind fun x33=>(need (0≤x30.A∧x30.A<6)).bind fun x34=>(c27.2[36+x30.A.toNat*1]?).bind fun x35=>(need (0≤x30.B∧x30.B<6)).bind fun x36=>((c27.2.set (36+x30.A.toNat*1) (Go.bits .or .i64 x32 (w64 ((1:Int)*2^min x30.B.toNat 64))))[36+x30.B.toNat*1]?).bind fun x37=>(need (0≤x30.A)).bind fun x38=>(need (0≤x30.B∧x30.B<6)).bind fun x39=>((c27.2.set (36+x30.A.toNat*1) (Go.bits .or .i64 x32 (w64 ((1:Int)*2^min x30.B.toNat 64))))[36+x30.B.toNat*1]?).bind fun x40=>F90L4 p_m n28 ((w64 (c27.1+1)),((c27.2.set (36+x30.A.toNat*1) (Go.bits .or .i64 x32 (w64 ((1:Int)*2^min x30.B.toNat 64)))).set (36+x30.B.toNat*1) (Go.bits .or .i64 x37 (w64 ((1:Int)*2^min x30.A.toNat 64)))))) else (some (.inr c27.2))

def F90 (fuel:Nat)  (p_m:S_api_ClMap) (legend:(List Int)):Option ((Option S_colour_chart)×Int) :=
 (F155 fuel p_m legend).bind fun x1=>if (x1.2 != 0) then (some ((none:(Option S_colour_chart)),x1.2)) else ((F90L1 fuel p_m legend fuel (0,([]:List S_api_Span))).bind fun o4=>outK o4 (fun (ro4:(Option S_colour_chart)×Int)=>some ro4) (fun (so4:(List S_api_Span))=>(F90L2 fuel p_m legend so4 fuel (0,(List.replicate 42 (0:Int)))).bind fun o12=>outK o12 (fun (ro12:(Option S_colour_chart)×Int)=>some ro12) (fun (so12:(List Int))=>(F90L3 p_m fuel (0,so12)).bind fun o19=>outK o19 (fun (ro19:(Option S_colour_chart)×Int)=>some ro19) (fun (so19:(List Int))=>(F90L4 p_m fuel (0,so19)).bind fun o26=>outK o26 (fun (ro26:(Option S_colour_chart)×Int)=>some ro26) (fun (so26:(List Int))=>some ((some (⟨p_m,legend,so4,so26⟩:S_colour_chart)),0))))))


def F24 (fuel:Nat)  (p_m:S_api_ClMap) (legend:(List Int)):Option ((List S_api_Span)×Int) :=
 (F90 fuel p_m legend).bind fun x1=>if (x1.2 != 0) then (some (([]:List S_api_Span),x1.2)) else ((x1.1).bind fun x3=>some (x3.bands,0))


def F25L1 (x3:S_colour_chart):Nat→(Int×(List Int))→Option (((List Int)×Int)⊕((List Int)))
 | 0,_=>none
 | n7+1,c6=>if (decide (c6.1<(x3.bands.length:Int))) then ((idx x3.bands c6.1).bind fun x9=>if (x9.Lo != x9.Hi) then ((need ((c6.2.length+([c6.1]:List Int).length)*8≤140737488355328∧c6.2.length+([c6.1]:List Int).length≤9223372036854775807)).bind fun x11=>F25L1 x3 n7 ((w64 (c6.1+1)),(c6.2++([c6.1]:List Int)))) else (F25L1 x3 n7 ((w64 (c6.1+1)),c6.2))) else (some (.inr c6.2))

def F25 (fuel:Nat)  (p_m:S_api_ClMap) (legend:(List Int)):Option ((List Int)×Int) :=
 (F90 fuel p_m legend).bind fun x1=>if (x1.2 != 0) then (some (([]:List Int),x1.2)) else ((x1.1).bind fun x3=>(F25L1 x3 fuel (0,([]:List Int))).bind fun o5=>outK o5 (fun (ro5:(List Int)×Int)=>some ro5) (fun (so5:(List Int))=>some (so5,0)))
end Go.Proofs.YtkcgfceihpampaaGreatDoor
