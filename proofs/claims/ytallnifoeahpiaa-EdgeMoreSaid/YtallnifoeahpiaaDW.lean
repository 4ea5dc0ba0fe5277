/- What functions of the seat compute. Printed by a program of mine. -/
import Derived.Test.YtallnifoeahpiaaP
import Derived.Test.YtallnifoeahpiaaDEB
import Derived.Test.YtallnifoeahpiaaDEC
import Derived.Test.YtallnifoeahpiaaDED
import Derived.Test.YtallnifoeahpiaaDEE
import Derived.Test.YtallnifoeahpiaaDEF
import Derived.Test.YtallnifoeahpiaaDEG
import Derived.Test.YtallnifoeahpiaaDEH
namespace Go.Proofs.Ytallnifoeahpiaa
open Go Go.Sx
set_option linter.unusedVariables false


def F76  (p_a:Int) (p_b:Int) (high:Int) (other:Int):Option (S_api_EdEdge) :=
 some (⟨p_a,p_b,([(⟨high,other⟩:S_api_EdPoint)]:List S_api_EdPoint)⟩:S_api_EdEdge)


def F34  (further:Bool):Option (S_api_EdCase) :=
 (F76 0 1 100 104).bind fun x1=>(F76 1 2 300 302).bind fun x2=>(F76 0 2 400 405).bind fun x3=>(need ((x1.Points.length+([(⟨200,203⟩:S_api_EdPoint)]:List S_api_EdPoint).length)*16≤140737488355328∧x1.Points.length+([(⟨200,203⟩:S_api_EdPoint)]:List S_api_EdPoint).length≤9223372036854775807)).bind fun x4=>if further then ((F76 0 2 500 500).bind fun x6=>(need ((([(⟨x1.A,x1.B,(x1.Points++([(⟨200,203⟩:S_api_EdPoint)]:List S_api_EdPoint))⟩:S_api_EdEdge),(⟨x2.A,x2.B,x2.Points⟩:S_api_EdEdge),(⟨x3.A,x3.B,x3.Points⟩:S_api_EdEdge)]:List S_api_EdEdge).length+([(⟨x6.A,x6.B,x6.Points⟩:S_api_EdEdge)]:List S_api_EdEdge).length)*40≤140737488355328∧([(⟨x1.A,x1.B,(x1.Points++([(⟨200,203⟩:S_api_EdPoint)]:List S_api_EdPoint))⟩:S_api_EdEdge),(⟨x2.A,x2.B,x2.Points⟩:S_api_EdEdge),(⟨x3.A,x3.B,x3.Points⟩:S_api_EdEdge)]:List S_api_EdEdge).length+([(⟨x6.A,x6.B,x6.Points⟩:S_api_EdEdge)]:List S_api_EdEdge).length≤9223372036854775807)).bind fun x7=>some (⟨1,([(⟨(⟨#[110,111,114,116,104]⟩:ByteArray),2,6⟩:S_api_EdSheet),(⟨(⟨#[109,105,100]⟩:ByteArray),3,6⟩:S_api_EdSheet),(⟨(⟨#[115,111,117,116,104]⟩:ByteArray),1,6⟩:S_api_EdSheet)]:List S_api_EdSheet),(([(⟨x1.A,x1.B,(x1.Points++([(⟨200,203⟩:S_api_EdPoint)]:List S_api_EdPoint))⟩:S_api_EdEdge),(⟨x2.A,x2.B,x2.Points⟩:S_api_EdEdge),(⟨x3.A,x3.B,x3.Points⟩:S_api_EdEdge)]:List S_api_EdEdge)++([(⟨x6.A,x6.B,x6.Points⟩:S_api_EdEdge)]:List S_api_EdEdge))⟩:S_api_EdCase)) else (some (⟨1,([(⟨(⟨#[110,111,114,116,104]⟩:ByteArray),2,6⟩:S_api_EdSheet),(⟨(⟨#[109,105,100]⟩:ByteArray),3,6⟩:S_api_EdSheet),(⟨(⟨#[115,111,117,116,104]⟩:ByteArray),1,6⟩:S_api_EdSheet)]:List S_api_EdSheet),([(⟨x1.A,x1.B,(x1.Points++([(⟨200,203⟩:S_api_EdPoint)]:List S_api_EdPoint))⟩:S_api_EdEdge),(⟨x2.A,x2.B,x2.Points⟩:S_api_EdEdge),(⟨x3.A,x3.B,x3.Points⟩:S_api_EdEdge)]:List S_api_EdEdge)⟩:S_api_EdCase))


def F35  (lo:Int) (hi:Int):Option (S_api_Span) :=
 some (⟨lo,hi⟩:S_api_Span)


def F29L1 (p_a:(List Int)) (p_b:(List Int)):Nat→Int→Option ((Bool)⊕(Unit))
 | 0,_=>none
 | n4+1,c3=>if (decide (c3<(p_a.length:Int))) then ((idx p_a c3).bind fun x6=>(idx p_b c3).bind fun x7=>if (x6 != x7) then (some (.inl false)) else (F29L1 p_a p_b n4 (w64 (c3+1)))) else (some (.inr ()))

def F29 (fuel:Nat)  (p_a:(List Int)) (p_b:(List Int)):Option (Bool) :=
 if ((p_a.length:Int) != (p_b.length:Int)) then (some false) else ((F29L1 p_a p_b fuel 0).bind fun o2=>outK o2 (fun (ro2:Bool)=>some ro2) (fun (so2:Unit)=>some true))


def F24e1 (x3:S_api_Span×Int) (x4:Int×Int) (x5:Int×Int) (x6:S_api_Span×Int) (x7:(List Int)×Int×Int) (x8:Int×Int) (x10:(List Int)×Int) (x13:Int×Int) (x11:(List Int)×Int×Int) (x14:S_api_Span) (x15:S_api_Span) (x16:Bool) (x17:Bool):Bool :=
 (cond (cond (cond (cond (cond (cond (cond (cond (cond (cond (cond (cond (cond (cond (cond (cond (cond (x3.2==0) (x4.2==0) false) (x5.2==0) false) (x6.2==0) false) (x7.2.2==0) false) (x8.2==0) false) (x10.2==0) false) (x13.2==0) false) (x11.2.2==9) false) ((x3.1.Lo==x14.Lo)&&(x3.1.Hi==x14.Hi)) false) (x4.1==1) false) (x5.1==7) false) ((x6.1.Lo==x15.Lo)&&(x6.1.Hi==x15.Hi)) false) x16 false) (x7.2.1==7) false) (x8.1==3) false) (x13.1==7) false) x17 false)

def F24 (fuel:Nat)   : Option (Bool) :=
 (F34 false).bind fun x1=>(F34 true).bind fun x2=>(F18 fuel (⟨x1.Tol,x1.Sheets,x1.Edges⟩:S_api_EdCase) 0).bind fun x3=>(F20 fuel (⟨x1.Tol,x1.Sheets,x1.Edges⟩:S_api_EdCase) ([4,0,0]:List Int)).bind fun x4=>(F22 fuel (⟨x1.Tol,x1.Sheets,x1.Edges⟩:S_api_EdCase) ([3,0,(-1)]:List Int)).bind fun x5=>(F25 fuel (⟨x1.Tol,x1.Sheets,x1.Edges⟩:S_api_EdCase) 1).bind fun x6=>(F27 fuel (⟨x1.Tol,x1.Sheets,x1.Edges⟩:S_api_EdCase)).bind fun x7=>(F30 fuel (⟨x1.Tol,x1.Sheets,x1.Edges⟩:S_api_EdCase) ([3,0,0]:List Int)).bind fun x8=>(F40 fuel (⟨x1.Tol,x1.Sheets,x1.Edges⟩:S_api_EdCase)).bind fun x9=>(F32 fuel (⟨x2.Tol,x2.Sheets,x2.Edges⟩:S_api_EdCase)).bind fun x10=>(F27 fuel (⟨x2.Tol,x2.Sheets,x2.Edges⟩:S_api_EdCase)).bind fun x11=>if (cond (x9.2 != 0) true ((x9.1.length:Int) != 3)) then (some false) else ((F30 fuel (⟨x1.Tol,x1.Sheets,x1.Edges⟩:S_api_EdCase) x9.1).bind fun x13=>(optG (cond (cond (cond (cond (cond (cond (cond (cond (x3.2==0) (x4.2==0) false) (x5.2==0) false) (x6.2==0) false) (x7.2.2==0) false) (x8.2==0) false) (x10.2==0) false) (x13.2==0) false) (x11.2.2==9) false) (F35 3 4)).bind fun x14=>(optG (cond (cond (cond (cond (cond (cond (cond (cond (cond (cond (cond (x3.2==0) (x4.2==0) false) (x5.2==0) false) (x6.2==0) false) (x7.2.2==0) false) (x8.2==0) false) (x10.2==0) false) (x13.2==0) false) (x11.2.2==9) false) ((x3.1.Lo==x14.Lo)&&(x3.1.Hi==x14.Hi)) false) (x4.1==1) false) (x5.1==7) false) (F35 (-5) 3)).bind fun x15=>(optG (cond (cond (cond (cond (cond (cond (cond (cond (cond (cond (cond (cond (x3.2==0) (x4.2==0) false) (x5.2==0) false) (x6.2==0) false) (x7.2.2==0) false) (x8.2==0) false) (x10.2==0) false) (x13.2==0) false) (x11.2.2==9) false) ((x3.1.Lo==x14.Lo)&&(x3.1.Hi==x14.Hi)) false) (x4.1==1) false) (x5.1==7) false) ((x6.1.Lo==x15.Lo)&&(x6.1.Hi==x15.Hi)) false) (F29 fuel x7.1 ([3,0,(-1)]:List Int))).bind fun x16=>(optG (cond (cond (cond (cond (cond (cond (cond (cond (cond (cond (cond (cond (cond (cond (cond (cond (x3.2==0) (x4.2==0) false) (x5.2==0) false) (x6.2==0) false) (x7.2.2==0) false) (x8.2==0) false) (x10.2==0) false) (x13.2==0) false) (x11.2.2==9) false) ((x3.1.Lo==x14.Lo)&&(x3.1.Hi==x14.Hi)) false) (x4.1==1) false) (x5.1==7) false) ((x6.1.Lo==x15.Lo)&&(x6.1.Hi==x15.Hi)) false) x16 false) (x7.2.1==7) false) (x8.1==3) false) (x13.1==7) false) (F29 fuel x10.1 ([3]:List Int))).bind fun x17=>some (F24e1 x3 x4 x5 x6 x7 x8 x10 x13 x11 x14 x15 x16 x17))
end Go.Proofs.Ytallnifoeahpiaa
