/- What functions of the seat compute. Printed by a program of mine. -/
import Derived.Test.YtallnifoeahpiaaP
import Derived.Test.YtallnifoeahpiaaDED
import Derived.Test.YtallnifoeahpiaaDLE
import Derived.Test.YtallnifoeahpiaaDW
namespace Go.Proofs.Ytallnifoeahpiaa
open Go Go.Sx
set_option linter.unusedVariables false


def F46  (p_c:S_api_EdCase) (sheet:Int) (change:Int):Option (S_api_EdCase) :=
 (need ((([]:List S_api_EdSheet).length+p_c.Sheets.length)*32≤140737488355328∧([]:List S_api_EdSheet).length+p_c.Sheets.length≤9223372036854775807)).bind fun x1=>(idx (([]:List S_api_EdSheet)++p_c.Sheets) sheet).bind fun x2=>some (⟨p_c.Tol,((([]:List S_api_EdSheet)++p_c.Sheets).set sheet.toNat (⟨x2.Name,x2.Weight,(if (w64 (0-change))>change then (w64 (0-change)) else change)⟩:S_api_EdSheet)),p_c.Edges⟩:S_api_EdCase)


def F11e1 (p_n:Int) (x9:S_api_EdSheet) (x5:S_api_Span×Int):Bool :=
 (cond (decide ((w64 (((IntKind.i64.wrap p_n).tmod (w64 ((w64 (2*x9.Most))+1)))-x9.Most))≥x5.1.Lo)) (decide ((w64 (((IntKind.i64.wrap p_n).tmod (w64 ((w64 (2*x9.Most))+1)))-x9.Most))≤x5.1.Hi)) false)

def F11e2 (p_n:Int) (x9:S_api_EdSheet):Int :=
 (if (w64 (0-(w64 (((IntKind.i64.wrap p_n).tmod (w64 ((w64 (2*x9.Most))+1)))-x9.Most))))>(w64 (((IntKind.i64.wrap p_n).tmod (w64 ((w64 (2*x9.Most))+1)))-x9.Most)) then (w64 (0-(w64 (((IntKind.i64.wrap p_n).tmod (w64 ((w64 (2*x9.Most))+1)))-x9.Most)))) else (w64 (((IntKind.i64.wrap p_n).tmod (w64 ((w64 (2*x9.Most))+1)))-x9.Most)))

def F11e3 (x13:S_api_Span×Int) (x14:S_api_Span) (p_n:Int) (x9:S_api_EdSheet) (x5:S_api_Span×Int) (x17:Bool):Bool :=
 (cond (cond (cond (x13.2==0) ((x13.1.Lo==x14.Lo)&&(x13.1.Hi==x14.Hi)) false) (cond (cond (!(F11e1 p_n x9 x5)) true ((w64 (((IntKind.i64.wrap p_n).tmod (w64 ((w64 (2*x9.Most))+1)))-x9.Most))==x13.1.Lo)) true ((w64 (((IntKind.i64.wrap p_n).tmod (w64 ((w64 (2*x9.Most))+1)))-x9.Most))==x13.1.Hi)) false) x17 false)

def F11 (fuel:Nat)  (p_c:S_api_EdCase) (which:Int) (p_n:Int):Option (Bool) :=
 (F36 fuel p_c).bind fun x1=>if (!x1) then ((F24 fuel).bind fun x3=>some x3) else ((need ((p_c.Sheets.length:Int)≠0)).bind fun x4=>(F25 fuel p_c ((IntKind.i64.wrap which).tmod (p_c.Sheets.length:Int))).bind fun x5=>if (x5.2 != 0) then ((optG (x5.2==9) (F35 0 0)).bind fun x7=>(optG (cond (x5.2==9) ((x5.1.Lo==x7.Lo)&&(x5.1.Hi==x7.Hi)) false) (F24 fuel)).bind fun x8=>some (cond (cond (x5.2==9) ((x5.1.Lo==x7.Lo)&&(x5.1.Hi==x7.Hi)) false) x8 false)) else ((idx p_c.Sheets ((IntKind.i64.wrap which).tmod (p_c.Sheets.length:Int))).bind fun x9=>(need ((w64 ((w64 (2*x9.Most))+1))≠0)).bind fun x10=>if (cond (cond (decide (x5.1.Lo<(w64 (0-x9.Most)))) true (decide (x5.1.Hi>x9.Most))) true (decide (x5.1.Lo>x5.1.Hi))) then (some false) else ((F46 p_c ((IntKind.i64.wrap which).tmod (p_c.Sheets.length:Int)) (w64 (((IntKind.i64.wrap p_n).tmod (w64 ((w64 (2*x9.Most))+1)))-x9.Most))).bind fun x12=>(F25 fuel (⟨x12.Tol,x12.Sheets,x12.Edges⟩:S_api_EdCase) ((IntKind.i64.wrap which).tmod (p_c.Sheets.length:Int))).bind fun x13=>(F35 (if (w64 (0-(F11e2 p_n x9)))>x5.1.Lo then (w64 (0-(F11e2 p_n x9))) else x5.1.Lo) (if (F11e2 p_n x9)<x5.1.Hi then (F11e2 p_n x9) else x5.1.Hi)).bind fun x14=>if (decide (x14.Lo>x14.Hi)) then ((optG (cond (x13.2==9) (!(F11e1 p_n x9 x5)) false) (F24 fuel)).bind fun x16=>some (cond (cond (x13.2==9) (!(F11e1 p_n x9 x5)) false) x16 false)) else ((optG (cond (cond (x13.2==0) ((x13.1.Lo==x14.Lo)&&(x13.1.Hi==x14.Hi)) false) (cond (cond (!(F11e1 p_n x9 x5)) true ((w64 (((IntKind.i64.wrap p_n).tmod (w64 ((w64 (2*x9.Most))+1)))-x9.Most))==x13.1.Lo)) true ((w64 (((IntKind.i64.wrap p_n).tmod (w64 ((w64 (2*x9.Most))+1)))-x9.Most))==x13.1.Hi)) false) (F24 fuel)).bind fun x17=>some (F11e3 x13 x14 p_n x9 x5 x17)))))
end Go.Proofs.Ytallnifoeahpiaa
