/- The types of the seat. Printed by a program of mine. -/
import Derived.Test.YtkcgfceihpampaaGreatDoorX3
import Derived.Test.YtkcgfceihpampaaGreatDoorNA
namespace Go.Proofs.YtkcgfceihpampaaGreatDoor
open Go Go.Sx
set_option linter.unusedVariables false

structure S_api_Span where
 Lo:Int
 Hi:Int
 deriving Inhabited
structure S_api_ShNote where
 Kind:Int
 A:Int
 B:Int
 By:S_api_Span
 deriving Inhabited
structure S_api_ShSheet where
 Interval:Int
 Points:(List ByteArray)
 Notes:(List S_api_ShNote)
 deriving Inhabited
structure S_api_ClPair where
 A:Int
 B:Int
 deriving Inhabited
structure S_api_ClMap where
 Borders:(List S_api_Span)
 Step:Int
 Heights:(List S_api_Span)
 Sides:(List S_api_ClPair)
 Inks:Int
 Like:(List S_api_ClPair)
 deriving Inhabited
structure S_hachuretop_Painted where
 Heights:(List Int)
 Off:(List Int)
 Legend:(List Int)
 deriving Inhabited
structure S_sheet_sheet where
 ShSheet:S_api_ShSheet
 deriving Inhabited
structure S_colour_state where
 at_:Int
 border:Int
 deriving Inhabited
structure S_colour_rest where
 many:Int
 next:Int
 deriving Inhabited
structure S_colour_chart where
 ClMap:S_api_ClMap
 legend:(List Int)
 bands:(List S_api_Span)
 vec:List Int
 deriving Inhabited
theorem map_dd (ys:List Int):(ys.map di0).map V.d=ys.map vi:=by simp
theorem map_ddP (p:List D) (ys:List Int):(p++ys.map di0).map V.d=p.map V.d++ys.map vi:=by simp
def cel3 (x:Int):List D:=[(di x)]
theorem cel3_len (x:Int):(cel3 x).length=1:=rfl
abbrev L3 (x:List Int):D := .list false 1 x.length (x.flatMap cel3)
abbrev LT3 (x:List Int):D := .list true 1 x.length (x.flatMap cel3)
abbrev NL3 (x:List Int):D := .nl 1 x.length (x.flatMap cel3)
abbrev IX3 (x:List Int) (i:Int) (y:Int):Prop:=IdxOk (x.flatMap cel3) 1 x.length i (cel3 y)
def cel9 (x:ByteArray):List D:=[(.v (.string x))]
theorem cel9_len (x:ByteArray):(cel9 x).length=1:=rfl
abbrev L9 (x:List ByteArray):D := .list false 1 x.length (x.flatMap cel9)
abbrev LT9 (x:List ByteArray):D := .list true 1 x.length (x.flatMap cel9)
abbrev NL9 (x:List ByteArray):D := .nl 1 x.length (x.flatMap cel9)
abbrev IX9 (x:List ByteArray) (i:Int) (y:ByteArray):Prop:=IdxOk (x.flatMap cel9) 1 x.length i (cel9 y)
def cel66 (x:S_api_Span):List D:=[(di x.Lo),(di x.Hi)]
theorem cel66_len (x:S_api_Span):(cel66 x).length=2:=rfl
abbrev L66 (x:List S_api_Span):D := .list false 2 x.length (x.flatMap cel66)
abbrev LT66 (x:List S_api_Span):D := .list true 2 x.length (x.flatMap cel66)
abbrev NL66 (x:List S_api_Span):D := .nl 2 x.length (x.flatMap cel66)
abbrev IX66 (x:List S_api_Span) (i:Int) (y:S_api_Span):Prop:=IdxOk (x.flatMap cel66) 2 x.length i (cel66 y)
def cel70 (x:S_api_ClPair):List D:=[(di x.A),(di x.B)]
theorem cel70_len (x:S_api_ClPair):(cel70 x).length=2:=rfl
abbrev L70 (x:List S_api_ClPair):D := .list false 2 x.length (x.flatMap cel70)
abbrev LT70 (x:List S_api_ClPair):D := .list true 2 x.length (x.flatMap cel70)
abbrev NL70 (x:List S_api_ClPair):D := .nl 2 x.length (x.flatMap cel70)
abbrev IX70 (x:List S_api_ClPair) (i:Int) (y:S_api_ClPair):Prop:=IdxOk (x.flatMap cel70) 2 x.length i (cel70 y)
def cel121 (x:S_api_ShNote):List D:=[(di x.Kind),(di x.A),(di x.B),(di x.By.Lo),(di x.By.Hi)]
theorem cel121_len (x:S_api_ShNote):(cel121 x).length=5:=rfl
abbrev L121 (x:List S_api_ShNote):D := .list false 5 x.length (x.flatMap cel121)
abbrev LT121 (x:List S_api_ShNote):D := .list true 5 x.length (x.flatMap cel121)
abbrev NL121 (x:List S_api_ShNote):D := .nl 5 x.length (x.flatMap cel121)
abbrev IX121 (x:List S_api_ShNote) (i:Int) (y:S_api_ShNote):Prop:=IdxOk (x.flatMap cel121) 5 x.length i (cel121 y)
def cel181 (x:Int):List D:=[(.v (.int .u16 x))]
theorem cel181_len (x:Int):(cel181 x).length=1:=rfl
abbrev L181 (x:List Int):D := .list false 1 x.length (x.flatMap cel181)
abbrev LT181 (x:List Int):D := .list true 1 x.length (x.flatMap cel181)
abbrev NL181 (x:List Int):D := .nl 1 x.length (x.flatMap cel181)
abbrev IX181 (x:List Int) (i:Int) (y:Int):Prop:=IdxOk (x.flatMap cel181) 1 x.length i (cel181 y)
def opc159 (x:Option S_colour_chart):List D :=
 match x with
 | none=>[]
 | some x=>([(L66 x.ClMap.Borders),(di x.ClMap.Step),(L66 x.ClMap.Heights),(L70 x.ClMap.Sides),(di x.ClMap.Inks),(L70 x.ClMap.Like),(L3 x.legend),(L66 x.bands)]++x.vec.map di0)
abbrev OP159 (x:Option S_colour_chart):D := .optr x.isSome (opc159 x)
def dat3 (x:Int):D:=(di x)
def dat9 (x:ByteArray):D:=(.v (.string x))
def dat154 (x:S_colour_state):D:=(.agg [(di x.at_),(di x.border)])
def dat156 (x:S_colour_rest):D:=(.agg [(di x.many),(di x.next)])
def mpo9x3 (m:List (ByteArray×Int)):List (D×D):=m.map fun q=>(dat9 q.1,dat3 q.2)
def mpo154x156 (m:List (S_colour_state×S_colour_rest)):List (D×D):=m.map fun q=>(dat154 q.1,dat156 q.2)
theorem arre124 {a b:List Int} (ha:a.length=81) (hb:b.length=81):eqD (.agg (a.map di0)) (.agg (b.map di0))=some (a==b):=eqD_vec ha hb
def eqk9 (a b:ByteArray):Bool:=(a==b)
theorem eqk9_ok (a b:ByteArray):eqD (dat9 a) (dat9 b)=some (eqk9 a b):=rfl
def eqk154 (a b:S_colour_state):Bool:=((a.at_==b.at_)&&(a.border==b.border))
theorem eqk154_ok (a b:S_colour_state):eqD (dat154 a) (dat154 b)=some (eqk154 a b):=rfl

end Go.Proofs.YtkcgfceihpampaaGreatDoor
