/- The types of the seat. Printed by a program of mine. -/
import Derived.Test.YtkcgfceihpampaaGreatDoorX3
import Derived.Test.YtkcgfceihpampaaGreatDoorNA
namespace Go.Proofs.YtkcgfceihpampaaGreatDoor
open Go Go.Sx
set_option linter.unusedVariables false

structure S_api_Span where
 Lo:Int
 Hi:Int
 deriving Inhabited
structure S_api_ShNote where
 Kind:Int
 A:Int
 B:Int
 By:S_api_Span
 deriving Inhabited
structure S_api_ShSheet where
 Interval:Int
 Points:(List ByteArray)
 Notes:(List S_api_ShNote)
 deriving Inhabited
structure S_api_EdSheet where
 Name:ByteArray
 Weight:Int
 Most:Int
 deriving Inhabited
structure S_api_EdPoint where
 A:Int
 B:Int
 deriving Inhabited
structure S_api_EdEdge where
 A:Int
 B:Int
 Points:(List S_api_EdPoint)
 deriving Inhabited
structure S_api_EdCase where
 Tol:Int
 Sheets:(List S_api_EdSheet)
 Edges:(List S_api_EdEdge)
 deriving Inhabited
structure S_hachurelaw02qShown where
 Shifts:(List Int)
 Off:(List Int)
 High:(List Int)
 deriving Inhabited
structure S_sheet_sheet where
 ShSheet:S_api_ShSheet
 deriving Inhabited
structure S_edge_step where
 from_:Int
 to_:Int
 most:Int
 edge:Int
 sign:Int
 deriving Inhabited
theorem map_dd (ys:List Int):(ys.map di0).map V.d=ys.map vi:=by simp
theorem map_ddP (p:List D) (ys:List Int):(p++ys.map di0).map V.d=p.map V.d++ys.map vi:=by simp
def cel3 (x:Int):List D:=[(di x)]
theorem cel3_len (x:Int):(cel3 x).length=1:=rfl
abbrev L3 (x:List Int):D := .list false 1 x.length (x.flatMap cel3)
abbrev LT3 (x:List Int):D := .list true 1 x.length (x.flatMap cel3)
abbrev NL3 (x:List Int):D := .nl 1 x.length (x.flatMap cel3)
abbrev IX3 (x:List Int) (i:Int) (y:Int):Prop:=IdxOk (x.flatMap cel3) 1 x.length i (cel3 y)
def cel5 (x:Int):List D:=[(.v (.int .u8 x))]
theorem cel5_len (x:Int):(cel5 x).length=1:=rfl
abbrev L5 (x:List Int):D := .list false 1 x.length (x.flatMap cel5)
abbrev LT5 (x:List Int):D := .list true 1 x.length (x.flatMap cel5)
abbrev NL5 (x:List Int):D := .nl 1 x.length (x.flatMap cel5)
abbrev IX5 (x:List Int) (i:Int) (y:Int):Prop:=IdxOk (x.flatMap cel5) 1 x.length i (cel5 y)
def cel9 (x:ByteArray):List D:=[(.v (.string x))]
theorem cel9_len (x:ByteArray):(cel9 x).length=1:=rfl
abbrev L9 (x:List ByteArray):D := .list false 1 x.length (x.flatMap cel9)
abbrev LT9 (x:List ByteArray):D := .list true 1 x.length (x.flatMap cel9)
abbrev NL9 (x:List ByteArray):D := .nl 1 x.length (x.flatMap cel9)
abbrev IX9 (x:List ByteArray) (i:Int) (y:ByteArray):Prop:=IdxOk (x.flatMap cel9) 1 x.length i (cel9 y)
def cel66 (x:S_api_Span):List D:=[(di x.Lo),(di x.Hi)]
theorem cel66_len (x:S_api_Span):(cel66 x).length=2:=rfl
abbrev L66 (x:List S_api_Span):D := .list false 2 x.length (x.flatMap cel66)
abbrev LT66 (x:List S_api_Span):D := .list true 2 x.length (x.flatMap cel66)
abbrev NL66 (x:List S_api_Span):D := .nl 2 x.length (x.flatMap cel66)
abbrev IX66 (x:List S_api_Span) (i:Int) (y:S_api_Span):Prop:=IdxOk (x.flatMap cel66) 2 x.length i (cel66 y)
def cel82 (x:S_api_EdSheet):List D:=[(.v (.string x.Name)),(di x.Weight),(di x.Most)]
theorem cel82_len (x:S_api_EdSheet):(cel82 x).length=3:=rfl
abbrev L82 (x:List S_api_EdSheet):D := .list false 3 x.length (x.flatMap cel82)
abbrev LT82 (x:List S_api_EdSheet):D := .list true 3 x.length (x.flatMap cel82)
abbrev NL82 (x:List S_api_EdSheet):D := .nl 3 x.length (x.flatMap cel82)
abbrev IX82 (x:List S_api_EdSheet) (i:Int) (y:S_api_EdSheet):Prop:=IdxOk (x.flatMap cel82) 3 x.length i (cel82 y)
def cel121 (x:S_api_ShNote):List D:=[(di x.Kind),(di x.A),(di x.B),(di x.By.Lo),(di x.By.Hi)]
theorem cel121_len (x:S_api_ShNote):(cel121 x).length=5:=rfl
abbrev L121 (x:List S_api_ShNote):D := .list false 5 x.length (x.flatMap cel121)
abbrev LT121 (x:List S_api_ShNote):D := .list true 5 x.length (x.flatMap cel121)
abbrev NL121 (x:List S_api_ShNote):D := .nl 5 x.length (x.flatMap cel121)
abbrev IX121 (x:List S_api_ShNote) (i:Int) (y:S_api_ShNote):Prop:=IdxOk (x.flatMap cel121) 5 x.length i (cel121 y)
def cel183 (x:S_api_EdPoint):List D:=[(di x.A),(di x.B)]
theorem cel183_len (x:S_api_EdPoint):(cel183 x).length=2:=rfl
abbrev L183 (x:List S_api_EdPoint):D := .list false 2 x.length (x.flatMap cel183)
abbrev LT183 (x:List S_api_EdPoint):D := .list true 2 x.length (x.flatMap cel183)
abbrev NL183 (x:List S_api_EdPoint):D := .nl 2 x.length (x.flatMap cel183)
abbrev IX183 (x:List S_api_EdPoint) (i:Int) (y:S_api_EdPoint):Prop:=IdxOk (x.flatMap cel183) 2 x.length i (cel183 y)
def cel174 (x:S_api_EdEdge):List D:=[(di x.A),(di x.B),(L183 x.Points)]
theorem cel174_len (x:S_api_EdEdge):(cel174 x).length=3:=rfl
abbrev L174 (x:List S_api_EdEdge):D := .list false 3 x.length (x.flatMap cel174)
abbrev LT174 (x:List S_api_EdEdge):D := .list true 3 x.length (x.flatMap cel174)
abbrev NL174 (x:List S_api_EdEdge):D := .nl 3 x.length (x.flatMap cel174)
abbrev IX174 (x:List S_api_EdEdge) (i:Int) (y:S_api_EdEdge):Prop:=IdxOk (x.flatMap cel174) 3 x.length i (cel174 y)
def cel181 (x:Int):List D:=[(.v (.int .u16 x))]
theorem cel181_len (x:Int):(cel181 x).length=1:=rfl
abbrev L181 (x:List Int):D := .list false 1 x.length (x.flatMap cel181)
abbrev LT181 (x:List Int):D := .list true 1 x.length (x.flatMap cel181)
abbrev NL181 (x:List Int):D := .nl 1 x.length (x.flatMap cel181)
abbrev IX181 (x:List Int) (i:Int) (y:Int):Prop:=IdxOk (x.flatMap cel181) 1 x.length i (cel181 y)
def cel261 (x:S_edge_step):List D:=[(di x.from_),(di x.to_),(di x.most),(di x.edge),(di x.sign)]
theorem cel261_len (x:S_edge_step):(cel261 x).length=5:=rfl
abbrev L261 (x:List S_edge_step):D := .list false 5 x.length (x.flatMap cel261)
abbrev LT261 (x:List S_edge_step):D := .list true 5 x.length (x.flatMap cel261)
abbrev NL261 (x:List S_edge_step):D := .nl 5 x.length (x.flatMap cel261)
abbrev IX261 (x:List S_edge_step) (i:Int) (y:S_edge_step):Prop:=IdxOk (x.flatMap cel261) 5 x.length i (cel261 y)
def dat3 (x:Int):D:=(di x)
def dat9 (x:ByteArray):D:=(.v (.string x))
def dat188 (x:(List Int)):D:=(.agg (x.map di0))
def mpo9x3 (m:List (ByteArray×Int)):List (D×D):=m.map fun q=>(dat9 q.1,dat3 q.2)
def mpo188x3 (m:List ((List Int)×Int)):List (D×D):=m.map fun q=>(dat188 q.1,dat3 q.2)
theorem arre124 {a b:List Int} (ha:a.length=81) (hb:b.length=81):eqD (.agg (a.map di0)) (.agg (b.map di0))=some (a==b):=eqD_vec ha hb
theorem arre188 {a b:List Int} (ha:a.length=5) (hb:b.length=5):eqD (.agg (a.map di0)) (.agg (b.map di0))=some (a==b):=eqD_vec ha hb
def eqk9 (a b:ByteArray):Bool:=(a==b)
theorem eqk9_ok (a b:ByteArray):eqD (dat9 a) (dat9 b)=some (eqk9 a b):=rfl
def eqk188 (a b:List Int):Bool:=(a==b)
theorem eqk188_ok (a b:List Int) (ha:(a.length==5)=true) (hb:(b.length==5)=true):eqD (dat188 a) (dat188 b)=some (eqk188 a b):=arre188 (by simpa using ha) (by simpa using hb)

end Go.Proofs.YtkcgfceihpampaaGreatDoor
