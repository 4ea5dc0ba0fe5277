/- The types of the seat. Printed by a program of mine. -/
import Derived.Test.YtallnifoeahpiaaX3
import Derived.Test.YtallnifoeahpiaaNA
namespace Go.Proofs.Ytallnifoeahpiaa
open Go Go.Sx
set_option linter.unusedVariables false

structure S_api_EdSheet where
 Name:ByteArray
 Weight:Int
 Most:Int
 deriving Inhabited
structure S_api_EdPoint where
 A:Int
 B:Int
 deriving Inhabited
structure S_api_EdEdge where
 A:Int
 B:Int
 Points:(List S_api_EdPoint)
 deriving Inhabited
structure S_api_EdCase where
 Tol:Int
 Sheets:(List S_api_EdSheet)
 Edges:(List S_api_EdEdge)
 deriving Inhabited
structure S_api_Span where
 Lo:Int
 Hi:Int
 deriving Inhabited
structure S_hachurelaw02qShown where
 Shifts:(List Int)
 Off:(List Int)
 High:(List Int)
 deriving Inhabited
structure S__2quint8 where
 e0:Int
 e1:Int
 deriving Inhabited
structure S__3quint8 where
 e0:Int
 e1:Int
 e2:Int
 deriving Inhabited
structure S_edge_step where
 from_:Int
 to_:Int
 most:Int
 edge:Int
 sign:Int
 deriving Inhabited
structure S_hachureref02qFound where
 Is:Bool
 Best:(List Int)
 Range:S_api_Span
 deriving Inhabited
theorem map_dd (ys:List Int):(ys.map di0).map V.d=ys.map vi:=by simp
def cel3 (x:Int):List D:=[(di x)]
theorem cel3_len (x:Int):(cel3 x).length=1:=rfl
abbrev L3 (x:List Int):D := .list false 1 x.length (x.flatMap cel3)
abbrev LT3 (x:List Int):D := .list true 1 x.length (x.flatMap cel3)
abbrev NL3 (x:List Int):D := .nl 1 x.length (x.flatMap cel3)
abbrev IX3 (x:List Int) (i:Int) (y:Int):Prop:=IdxOk (x.flatMap cel3) 1 x.length i (cel3 y)
def cel5 (x:Int):List D:=[(.v (.int .u8 x))]
theorem cel5_len (x:Int):(cel5 x).length=1:=rfl
abbrev L5 (x:List Int):D := .list false 1 x.length (x.flatMap cel5)
abbrev LT5 (x:List Int):D := .list true 1 x.length (x.flatMap cel5)
abbrev NL5 (x:List Int):D := .nl 1 x.length (x.flatMap cel5)
abbrev IX5 (x:List Int) (i:Int) (y:Int):Prop:=IdxOk (x.flatMap cel5) 1 x.length i (cel5 y)
def cel9 (x:ByteArray):List D:=[(.v (.string x))]
theorem cel9_len (x:ByteArray):(cel9 x).length=1:=rfl
abbrev L9 (x:List ByteArray):D := .list false 1 x.length (x.flatMap cel9)
abbrev LT9 (x:List ByteArray):D := .list true 1 x.length (x.flatMap cel9)
abbrev NL9 (x:List ByteArray):D := .nl 1 x.length (x.flatMap cel9)
abbrev IX9 (x:List ByteArray) (i:Int) (y:ByteArray):Prop:=IdxOk (x.flatMap cel9) 1 x.length i (cel9 y)
def cel26 (x:(List Int)):List D:=[(L3 x)]
theorem cel26_len (x:(List Int)):(cel26 x).length=1:=rfl
abbrev L26 (x:List (List Int)):D := .list false 1 x.length (x.flatMap cel26)
abbrev LT26 (x:List (List Int)):D := .list true 1 x.length (x.flatMap cel26)
abbrev NL26 (x:List (List Int)):D := .nl 1 x.length (x.flatMap cel26)
abbrev IX26 (x:List (List Int)) (i:Int) (y:(List Int)):Prop:=IdxOk (x.flatMap cel26) 1 x.length i (cel26 y)
def cel31 (x:S_api_Span):List D:=[(di x.Lo),(di x.Hi)]
theorem cel31_len (x:S_api_Span):(cel31 x).length=2:=rfl
abbrev L31 (x:List S_api_Span):D := .list false 2 x.length (x.flatMap cel31)
abbrev LT31 (x:List S_api_Span):D := .list true 2 x.length (x.flatMap cel31)
abbrev NL31 (x:List S_api_Span):D := .nl 2 x.length (x.flatMap cel31)
abbrev IX31 (x:List S_api_Span) (i:Int) (y:S_api_Span):Prop:=IdxOk (x.flatMap cel31) 2 x.length i (cel31 y)
def cel54 (x:Int):List D:=[(.v (.int .i16 x))]
theorem cel54_len (x:Int):(cel54 x).length=1:=rfl
abbrev L54 (x:List Int):D := .list false 1 x.length (x.flatMap cel54)
abbrev LT54 (x:List Int):D := .list true 1 x.length (x.flatMap cel54)
abbrev NL54 (x:List Int):D := .nl 1 x.length (x.flatMap cel54)
abbrev IX54 (x:List Int) (i:Int) (y:Int):Prop:=IdxOk (x.flatMap cel54) 1 x.length i (cel54 y)
def cel66 (x:S_api_EdSheet):List D:=[(.v (.string x.Name)),(di x.Weight),(di x.Most)]
theorem cel66_len (x:S_api_EdSheet):(cel66 x).length=3:=rfl
abbrev L66 (x:List S_api_EdSheet):D := .list false 3 x.length (x.flatMap cel66)
abbrev LT66 (x:List S_api_EdSheet):D := .list true 3 x.length (x.flatMap cel66)
abbrev NL66 (x:List S_api_EdSheet):D := .nl 3 x.length (x.flatMap cel66)
abbrev IX66 (x:List S_api_EdSheet) (i:Int) (y:S_api_EdSheet):Prop:=IdxOk (x.flatMap cel66) 3 x.length i (cel66 y)
def cel74 (x:S_api_EdPoint):List D:=[(di x.A),(di x.B)]
theorem cel74_len (x:S_api_EdPoint):(cel74 x).length=2:=rfl
abbrev L74 (x:List S_api_EdPoint):D := .list false 2 x.length (x.flatMap cel74)
abbrev LT74 (x:List S_api_EdPoint):D := .list true 2 x.length (x.flatMap cel74)
abbrev NL74 (x:List S_api_EdPoint):D := .nl 2 x.length (x.flatMap cel74)
abbrev IX74 (x:List S_api_EdPoint) (i:Int) (y:S_api_EdPoint):Prop:=IdxOk (x.flatMap cel74) 2 x.length i (cel74 y)
def cel71 (x:S_api_EdEdge):List D:=[(di x.A),(di x.B),(L74 x.Points)]
theorem cel71_len (x:S_api_EdEdge):(cel71 x).length=3:=rfl
abbrev L71 (x:List S_api_EdEdge):D := .list false 3 x.length (x.flatMap cel71)
abbrev LT71 (x:List S_api_EdEdge):D := .list true 3 x.length (x.flatMap cel71)
abbrev NL71 (x:List S_api_EdEdge):D := .nl 3 x.length (x.flatMap cel71)
abbrev IX71 (x:List S_api_EdEdge) (i:Int) (y:S_api_EdEdge):Prop:=IdxOk (x.flatMap cel71) 3 x.length i (cel71 y)
def cel78 (x:Int):List D:=[(.v (.int .u16 x))]
theorem cel78_len (x:Int):(cel78 x).length=1:=rfl
abbrev L78 (x:List Int):D := .list false 1 x.length (x.flatMap cel78)
abbrev LT78 (x:List Int):D := .list true 1 x.length (x.flatMap cel78)
abbrev NL78 (x:List Int):D := .nl 1 x.length (x.flatMap cel78)
abbrev IX78 (x:List Int) (i:Int) (y:Int):Prop:=IdxOk (x.flatMap cel78) 1 x.length i (cel78 y)
def cel126 (x:S_edge_step):List D:=[(di x.from_),(di x.to_),(di x.most),(di x.edge),(di x.sign)]
theorem cel126_len (x:S_edge_step):(cel126 x).length=5:=rfl
abbrev L126 (x:List S_edge_step):D := .list false 5 x.length (x.flatMap cel126)
abbrev LT126 (x:List S_edge_step):D := .list true 5 x.length (x.flatMap cel126)
abbrev NL126 (x:List S_edge_step):D := .nl 5 x.length (x.flatMap cel126)
abbrev IX126 (x:List S_edge_step) (i:Int) (y:S_edge_step):Prop:=IdxOk (x.flatMap cel126) 5 x.length i (cel126 y)
def dat3 (x:Int):D:=(di x)
def dat101 (x:(List Int)):D:=(.agg (x.map di0))
def mpo101x3 (m:List ((List Int)×Int)):List (D×D):=m.map fun q=>(dat101 q.1,dat3 q.2)
theorem arre101 {a b:List Int} (ha:a.length=5) (hb:b.length=5):eqD (.agg (a.map di0)) (.agg (b.map di0))=some (a==b):=by
 match a,ha,b,hb with
 | [a0,a1,a2,a3,a4],_,[b0,b1,b2,b3,b4],_=>simp [eqD,eqL,scal,IntKind.same]
def eqk101 (a b:List Int):Bool:=(a==b)
theorem eqk101_ok (a b:List Int) (ha:(a.length==5)=true) (hb:(b.length==5)=true):eqD (dat101 a) (dat101 b)=some (eqk101 a b):=arre101 (by simpa using ha) (by simpa using hb)

end Go.Proofs.Ytallnifoeahpiaa
