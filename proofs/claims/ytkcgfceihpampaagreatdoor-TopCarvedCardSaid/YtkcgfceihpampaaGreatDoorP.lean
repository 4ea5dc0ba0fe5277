/- The types of the seat. Printed by a program of mine. -/
import Derived.Test.YtkcgfceihpampaaGreatDoorX3
import Derived.Test.YtkcgfceihpampaaGreatDoorNA
namespace Go.Proofs.YtkcgfceihpampaaGreatDoor
open Go Go.Sx
set_option linter.unusedVariables false

structure S_api_CvPoint where
 Board:Int
 Lo:Int
 Hi:Int
 deriving Inhabited
structure S_api_CvRow where
 Steep:Int
 Points:(List S_api_CvPoint)
 deriving Inhabited
structure S_api_Span where
 Lo:Int
 Hi:Int
 deriving Inhabited
structure S_api_ShNote where
 Kind:Int
 A:Int
 B:Int
 By:S_api_Span
 deriving Inhabited
structure S_api_ShSheet where
 Interval:Int
 Points:(List ByteArray)
 Notes:(List S_api_ShNote)
 deriving Inhabited
structure S_api_CvPass where
 From:Int
 To:Int
 deriving Inhabited
structure S_carve_row where
 CvRow:S_api_CvRow
 deriving Inhabited
structure S_sheet_sheet where
 ShSheet:S_api_ShSheet
 deriving Inhabited
structure S_carve_state where
 at_:Int
 high:Int
 deriving Inhabited
structure S_carve_needs where
 e0:Int
 e1:Int
 deriving Inhabited
structure S_carve_rest where
 needs:S_carve_needs
 next:Int
 deriving Inhabited
theorem map_dd (ys:List Int):(ys.map di0).map V.d=ys.map vi:=by simp
theorem map_ddP (p:List D) (ys:List Int):(p++ys.map di0).map V.d=p.map V.d++ys.map vi:=by simp
def cel3 (x:Int):List D:=[(di x)]
theorem cel3_len (x:Int):(cel3 x).length=1:=rfl
abbrev L3 (x:List Int):D := .list false 1 x.length (x.flatMap cel3)
abbrev LT3 (x:List Int):D := .list true 1 x.length (x.flatMap cel3)
abbrev NL3 (x:List Int):D := .nl 1 x.length (x.flatMap cel3)
abbrev IX3 (x:List Int) (i:Int) (y:Int):Prop:=IdxOk (x.flatMap cel3) 1 x.length i (cel3 y)
def cel9 (x:ByteArray):List D:=[(.v (.string x))]
theorem cel9_len (x:ByteArray):(cel9 x).length=1:=rfl
abbrev L9 (x:List ByteArray):D := .list false 1 x.length (x.flatMap cel9)
abbrev LT9 (x:List ByteArray):D := .list true 1 x.length (x.flatMap cel9)
abbrev NL9 (x:List ByteArray):D := .nl 1 x.length (x.flatMap cel9)
abbrev IX9 (x:List ByteArray) (i:Int) (y:ByteArray):Prop:=IdxOk (x.flatMap cel9) 1 x.length i (cel9 y)
def cel66 (x:S_api_Span):List D:=[(di x.Lo),(di x.Hi)]
theorem cel66_len (x:S_api_Span):(cel66 x).length=2:=rfl
abbrev L66 (x:List S_api_Span):D := .list false 2 x.length (x.flatMap cel66)
abbrev LT66 (x:List S_api_Span):D := .list true 2 x.length (x.flatMap cel66)
abbrev NL66 (x:List S_api_Span):D := .nl 2 x.length (x.flatMap cel66)
abbrev IX66 (x:List S_api_Span) (i:Int) (y:S_api_Span):Prop:=IdxOk (x.flatMap cel66) 2 x.length i (cel66 y)
def cel91 (x:S_api_CvPoint):List D:=[(di x.Board),(di x.Lo),(di x.Hi)]
theorem cel91_len (x:S_api_CvPoint):(cel91 x).length=3:=rfl
abbrev L91 (x:List S_api_CvPoint):D := .list false 3 x.length (x.flatMap cel91)
abbrev LT91 (x:List S_api_CvPoint):D := .list true 3 x.length (x.flatMap cel91)
abbrev NL91 (x:List S_api_CvPoint):D := .nl 3 x.length (x.flatMap cel91)
abbrev IX91 (x:List S_api_CvPoint) (i:Int) (y:S_api_CvPoint):Prop:=IdxOk (x.flatMap cel91) 3 x.length i (cel91 y)
def cel114 (x:S_api_CvPass):List D:=[(di x.From),(di x.To)]
theorem cel114_len (x:S_api_CvPass):(cel114 x).length=2:=rfl
abbrev L114 (x:List S_api_CvPass):D := .list false 2 x.length (x.flatMap cel114)
abbrev LT114 (x:List S_api_CvPass):D := .list true 2 x.length (x.flatMap cel114)
abbrev NL114 (x:List S_api_CvPass):D := .nl 2 x.length (x.flatMap cel114)
abbrev IX114 (x:List S_api_CvPass) (i:Int) (y:S_api_CvPass):Prop:=IdxOk (x.flatMap cel114) 2 x.length i (cel114 y)
def cel121 (x:S_api_ShNote):List D:=[(di x.Kind),(di x.A),(di x.B),(di x.By.Lo),(di x.By.Hi)]
theorem cel121_len (x:S_api_ShNote):(cel121 x).length=5:=rfl
abbrev L121 (x:List S_api_ShNote):D := .list false 5 x.length (x.flatMap cel121)
abbrev LT121 (x:List S_api_ShNote):D := .list true 5 x.length (x.flatMap cel121)
abbrev NL121 (x:List S_api_ShNote):D := .nl 5 x.length (x.flatMap cel121)
abbrev IX121 (x:List S_api_ShNote) (i:Int) (y:S_api_ShNote):Prop:=IdxOk (x.flatMap cel121) 5 x.length i (cel121 y)
def dat3 (x:Int):D:=(di x)
def dat9 (x:ByteArray):D:=(.v (.string x))
def dat212 (x:S_carve_state):D:=(.agg [(di x.at_),(di x.high)])
def dat216 (x:S_carve_rest):D:=(.agg [(di x.needs.e0),(di x.needs.e1),(di x.next)])
def mpo9x3 (m:List (ByteArray×Int)):List (D×D):=m.map fun q=>(dat9 q.1,dat3 q.2)
def mpo212x216 (m:List (S_carve_state×S_carve_rest)):List (D×D):=m.map fun q=>(dat212 q.1,dat216 q.2)
theorem arre124 {a b:List Int} (ha:a.length=81) (hb:b.length=81):eqD (.agg (a.map di0)) (.agg (b.map di0))=some (a==b):=eqD_vec ha hb
def eqk9 (a b:ByteArray):Bool:=(a==b)
theorem eqk9_ok (a b:ByteArray):eqD (dat9 a) (dat9 b)=some (eqk9 a b):=rfl
def eqk212 (a b:S_carve_state):Bool:=((a.at_==b.at_)&&(a.high==b.high))
theorem eqk212_ok (a b:S_carve_state):eqD (dat212 a) (dat212 b)=some (eqk212 a b):=rfl

end Go.Proofs.YtkcgfceihpampaaGreatDoor
