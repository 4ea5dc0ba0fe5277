/- The types of the seat. Printed by a program of mine. -/
import Derived.Test.YtpkhbbboedoldaaX3
namespace Go.Proofs.Ytpkhbbboedoldaa
open Go Go.Sx
set_option linter.unusedVariables false

structure S_api_Span where
  Lo : Int
  Hi : Int
  deriving Inhabited
structure S_api_ClPair where
  A : Int
  B : Int
  deriving Inhabited
structure S_api_ClMap where
  Borders : (List S_api_Span)
  Step : Int
  Heights : (List S_api_Span)
  Sides : (List S_api_ClPair)
  Inks : Int
  Like : (List S_api_ClPair)
  deriving Inhabited
structure S_hachurelaw09qPast where
  Legend : (List Int)
  Truth : (List Int)
  deriving Inhabited
structure S__3quint16 where
  e0 : Int
  e1 : Int
  e2 : Int
  deriving Inhabited
structure S__4quint8 where
  e0 : Int
  e1 : Int
  e2 : Int
  e3 : Int
  deriving Inhabited
structure S__2quint8 where
  e0 : Int
  e1 : Int
  deriving Inhabited
structure S_colour_chart where
  ClMap : S_api_ClMap
  legend : (List Int)
  bands : (List S_api_Span)
  vec : List Int
  deriving Inhabited
structure S_colour_state where
  at_ : Int
  border : Int
  deriving Inhabited
structure S_colour_rest where
  many : Int
  next : Int
  deriving Inhabited
structure S_hachureref09qRest where
  Is : Bool
  Legend : (List Int)
  Many : Int
  deriving Inhabited
theorem map_dd (ys : List Int) : (ys.map di0).map V.d = ys.map vi := by simp
def cel3 (x : Int) : List D := [(di x)]
theorem cel3_len (x : Int) : (cel3 x).length = 1 := rfl
abbrev L3 (x : List Int) : D := .list false 1 x.length (x.flatMap cel3)
abbrev LT3 (x : List Int) : D := .list true 1 x.length (x.flatMap cel3)
abbrev NL3 (x : List Int) : D := .nl 1 x.length (x.flatMap cel3)
abbrev IX3 (x : List Int) (i : Int) (y : Int) : Prop := IdxOk (x.flatMap cel3) 1 x.length i (cel3 y)
def cel51 (x : S_api_ClPair) : List D := [(di x.A), (di x.B)]
theorem cel51_len (x : S_api_ClPair) : (cel51 x).length = 2 := rfl
abbrev L51 (x : List S_api_ClPair) : D := .list false 2 x.length (x.flatMap cel51)
abbrev LT51 (x : List S_api_ClPair) : D := .list true 2 x.length (x.flatMap cel51)
abbrev NL51 (x : List S_api_ClPair) : D := .nl 2 x.length (x.flatMap cel51)
abbrev IX51 (x : List S_api_ClPair) (i : Int) (y : S_api_ClPair) : Prop := IdxOk (x.flatMap cel51) 2 x.length i (cel51 y)
def cel60 (x : S_api_Span) : List D := [(di x.Lo), (di x.Hi)]
theorem cel60_len (x : S_api_Span) : (cel60 x).length = 2 := rfl
abbrev L60 (x : List S_api_Span) : D := .list false 2 x.length (x.flatMap cel60)
abbrev LT60 (x : List S_api_Span) : D := .list true 2 x.length (x.flatMap cel60)
abbrev NL60 (x : List S_api_Span) : D := .nl 2 x.length (x.flatMap cel60)
abbrev IX60 (x : List S_api_Span) (i : Int) (y : S_api_Span) : Prop := IdxOk (x.flatMap cel60) 2 x.length i (cel60 y)
def cel65 (x : Int) : List D := [(.v (.int .u16 x))]
theorem cel65_len (x : Int) : (cel65 x).length = 1 := rfl
abbrev L65 (x : List Int) : D := .list false 1 x.length (x.flatMap cel65)
abbrev LT65 (x : List Int) : D := .list true 1 x.length (x.flatMap cel65)
abbrev NL65 (x : List Int) : D := .nl 1 x.length (x.flatMap cel65)
abbrev IX65 (x : List Int) (i : Int) (y : Int) : Prop := IdxOk (x.flatMap cel65) 1 x.length i (cel65 y)
def cel118 (x : S_hachureref09qRest) : List D := [(db x.Is), (L3 x.Legend), (di x.Many)]
theorem cel118_len (x : S_hachureref09qRest) : (cel118 x).length = 3 := rfl
abbrev L118 (x : List S_hachureref09qRest) : D := .list false 3 x.length (x.flatMap cel118)
abbrev LT118 (x : List S_hachureref09qRest) : D := .list true 3 x.length (x.flatMap cel118)
abbrev NL118 (x : List S_hachureref09qRest) : D := .nl 3 x.length (x.flatMap cel118)
abbrev IX118 (x : List S_hachureref09qRest) (i : Int) (y : S_hachureref09qRest) : Prop := IdxOk (x.flatMap cel118) 3 x.length i (cel118 y)
def opc89 (x : Option S_colour_chart) : List D :=
  match x with
  | none => []
  | some x => ([(L60 x.ClMap.Borders), (di x.ClMap.Step), (L60 x.ClMap.Heights), (L51 x.ClMap.Sides), (di x.ClMap.Inks), (L51 x.ClMap.Like), (L3 x.legend), (L60 x.bands)] ++ x.vec.map di0)
abbrev OP89 (x : Option S_colour_chart) : D := .optr x.isSome (opc89 x)
def dat112 (x : S_colour_state) : D := (.agg [(di x.at_), (di x.border)])
def dat114 (x : S_colour_rest) : D := (.agg [(di x.many), (di x.next)])
def mpo112x114 (m : List (S_colour_state × S_colour_rest)) : List (D × D) := m.map fun q => (dat112 q.1, dat114 q.2)
def eqk112 (a b : S_colour_state) : Bool := ((a.at_ == b.at_) && (a.border == b.border))
theorem eqk112_ok (a b : S_colour_state) : eqD (dat112 a) (dat112 b) = some (eqk112 a b) := rfl

end Go.Proofs.Ytpkhbbboedoldaa
