/- The types of the seat. Printed by a program of mine. -/
import Derived.Test.YtadejgckgnbaoaaX3
namespace Go.Proofs.Ytadejgckgnbaoaa
open Go Go.Sx
set_option linter.unusedVariables false

structure S_api_CvPoint where
  Board : Int
  Lo : Int
  Hi : Int
  deriving Inhabited
structure S_api_CvRow where
  Steep : Int
  Points : (List S_api_CvPoint)
  deriving Inhabited
structure S_api_Span where
  Lo : Int
  Hi : Int
  deriving Inhabited
structure S_api_CvPass where
  From : Int
  To : Int
  deriving Inhabited
structure S__2quint8 where
  e0 : Int
  e1 : Int
  deriving Inhabited
structure S__3quint8 where
  e0 : Int
  e1 : Int
  e2 : Int
  deriving Inhabited
structure S_carve_row where
  CvRow : S_api_CvRow
  deriving Inhabited
structure S_carve_state where
  at_ : Int
  high : Int
  deriving Inhabited
structure S_carve_needs where
  e0 : Int
  e1 : Int
  deriving Inhabited
structure S_carve_rest where
  needs : S_carve_needs
  next : Int
  deriving Inhabited
structure S_hachureref04qRest where
  Is : Bool
  Surface : (List Int)
  Plaster : Int
  Many : Int
  deriving Inhabited
def cel3 (x : Int) : List D := [(di x)]
theorem cel3_len (x : Int) : (cel3 x).length = 1 := rfl
abbrev L3 (x : List Int) : D := .list false 1 x.length (x.flatMap cel3)
abbrev LT3 (x : List Int) : D := .list true 1 x.length (x.flatMap cel3)
abbrev IX3 (x : List Int) (i : Int) (y : Int) : Prop := IdxOk (x.flatMap cel3) 1 x.length i (cel3 y)
def cel5 (x : Int) : List D := [(.v (.int .u8 x))]
theorem cel5_len (x : Int) : (cel5 x).length = 1 := rfl
abbrev L5 (x : List Int) : D := .list false 1 x.length (x.flatMap cel5)
abbrev LT5 (x : List Int) : D := .list true 1 x.length (x.flatMap cel5)
abbrev IX5 (x : List Int) (i : Int) (y : Int) : Prop := IdxOk (x.flatMap cel5) 1 x.length i (cel5 y)
def cel56 (x : S_api_Span) : List D := [(di x.Lo), (di x.Hi)]
theorem cel56_len (x : S_api_Span) : (cel56 x).length = 2 := rfl
abbrev L56 (x : List S_api_Span) : D := .list false 2 x.length (x.flatMap cel56)
abbrev LT56 (x : List S_api_Span) : D := .list true 2 x.length (x.flatMap cel56)
abbrev IX56 (x : List S_api_Span) (i : Int) (y : S_api_Span) : Prop := IdxOk (x.flatMap cel56) 2 x.length i (cel56 y)
def cel58 (x : S_api_CvPoint) : List D := [(di x.Board), (di x.Lo), (di x.Hi)]
theorem cel58_len (x : S_api_CvPoint) : (cel58 x).length = 3 := rfl
abbrev L58 (x : List S_api_CvPoint) : D := .list false 3 x.length (x.flatMap cel58)
abbrev LT58 (x : List S_api_CvPoint) : D := .list true 3 x.length (x.flatMap cel58)
abbrev IX58 (x : List S_api_CvPoint) (i : Int) (y : S_api_CvPoint) : Prop := IdxOk (x.flatMap cel58) 3 x.length i (cel58 y)
def cel84 (x : S_api_CvPass) : List D := [(di x.From), (di x.To)]
theorem cel84_len (x : S_api_CvPass) : (cel84 x).length = 2 := rfl
abbrev L84 (x : List S_api_CvPass) : D := .list false 2 x.length (x.flatMap cel84)
abbrev LT84 (x : List S_api_CvPass) : D := .list true 2 x.length (x.flatMap cel84)
abbrev IX84 (x : List S_api_CvPass) (i : Int) (y : S_api_CvPass) : Prop := IdxOk (x.flatMap cel84) 2 x.length i (cel84 y)
def cel107 (x : S_hachureref04qRest) : List D := [(db x.Is), (L3 x.Surface), (di x.Plaster), (di x.Many)]
theorem cel107_len (x : S_hachureref04qRest) : (cel107 x).length = 4 := rfl
abbrev L107 (x : List S_hachureref04qRest) : D := .list false 4 x.length (x.flatMap cel107)
abbrev LT107 (x : List S_hachureref04qRest) : D := .list true 4 x.length (x.flatMap cel107)
abbrev IX107 (x : List S_hachureref04qRest) (i : Int) (y : S_hachureref04qRest) : Prop := IdxOk (x.flatMap cel107) 4 x.length i (cel107 y)
def dat95 (x : S_carve_state) : D := (.agg [(di x.at_), (di x.high)])
def dat99 (x : S_carve_rest) : D := (.agg [(di x.needs.e0), (di x.needs.e1), (di x.next)])
def mpo95x99 (m : List (S_carve_state × S_carve_rest)) : List (D × D) := m.map fun q => (dat95 q.1, dat99 q.2)
def eqk95 (a b : S_carve_state) : Bool := ((a.at_ == b.at_) && (a.high == b.high))
theorem eqk95_ok (a b : S_carve_state) : eqD (dat95 a) (dat95 b) = some (eqk95 a b) := rfl

end Go.Proofs.Ytadejgckgnbaoaa
