/- What sheet.Name answers of any string. -/
import Derived.Test.YtkcgfceihpampaaGreatDoorProg
import Derived.Lib.Join
import Derived.Lib.Atoi
import Derived.Lib.Split
import Derived.Lib.CountLaws
import Derived.Lib.Strings
import Derived.Lib.Bytealg
import Derived.Lib.SlicesS
namespace Go.Proofs.YtkcgfceihpampaaGreatDoor
open Go
def okRune (pos c : Nat) : Bool := (decide (97 ≤ c) && decide (c ≤ 122)) || (decide (0 < pos) && ((decide (48 ≤ c) && decide (c ≤ 57)) || decide (c = 45)))
def nameF (s : ByteArray) : Nat → Nat → Bool
  | 0, _ => true
  | f + 1, pos => if pos < s.size then (if okRune pos (Utf8.decode s pos).1 then nameF s f (pos + (Utf8.decode s pos).2) else false) else true
def nameB (s : ByteArray) : Bool := nameF s s.size 0 && (decide (0 < s.size) && decide (s.size ≤ 16))
def F50 (s : ByteArray) : Option Bool := some (nameB s)
/-- How many points a note is of, by the number of its type. -/
def aboutF : Option Nat → Option Int
  | some 287 => some 1
  | some 288 => some 1
  | some 289 => some 2
  | some 290 => some 2
  | _ => none
/-- Decimal digits, so many at most. -/
def digF : Nat → Nat → List UInt8
  | 0, _ => []
  | f + 1, u => if u < 10 then [UInt8.ofNat (48 + u)] else digF f (u / 10) ++ [UInt8.ofNat (48 + u % 10)]
def itoaF (n : Int) : List UInt8 := if n < 0 then 45 :: digF 20 n.natAbs else digF 20 n.toNat
def F177 (n : Int) : Option ByteArray := if -9223372036854775808 ≤ n ∧ n ≤ 9223372036854775807 then some ⟨(itoaF n).toArray⟩ else none
def F176 (xs : List ByteArray) (sep : ByteArray) : Option ByteArray := if xs.length ≤ 1000 ∧ (Lib.join (xs.map (·.data.toList)) sep.data.toList).length ≤ 1000000 then some ⟨(Lib.join (xs.map (·.data.toList)) sep.data.toList).toArray⟩ else none
def F212 (s : ByteArray) : Option Int := if s.size ≤ 18 then Lib.atoi s.data.toList else none
def F120 (s sep : ByteArray) : Option (List ByteArray) := if s.size < 4294967281 ∧ 1 ≤ sep.size ∧ (Lib.splitB sep 0 (Lib.countB s sep) s).length = Lib.countB s sep + 1 then some (Lib.splitB sep 0 (Lib.countB s sep) s) else none
def F121 (s p : ByteArray) : Option ByteArray := if s.size ≤ 9223372036854775807 then some ⟨(Lib.trimSuffix s.data.toList p.data.toList).toArray⟩ else none
def F181 (s : ByteArray) (c : Int) : Option Int := some (Lib.indexByte s.data.toList c.toNat.toUInt8)
def F183 (xs : List ByteArray) (x : ByteArray) : Option Int := if xs.length ≤ 9223372036854775807 then some (Lib.idxOfS xs x) else none
def F110 (xs : List Int) : Option (List Int) := if 0 < xs.length ∧ xs.length * 8 ≤ 140737488355328 then some xs else none
/-- A string's bytes. -/
abbrev bytesL (s : ByteArray) : List UInt8 := s.data.toList
def F179 (l : List UInt8) : Option ByteArray := if l = [] then none else some ⟨l.toArray⟩
def F175 (s : ByteArray) : Option (List UInt8) := if 0 < s.size ∧ s.size ≤ 1000000 then some (bytesL s) else none
def F175v1 (s : ByteArray) (l : List UInt8) : Option (List UInt8) := if l.length + s.size ≤ 1000000 then some (l ++ bytesL s) else none
end Go.Proofs.YtkcgfceihpampaaGreatDoor
