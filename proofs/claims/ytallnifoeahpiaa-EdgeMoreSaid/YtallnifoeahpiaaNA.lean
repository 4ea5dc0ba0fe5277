/- What sheet.Name answers of any string. -/
import Derived.Test.YtallnifoeahpiaaProg
namespace Go.Proofs.Ytallnifoeahpiaa
open Go
def okRune (pos c : Nat) : Bool := (decide (97 ≤ c) && decide (c ≤ 122)) || (decide (0 < pos) && ((decide (48 ≤ c) && decide (c ≤ 57)) || decide (c = 45)))
def nameF (s : ByteArray) : Nat → Nat → Bool
  | 0, _ => true
  | f + 1, pos => if pos < s.size then (if okRune pos (Utf8.decode s pos).1 then nameF s f (pos + (Utf8.decode s pos).2) else false) else true
def nameB (s : ByteArray) : Bool := nameF s s.size 0 && (decide (0 < s.size) && decide (s.size ≤ 16))
def F49 (s : ByteArray) : Option Bool := some (nameB s)
end Go.Proofs.Ytallnifoeahpiaa
