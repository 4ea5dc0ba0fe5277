/- The law EdgeRanges. -/
import Derived.Test.YtallnifoeahpiaaP3
import Derived.Test.YtallnifoeahpiaaPK
import Derived.Test.YtallnifoeahpiaaDLB
namespace Go.Proofs.Ytallnifoeahpiaa
open Go Go.Sx
set_option linter.all false
theorem law4 (c:Cs) (i:Int) (hl:c.Sheets.length≤9223372036854775807):F4 1000 c i=some true:=by
 obtain ⟨r,h1,h2⟩:=e25 (k:=1000) (by omega) c i hl
 obtain ⟨q,g1,g2⟩:=e26 (k:=1000) (by omega) c i hl
 obtain ⟨s,h3,h4⟩:=e27 (k:=1000) (by omega) c
 obtain ⟨t,g3,g4⟩:=e28 (k:=1000) (by omega) c
 have e1:=h2.eq g2
 have e2:=h4.eq g4
 subst e1;subst e2
 have hlen:=h4.len
 unfold F4
 rw [h1,Option.bind_some,g1,Option.bind_some,if_neg (by simp),h3,Option.bind_some,g3,Option.bind_some,e29 (by omega) (by omega),Option.bind_some,awake]
 simp [optG]
end Go.Proofs.Ytallnifoeahpiaa
