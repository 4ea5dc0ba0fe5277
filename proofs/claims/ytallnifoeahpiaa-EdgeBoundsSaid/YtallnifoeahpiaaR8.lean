/- The law EdgeBounds. -/
import Derived.Test.YtallnifoeahpiaaR4
import Derived.Test.YtallnifoeahpiaaR7
import Derived.Test.YtallnifoeahpiaaPK
import Derived.Test.YtallnifoeahpiaaDLC
namespace Go.Proofs.Ytallnifoeahpiaa
open Go Go.Sx
set_option linter.all false
theorem asc_len {m:Nat} (h8:m≤8) {l:List Int} (h:Asc m l):l.length≤m:=by
 obtain ⟨S,_,_,rfl⟩:=asc_bits h8 h
 unfold bitsL bitsN
 rw [List.length_map]
 exact Nat.le_trans (List.length_filter_le _ _) (by simp)
theorem WithoutOk.len {c:Cs} {r:List Int×Int} (h:WithoutOk c r):r.1.length≤8:=by
 rcases h with ⟨_,rfl⟩|⟨h1,_,h2,_⟩
 ·simp
 ·have hm:=(chk_val (chk_err h1)).edges
  exact Nat.le_trans (asc_len hm h2) hm
theorem law5 (c:Cs) (p:List Int):F5 1000 c p=some true:=by
 obtain ⟨r,h1,h2⟩:=e32 (k:=1000) (by omega) c
 obtain ⟨q,g1,g2⟩:=e33 (k:=1000) (by omega) c
 have e:=h2.eq g2
 subst e
 have hl:=h2.len
 unfold F5
 rw [e30 (by omega),Option.bind_some,e31 (by omega),Option.bind_some,if_neg (by simp),h1,Option.bind_some,g1,Option.bind_some,e29 (by omega) (by omega),Option.bind_some,awake]
 simp [optG]
end Go.Proofs.Ytallnifoeahpiaa
