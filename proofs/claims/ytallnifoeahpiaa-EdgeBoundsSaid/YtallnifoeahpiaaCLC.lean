/- That functions of the seat compute this. Printed by a program of mine. -/
import Derived.Test.YtallnifoeahpiaaS
import Derived.Test.YtallnifoeahpiaaCEE
import Derived.Test.YtallnifoeahpiaaCEF
import Derived.Test.YtallnifoeahpiaaCRB
import Derived.Test.YtallnifoeahpiaaCRD
import Derived.Test.YtallnifoeahpiaaCW
import Derived.Test.YtallnifoeahpiaaDLC
namespace Go.Proofs.Ytallnifoeahpiaa
open Go Go.Sx
set_option maxRecDepth 100000
set_option linter.unusedVariables false
theorem ct5 {fuel:Nat}  {p_c:S_api_EdCase} {proof:(List Int)} {res:Bool} (h:F5 fuel p_c proof=some res):PCall Try.prog 5 [(ca p_c),(L3 proof)] (vb res):=by
 refine PCall.of_awp tt_ok (N:=52) Try.func5 rfl (by kernel_rfl) rfl (Nat.le_of_ble_eq_true rfl) rfl ?_
 unfold F5 at h
 refine GA [(1,.d (L3 proof)),(2,rf 0)] [cs p_c] ?_
 obtain ⟨x1,hx1,h⟩:=ob h
 refine HB [.no,.no,.call [(ca p_c),(L3 proof)] (.tup [vi x1.1,vi x1.2])] [(1,.d (L3 proof)),(2,rf 0),(5,vi x1.1),(6,vi x1.2)] [PCall Try.prog 30 [(ca p_c),(L3 proof)] (.tup [vi x1.1,vi x1.2])] (ct30 hx1) ?_
 obtain ⟨x2,hx2,h⟩:=ob h
 refine HB [.no,.no,.call [(ca p_c),(L3 proof)] (.tup [vi x2.1,vi x2.2])] [(2,rf 0),(5,vi x1.1),(6,vi x1.2),(7,vi x2.1),(8,vi x2.2)] [PCall Try.prog 31 [(ca p_c),(L3 proof)] (.tup [vi x2.1,vi x2.2])] (ct31 hx2) ?_
 refine awp_seq (HB [] [(2,rf 0),(30,vb (cond (x1.1 != x2.1) true (x1.2 != x2.2)))] [((!(x1.1 != x2.1))=true→(!(x1.1 != x2.1))=true),((!(x1.1 != x2.1))=true→(!(x1.1 != x2.1))=true),((x1.1 != x2.1)=false→(!(x1.1 != x2.1))=true)] (And.intro (id) (And.intro (id) (not_of))) ?_)
 refine cd h (fun hb3 h=>?_) (fun hb3 h=>?_)
 ·refine GA [(4,vb false)] [cs p_c] ?_
  obtain rfl:=oi h
  refine WB 1 [(4,vb false)] ?_
  exact awp_ret gm
 ·refine awp_skip ?_
  show awp ..
  obtain ⟨x4,hx4,h⟩:=ob h
  refine GB [.no,.call [(ca p_c)] (.tup [.d (L3 x4.1),vi x4.2])] [(2,rf 0),(6,vi x4.2),(9,.d (L3 x4.1))] [cs p_c] [PCall Try.prog 32 [(ca p_c)] (.tup [.d (L3 x4.1),vi x4.2])] (ct32 hx4) ?_
  obtain ⟨x5,hx5,h⟩:=ob h
  refine HB [.no,.call [(ca p_c)] (.tup [.d (L3 x5.1),vi x5.2])] [(6,vi x4.2),(8,vi x5.2),(9,.d (L3 x4.1)),(10,.d (L3 x5.1))] [PCall Try.prog 33 [(ca p_c)] (.tup [.d (L3 x5.1),vi x5.2])] (ct33 hx5) ?_
  obtain ⟨x6,hx6,h⟩:=ob h
  obtain ⟨x7,hx7,h⟩:=ob h
  refine HB [.no,.no,.call [(L3 x4.1),(L3 x5.1)] (vb x6),.no,.no,.no,.no,.no,.no,.call [] (vb x7)] [(4,vb (cond (cond x6 (x4.2==x5.2) false) x7 false))] [PCall Try.prog 29 [(L3 x4.1),(L3 x5.1)] (vb x6),(x6=true→x6=true),(x6=true→x6=true),(x6=true→x6=true),((cond x6 (x4.2==x5.2) false)=true→PCall Try.prog 24 [] (vb x7)),((cond x6 (x4.2==x5.2) false)=true→(cond x6 (x4.2==x5.2) false)=true)] (And.intro (ct29 hx6) (And.intro (id) (And.intro (id) (And.intro (id) (And.intro ((fun hg=>ct24 (optG_of hx7 hg))) (id)))))) ?_
  obtain rfl:=oi h
  refine WB 1 [(4,vb (cond (cond x6 (x4.2==x5.2) false) x7 false))] ?_
  exact awp_ret gm
end Go.Proofs.Ytallnifoeahpiaa
