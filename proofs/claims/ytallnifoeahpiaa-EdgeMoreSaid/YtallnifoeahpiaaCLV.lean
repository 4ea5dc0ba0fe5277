/- That functions of the seat compute this. Printed by a program of mine. -/
import Derived.Test.YtallnifoeahpiaaS
import Derived.Test.YtallnifoeahpiaaCRA
import Derived.Test.YtallnifoeahpiaaDLV
namespace Go.Proofs.Ytallnifoeahpiaa
open Go Go.Sx
set_option maxRecDepth 100000
set_option linter.unusedVariables false
theorem ct36 {fuel:Nat}  {p_c:S_api_EdCase} {res:Bool} (h:F36 fuel p_c=some res):PCall Try.prog 36 [(ca p_c)] (vb res):=by
 refine PCall.of_awp tt_ok (N:=14) Try.func36 rfl (by kernel_rfl) rfl (Nat.le_of_ble_eq_true rfl) rfl ?_
 unfold F36 at h
 refine GA [(1,rf 0)] [cs p_c] ?_
 obtain ⟨x1,hx1,h⟩:=ob h
 refine HB [.no,.call [(ca p_c)] (.tup [vi x1.1,vi x1.2.1,vi x1.2.2])] [(5,vi x1.2.2)] [PCall Try.prog 17 [(ca p_c)] (.tup [vi x1.1,vi x1.2.1,vi x1.2.2])] (ct17 hx1) ?_
 refine HA [(2,vb (x1.2.2==0))] ?_
 obtain rfl:=oi h
 refine WB 1 [(2,vb (x1.2.2==0))] ?_
 exact awp_ret gm
end Go.Proofs.Ytallnifoeahpiaa
