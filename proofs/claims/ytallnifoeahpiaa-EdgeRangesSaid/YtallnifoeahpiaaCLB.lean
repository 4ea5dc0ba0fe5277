/- That functions of the seat compute this. Printed by a program of mine. -/
import Derived.Test.YtallnifoeahpiaaS
import Derived.Test.YtallnifoeahpiaaCED
import Derived.Test.YtallnifoeahpiaaCEG
import Derived.Test.YtallnifoeahpiaaCRC
import Derived.Test.YtallnifoeahpiaaCW
import Derived.Test.YtallnifoeahpiaaDLB
namespace Go.Proofs.Ytallnifoeahpiaa
open Go Go.Sx
set_option maxRecDepth 100000
set_option linter.unusedVariables false
theorem ct4 {fuel:Nat}  {p_c:S_api_EdCase} {sheet:Int} {res:Bool} (h:F4 fuel p_c sheet=some res):PCall Try.prog 4 [(ca p_c),(di sheet)] (vb res):=by
 refine PCall.of_awp tt_ok (N:=61) Try.func4 rfl (by kernel_rfl) rfl (Nat.le_of_ble_eq_true rfl) rfl ?_
 unfold F4 at h
 refine GA [(1,vi sheet),(2,rf 0)] [cs p_c] ?_
 obtain ⟨x1,hx1,h⟩:=ob h
 refine GB [.no,.no,.call [(ca p_c),(di sheet)] (.tup [.d (.agg [(di x1.1.Lo),(di x1.1.Hi)]),vi x1.2])] [(1,vi sheet),(2,rf 0),(5,rf 1),(6,vi x1.2)] [cs p_c,.cells [vi x1.1.Lo,vi x1.1.Hi]] [PCall Try.prog 25 [(ca p_c),(di sheet)] (.tup [.d (.agg [(di x1.1.Lo),(di x1.1.Hi)]),vi x1.2])] (ct25 hx1) ?_
 obtain ⟨x2,hx2,h⟩:=ob h
 refine GB [.no,.no,.call [(ca p_c),(di sheet)] (.tup [.d (.agg [(di x2.1.Lo),(di x2.1.Hi)]),vi x2.2])] [(2,rf 0),(5,rf 1),(6,vi x1.2),(7,rf 2),(8,vi x2.2)] [cs p_c,.cells [vi x1.1.Lo,vi x1.1.Hi],.cells [vi x2.1.Lo,vi x2.1.Hi]] [PCall Try.prog 26 [(ca p_c),(di sheet)] (.tup [.d (.agg [(di x2.1.Lo),(di x2.1.Hi)]),vi x2.2])] (ct26 hx2) ?_
 refine awp_seq (HB [] [(2,rf 0),(32,vb (cond (!((x1.1.Lo==x2.1.Lo)&&(x1.1.Hi==x2.1.Hi))) true (x1.2 != x2.2)))] [((!(!((x1.1.Lo==x2.1.Lo)&&(x1.1.Hi==x2.1.Hi))))=true→(!(!((x1.1.Lo==x2.1.Lo)&&(x1.1.Hi==x2.1.Hi))))=true),((!(!((x1.1.Lo==x2.1.Lo)&&(x1.1.Hi==x2.1.Hi))))=true→(!(!((x1.1.Lo==x2.1.Lo)&&(x1.1.Hi==x2.1.Hi))))=true),((!((x1.1.Lo==x2.1.Lo)&&(x1.1.Hi==x2.1.Hi)))=false→(!(!((x1.1.Lo==x2.1.Lo)&&(x1.1.Hi==x2.1.Hi))))=true)] (And.intro (id) (And.intro (id) (not_of))) ?_)
 refine cd h (fun hb3 h=>?_) (fun hb3 h=>?_)
 ·refine GA [(4,vb false)] [cs p_c,.cells [vi x1.1.Lo,vi x1.1.Hi],.cells [vi x2.1.Lo,vi x2.1.Hi]] ?_
  obtain rfl:=oi h
  refine WB 3 [(4,vb false)] ?_
  exact awp_ret gm
 ·refine awp_skip ?_
  show awp ..
  obtain ⟨x4,hx4,h⟩:=ob h
  refine GB [.no,.call [(ca p_c)] (.tup [.d (L3 x4.1),vi x4.2.1,vi x4.2.2])] [(2,rf 0),(6,vi x4.2.2),(9,.d (L3 x4.1)),(10,vi x4.2.1)] [cs p_c,.cells [vi x1.1.Lo,vi x1.1.Hi],.cells [vi x2.1.Lo,vi x2.1.Hi]] [PCall Try.prog 27 [(ca p_c)] (.tup [.d (L3 x4.1),vi x4.2.1,vi x4.2.2])] (ct27 hx4) ?_
  obtain ⟨x5,hx5,h⟩:=ob h
  refine HB [.no,.call [(ca p_c)] (.tup [.d (L3 x5.1),vi x5.2.1,vi x5.2.2])] [(6,vi x4.2.2),(8,vi x5.2.2),(9,.d (L3 x4.1)),(10,vi x4.2.1),(11,.d (L3 x5.1)),(12,vi x5.2.1)] [PCall Try.prog 28 [(ca p_c)] (.tup [.d (L3 x5.1),vi x5.2.1,vi x5.2.2])] (ct28 hx5) ?_
  obtain ⟨x6,hx6,h⟩:=ob h
  obtain ⟨x7,hx7,h⟩:=ob h
  refine HB [.no,.no,.call [(L3 x4.1),(L3 x5.1)] (vb x6),.no,.no,.no,.no,.no,.no,.no,.no,.no,.no,.no,.call [] (vb x7)] [(4,vb (cond (cond (cond x6 (x4.2.1==x5.2.1) false) (x4.2.2==x5.2.2) false) x7 false))] [PCall Try.prog 29 [(L3 x4.1),(L3 x5.1)] (vb x6),(x6=true→x6=true),(x6=true→x6=true),(x6=true→x6=true),((cond x6 (x4.2.1==x5.2.1) false)=true→(cond x6 (x4.2.1==x5.2.1) false)=true),((cond x6 (x4.2.1==x5.2.1) false)=true→(cond x6 (x4.2.1==x5.2.1) false)=true),((cond x6 (x4.2.1==x5.2.1) false)=true→(cond x6 (x4.2.1==x5.2.1) false)=true),((cond (cond x6 (x4.2.1==x5.2.1) false) (x4.2.2==x5.2.2) false)=true→PCall Try.prog 24 [] (vb x7)),((cond (cond x6 (x4.2.1==x5.2.1) false) (x4.2.2==x5.2.2) false)=true→(cond (cond x6 (x4.2.1==x5.2.1) false) (x4.2.2==x5.2.2) false)=true)] (And.intro (ct29 hx6) (And.intro (id) (And.intro (id) (And.intro (id) (And.intro (id) (And.intro (id) (And.intro (id) (And.intro ((fun hg=>ct24 (optG_of hx7 hg))) (id))))))))) ?_
  obtain rfl:=oi h
  refine WB 3 [(4,vb (cond (cond (cond x6 (x4.2.1==x5.2.1) false) (x4.2.2==x5.2.2) false) x7 false))] ?_
  exact awp_ret gm
end Go.Proofs.Ytallnifoeahpiaa
