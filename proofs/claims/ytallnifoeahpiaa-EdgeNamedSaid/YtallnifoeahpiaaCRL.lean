/- That functions of the seat compute this. Printed by a program of mine. -/
import Derived.Test.YtallnifoeahpiaaS
import Derived.Test.YtallnifoeahpiaaDRL
namespace Go.Proofs.Ytallnifoeahpiaa
open Go Go.Sx
set_option maxRecDepth 100000
set_option linter.unusedVariables false
theorem ct79 {fuel:Nat}  {l:(List Int)} {p_n:Int} {res:Bool} (h:F79 fuel l p_n=some res):PCall Try.prog 79 [(L3 l),(di p_n)] (vb res):=by
 refine PCall.of_awp tt_ok (N:=18) Try.func79 rfl (by kernel_rfl) rfl (Nat.le_of_ble_eq_true rfl) rfl ?_
 unfold F79 at h
 refine GA [(0,.d (L3 l)),(1,vi p_n)] [] ?_
 refine awp_seq (HA [(0,.d (L3 l)),(1,vi p_n),(5,vi 0)] ?_)
 refine cuo h (fun (ro1:Bool)=>[(4,vb ro1)]) (fun (ro1:Bool)=>[]) (fun (so1:Unit)=>[]) (fun (so1:Unit)=>[]) (fun o1 h=>?_) (fun ro1 h=>?_) (fun so1 h=>?_)
 ·refine awp_selQ (WA 0 [(0,.d (L3 l)),(1,vi p_n),(5,vi 0)] [] ?_)
  refine awp_block (awp_loop (n:=fuel) ?_)
  refine awpN_ind (fun n (c2:Int)=>F79L1 l p_n n c2) o1 (fun (c2:Int)=>[(0,.d (L3 l)),(1,vi p_n),(5,vi c2)]) (fun (c2:Int)=>[]) (fun _=>rfl) ?_ fuel 0 h
  clear h
  intro n3 c2 h hrn3
  change F79L1 l p_n (n3+1) c2=some o1 at h
  rw [F79L1] at h
  refine awp_seq (GA [(0,.d (L3 l)),(1,vi p_n),(5,vi c2),(9,vb (decide (c2<(l.length:Int))))] [] ?_)
  refine cd h (fun hb4 h=>?_) (fun hb4 h=>?_)
  ·refine awp_skip ?_
   show awp ..
   refine awp_seq (awp_block ?_)
   obtain ⟨x5,hx5,h⟩:=ob h
   refine GB [.no,.no,.cells (cel3 x5)] [(0,.d (L3 l)),(1,vi p_n),(5,vi c2),(17,vb (x5==p_n))] [] [IX3 l c2 x5] (idxOk cel3_len hx5) ?_
   refine cd h (fun hb6 h=>?_) (fun hb6 h=>?_)
   ·refine GA [(4,vb true)] [] ?_
    obtain rfl:=oi h
    refine WB 0 [(4,vb true)] ?_
    exact awp_ret (gs [] [4] OutQ.ret)
   ·refine awp_skip ?_
    show awp ..
    refine XA [(0,.d (L3 l)),(1,vi p_n),(5,vi (w64 (c2+1)))] [] ?_
    exact gn 0 [0,1,5] (hrn3 _ h)
  ·refine awp_exit ?_
   obtain rfl:=oi h
   exact gs [] [] OutQ.norm
 ·obtain rfl:=oi h
  exact gm
 ·show awp ..
  refine GA [(4,vb false)] [] ?_
  obtain rfl:=oi h
  refine WB 0 [(4,vb false)] ?_
  exact awp_ret gm
theorem ct43 {fuel:Nat}  {p_c:S_api_EdCase} {out:(List Int)} {res:S_api_EdCase} (h:F43 fuel p_c out=some res):PCall Try.prog 43 [(ca p_c),(L3 out)] (.d (ca res)):=by
 refine PCall.of_awp tt_ok (N:=29) Try.func43 rfl (by kernel_rfl) rfl (Nat.le_of_ble_eq_true rfl) rfl ?_
 unfold F43 at h
 refine GA [(1,.d (L3 out)),(2,rf 0),(4,rf 1)] [cs p_c,.cells [vi 0,.d dnil,.d dnil]] ?_
 refine HA [(1,.d (L3 out)),(2,rf 0),(4,rf 1),(5,.d dnil)] ?_
 refine awp_seq (HA [(1,.d (L3 out)),(2,rf 0),(4,rf 1),(5,.d dnil),(6,vi 0)] ?_)
 refine awp_nil 5 3 (by kernel_rfl) ?_
 refine awp_eq (T':=[(5,.sl 3 2 0 ([]:List S_api_EdEdge).length),(1,.d (L3 out)),(2,rf 0),(4,rf 1),(6,vi 0)]) (H':=[cs p_c,.cells [vi 0,.d dnil,.d dnil],.data (([]:List S_api_EdEdge).flatMap cel71)]) (by kernel_rfl) (by kernel_rfl) ?_
 refine WA 3 [(1,.d (L3 out)),(2,rf 0),(4,rf 1),(5,.sl 3 2 0 ([]:List S_api_EdEdge).length),(6,vi 0)] [cs p_c,.cells [vi 0,.d dnil,.d dnil],.data (([]:List S_api_EdEdge).flatMap cel71)] ?_
 refine cuo h (fun (ro2:S_api_EdCase)=>[(4,rf 0)]) (fun (ro2:S_api_EdCase)=>[cs ro2]) (fun (so2:(List S_api_EdEdge))=>[(2,rf 0),(4,rf 1),(5,.sl 3 2 0 so2.length)]) (fun (so2:(List S_api_EdEdge))=>[cs p_c,.cells [vi 0,.d dnil,.d dnil],.data (so2.flatMap cel71)]) (fun o2 h=>?_) (fun ro2 h=>?_) (fun so2 h=>?_)
 ·refine awp_selQ (WA 3 [(1,.d (L3 out)),(2,rf 0),(4,rf 1),(5,.sl 3 2 0 ([]:List S_api_EdEdge).length),(6,vi 0)] [cs p_c,.cells [vi 0,.d dnil,.d dnil],.data (([]:List S_api_EdEdge).flatMap cel71)] ?_)
  refine awp_block (awp_loop (n:=fuel) ?_)
  refine awpN_ind (fun n (c3:Int×(List S_api_EdEdge))=>F43L1 fuel p_c out n c3) o2 (fun (c3:Int×(List S_api_EdEdge))=>[(1,.d (L3 out)),(2,rf 0),(4,rf 1),(5,.sl 3 2 0 c3.2.length),(6,vi c3.1)]) (fun (c3:Int×(List S_api_EdEdge))=>[cs p_c,.cells [vi 0,.d dnil,.d dnil],.data (c3.2.flatMap cel71)]) (fun _=>rfl) ?_ fuel (0,([]:List S_api_EdEdge)) h
  clear h
  intro n4 c3 h hrn4
  change F43L1 fuel p_c out (n4+1) c3=some o2 at h
  rw [F43L1] at h
  refine awp_seq (GA [(1,.d (L3 out)),(2,rf 0),(4,rf 1),(5,.sl 3 2 0 c3.2.length),(6,vi c3.1),(11,vb (decide (c3.1<(p_c.Edges.length:Int))))] [cs p_c,.cells [vi 0,.d dnil,.d dnil],.data (c3.2.flatMap cel71)] ?_)
  refine cd h (fun hb5 h=>?_) (fun hb5 h=>?_)
  ·refine awp_skip ?_
   show awp ..
   refine awp_seq (awp_block ?_)
   obtain ⟨x6,hx6,h⟩:=ob h
   refine GB [.no,.no,.call [(L3 out),(di c3.1)] (vb x6)] [(1,.d (L3 out)),(2,rf 0),(4,rf 1),(5,.sl 3 2 0 c3.2.length),(6,vi c3.1),(17,vb (!x6))] [cs p_c,.cells [vi 0,.d dnil,.d dnil],.data (c3.2.flatMap cel71)] [PCall Try.prog 79 [(L3 out),(di c3.1)] (vb x6)] (ct79 hx6) ?_
   refine cd h (fun hb7 h=>?_) (fun hb7 h=>?_)
   ·obtain ⟨x8,hx8,h⟩:=ob h
    obtain ⟨x9,hx9,h⟩:=ob h
    refine XB [.no,.no,.no,.no,.cells (cel71 x8),.no,.no,.list (c3.2++([x8]:List S_api_EdEdge)).length ((c3.2++([x8]:List S_api_EdEdge)).flatMap cel71)] [(1,.d (L3 out)),(2,rf 0),(4,rf 1),(5,.sl 3 2 0 (c3.2++([x8]:List S_api_EdEdge)).length),(6,vi c3.1)] [cs p_c,.cells [vi 0,.d dnil,.d dnil],.data ((c3.2++([x8]:List S_api_EdEdge)).flatMap cel71)] [IX71 p_c.Edges c3.1 x8,AppendOk ((c3.2.flatMap cel71).map .d) c3.2.length ([x8]:List S_api_EdEdge).length (c3.2++([x8]:List S_api_EdEdge)).length 3 40 (([x8]:List S_api_EdEdge).flatMap cel71) ((c3.2++([x8]:List S_api_EdEdge)).flatMap cel71)] (And.intro (idxOk cel71_len hx8) (appendOk cel71_len (need_of hx9))) ?_
    show awp ..
    refine YA [(1,.d (L3 out)),(2,rf 0),(4,rf 1),(5,.sl 3 2 0 (c3.2++([x8]:List S_api_EdEdge)).length),(6,vi (w64 (c3.1+1)))] ?_
    exact gn 3 [1,2,4,5,6] (hrn4 _ h)
   ·refine awp_skip ?_
    show awp ..
    refine XA [(1,.d (L3 out)),(2,rf 0),(4,rf 1),(5,.sl 3 2 0 c3.2.length),(6,vi (w64 (c3.1+1)))] [cs p_c,.cells [vi 0,.d dnil,.d dnil],.data (c3.2.flatMap cel71)] ?_
    exact gn 3 [1,2,4,5,6] (hrn4 _ h)
  ·refine awp_exit ?_
   obtain rfl:=oi h
   exact gs [0,1,2] [2,4,5] OutQ.norm
 ·obtain rfl:=oi h
  exact gm
 ·show awp ..
  refine GA [(2,rf 0),(4,rf 1)] [.cells [vi p_c.Tol,.d (L66 p_c.Sheets),.sl 3 2 0 so2.length],.cells [vi 0,.d dnil,.d dnil],.data (so2.flatMap cel71)] ?_
  refine GA [(4,rf 1)] [.cells [vi p_c.Tol,.d (L66 p_c.Sheets),.sl 3 2 0 so2.length],.cells [vi p_c.Tol,.d (L66 p_c.Sheets),.sl 3 2 0 so2.length],.data (so2.flatMap cel71)] ?_
  obtain rfl:=oi h
  refine WB 3 [(4,rf 1)] ?_
  refine awp_freezeC 1 2 2 (so2.flatMap cel71) [vi p_c.Tol,.d (L66 p_c.Sheets),.sl 3 2 0 so2.length] (.sl 3 2 0 so2.length) (.d (L71 so2)) _ _ (ps:=[(so2.flatMap cel71).length=so2.length*3]) (by kernel_rfl) (by kernel_rfl) (by kernel_rfl) (by kernel_rfl) (flatMap_len cel71 3 cel71_len so2) rfl rfl ?_
  refine WA 3 [(4,rf 1)] [.cells [vi p_c.Tol,.d (L66 p_c.Sheets),.top],.cells [vi p_c.Tol,.d (L66 p_c.Sheets),.d (L71 so2)],.data (([]:List S_api_EdEdge).flatMap cel71)] ?_
  exact awp_ret gm
end Go.Proofs.Ytallnifoeahpiaa
