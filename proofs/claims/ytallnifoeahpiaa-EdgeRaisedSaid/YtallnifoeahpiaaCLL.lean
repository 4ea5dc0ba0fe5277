/- That functions of the seat compute this. Printed by a program of mine. -/
import Derived.Test.YtallnifoeahpiaaS
import Derived.Test.YtallnifoeahpiaaCEB
import Derived.Test.YtallnifoeahpiaaCEF
import Derived.Test.YtallnifoeahpiaaCEG
import Derived.Test.YtallnifoeahpiaaCLV
import Derived.Test.YtallnifoeahpiaaCW
import Derived.Test.YtallnifoeahpiaaDLL
namespace Go.Proofs.Ytallnifoeahpiaa
open Go Go.Sx
set_option maxRecDepth 100000
set_option linter.unusedVariables false
theorem ct47 {fuel:Nat}  {p_c:S_api_EdCase} {sheet:Int} {by_:Int} {res:S_api_EdCase} (h:F47 fuel p_c sheet by_=some res):PCall Try.prog 47 [(ca p_c),(di sheet),(di by_)] (.d (ca res)):=by
 refine PCall.of_awp tt_ok (N:=84) Try.func47 rfl (by kernel_rfl) rfl (Nat.le_of_ble_eq_true rfl) rfl ?_
 unfold F47 at h
 refine GA [(1,vi sheet),(2,vi by_),(3,rf 0),(6,rf 1)] [cs p_c,.cells [vi 0,.d dnil,.d dnil]] ?_
 refine HA [(1,vi sheet),(2,vi by_),(3,rf 0),(6,rf 1),(7,.d dnil)] ?_
 refine awp_seq (HA [(1,vi sheet),(2,vi by_),(3,rf 0),(6,rf 1),(7,.d dnil),(8,vi 0)] ?_)
 refine awp_nil 7 3 (by kernel_rfl) ?_
 refine awp_eq (T':=[(7,.sl 3 2 0 ([]:List S_api_EdEdge).length),(1,vi sheet),(2,vi by_),(3,rf 0),(6,rf 1),(8,vi 0)]) (H':=[cs p_c,.cells [vi 0,.d dnil,.d dnil],.data (([]:List S_api_EdEdge).flatMap cel71)]) (by kernel_rfl) (by kernel_rfl) ?_
 refine WA 3 [(1,vi sheet),(2,vi by_),(3,rf 0),(6,rf 1),(7,.sl 3 2 0 ([]:List S_api_EdEdge).length),(8,vi 0)] [cs p_c,.cells [vi 0,.d dnil,.d dnil],.data (([]:List S_api_EdEdge).flatMap cel71)] ?_
 refine cuo h (fun (ro2:S_api_EdCase)=>[(6,rf 0)]) (fun (ro2:S_api_EdCase)=>[cs ro2]) (fun (so2:(List S_api_EdEdge))=>[(3,rf 0),(6,rf 1),(7,.sl 3 2 0 so2.length)]) (fun (so2:(List S_api_EdEdge))=>[cs p_c,.cells [vi 0,.d dnil,.d dnil],.data (so2.flatMap cel71)]) (fun o2 h=>?_) (fun ro2 h=>?_) (fun so2 h=>?_)
 ·refine awp_selQ (WA 3 [(1,vi sheet),(2,vi by_),(3,rf 0),(6,rf 1),(7,.sl 3 2 0 ([]:List S_api_EdEdge).length),(8,vi 0)] [cs p_c,.cells [vi 0,.d dnil,.d dnil],.data (([]:List S_api_EdEdge).flatMap cel71)] ?_)
  refine awp_block (awp_loop (n:=fuel) ?_)
  refine awpN_ind (fun n (c3:Int×(List S_api_EdEdge))=>F47L1 fuel p_c sheet by_ n c3) o2 (fun (c3:Int×(List S_api_EdEdge))=>[(1,vi sheet),(2,vi by_),(3,rf 0),(6,rf 1),(7,.sl 3 2 0 c3.2.length),(8,vi c3.1)]) (fun (c3:Int×(List S_api_EdEdge))=>[cs p_c,.cells [vi 0,.d dnil,.d dnil],.data (c3.2.flatMap cel71)]) (fun _=>rfl) ?_ fuel (0,([]:List S_api_EdEdge)) h
  clear h
  intro n4 c3 h hrn4
  change F47L1 fuel p_c sheet by_ (n4+1) c3=some o2 at h
  rw [F47L1] at h
  refine awp_seq (GA [(1,vi sheet),(2,vi by_),(3,rf 0),(6,rf 1),(7,.sl 3 2 0 c3.2.length),(8,vi c3.1),(16,vb (decide (c3.1<(p_c.Edges.length:Int))))] [cs p_c,.cells [vi 0,.d dnil,.d dnil],.data (c3.2.flatMap cel71)] ?_)
  refine cd h (fun hb5 h=>?_) (fun hb5 h=>?_)
  ·refine awp_skip ?_
   show awp ..
   refine awp_seq (awp_block ?_)
   obtain ⟨x6,hx6,h⟩:=ob h
   refine GB [.no,.no,.no,.cells (cel71 x6)] [(1,vi sheet),(2,vi by_),(3,rf 0),(6,rf 1),(7,.sl 3 2 0 c3.2.length),(8,vi c3.1),(9,rf 3)] [cs p_c,.cells [vi 0,.d dnil,.d dnil],.data (c3.2.flatMap cel71),.cells [vi x6.A,vi x6.B,.d (L74 x6.Points)]] [IX71 p_c.Edges c3.1 x6] (idxOk cel71_len hx6) ?_
   refine GA [(1,vi sheet),(2,vi by_),(3,rf 0),(6,rf 1),(7,.sl 3 2 0 c3.2.length),(8,vi c3.1),(9,rf 3)] [cs p_c,.cells [vi 0,.d dnil,.d dnil],.data (c3.2.flatMap cel71),.cells [vi x6.A,vi x6.B,.d dnil]] ?_
   refine awp_seq (HA [(1,vi sheet),(2,vi by_),(3,rf 0),(6,rf 1),(7,.sl 3 2 0 c3.2.length),(8,vi c3.1),(9,rf 3),(10,vi 0)] ?_)
   refine awp_nilC 3 2 2 [vi x6.A,vi x6.B,.d dnil] [cs p_c,.cells [vi 0,.d dnil,.d dnil],.data (c3.2.flatMap cel71),.cells [vi x6.A,vi x6.B,.sl 2 4 0 ([]:List S_api_EdPoint).length],.data (([]:List S_api_EdPoint).flatMap cel74)] (by kernel_rfl) (by kernel_rfl) (by kernel_rfl) ?_
   refine WA 5 [(1,vi sheet),(2,vi by_),(3,rf 0),(6,rf 1),(7,.sl 3 2 0 c3.2.length),(8,vi c3.1),(9,rf 3),(10,vi 0)] [cs p_c,.cells [vi 0,.d dnil,.d dnil],.data (c3.2.flatMap cel71),.cells [vi x6.A,vi x6.B,.sl 2 4 0 ([]:List S_api_EdPoint).length],.data (([]:List S_api_EdPoint).flatMap cel74)] ?_
   refine cuo h (fun (ro8:S_api_EdCase)=>[(6,rf 0)]) (fun (ro8:S_api_EdCase)=>[cs ro8]) (fun (so8:(List S_api_EdPoint))=>[(1,vi sheet),(2,vi by_),(3,rf 0),(6,rf 1),(7,.sl 3 2 0 c3.2.length),(8,vi c3.1),(9,rf 3)]) (fun (so8:(List S_api_EdPoint))=>[cs p_c,.cells [vi 0,.d dnil,.d dnil],.data (c3.2.flatMap cel71),.cells [vi x6.A,vi x6.B,.sl 2 4 0 so8.length],.data (so8.flatMap cel74)]) (fun o8 h=>?_) (fun ro8 h=>?_) (fun so8 h=>?_)
   ·refine awp_selQ (WA 5 [(1,vi sheet),(2,vi by_),(3,rf 0),(6,rf 1),(7,.sl 3 2 0 c3.2.length),(8,vi c3.1),(9,rf 3),(10,vi 0)] [cs p_c,.cells [vi 0,.d dnil,.d dnil],.data (c3.2.flatMap cel71),.cells [vi x6.A,vi x6.B,.sl 2 4 0 ([]:List S_api_EdPoint).length],.data (([]:List S_api_EdPoint).flatMap cel74)] ?_)
    refine awp_block (awp_loop (n:=fuel) ?_)
    refine awpN_ind (fun n (c9:Int×(List S_api_EdPoint))=>F47L2 p_c sheet by_ c3 x6 n c9) o8 (fun (c9:Int×(List S_api_EdPoint))=>[(1,vi sheet),(2,vi by_),(3,rf 0),(6,rf 1),(7,.sl 3 2 0 c3.2.length),(8,vi c3.1),(9,rf 3),(10,vi c9.1)]) (fun (c9:Int×(List S_api_EdPoint))=>[cs p_c,.cells [vi 0,.d dnil,.d dnil],.data (c3.2.flatMap cel71),.cells [vi x6.A,vi x6.B,.sl 2 4 0 c9.2.length],.data (c9.2.flatMap cel74)]) (fun _=>rfl) ?_ fuel (0,([]:List S_api_EdPoint)) h
    clear h
    intro n10 c9 h hrn10
    change F47L2 p_c sheet by_ c3 x6 (n10+1) c9=some o8 at h
    rw [F47L2] at h
    refine awp_seq ?_
    obtain ⟨x11,hx11,h⟩:=ob h
    refine GB [.no,.no,.no,.no,.cells (cel71 x11)] [(1,vi sheet),(2,vi by_),(3,rf 0),(6,rf 1),(7,.sl 3 2 0 c3.2.length),(8,vi c3.1),(9,rf 3),(10,vi c9.1),(33,vb (decide (c9.1<(x11.Points.length:Int))))] [cs p_c,.cells [vi 0,.d dnil,.d dnil],.data (c3.2.flatMap cel71),.cells [vi x6.A,vi x6.B,.sl 2 4 0 c9.2.length],.data (c9.2.flatMap cel74)] [IX71 p_c.Edges c3.1 x11] (idxOk cel71_len hx11) ?_
    refine cd h (fun hb12 h=>?_) (fun hb12 h=>?_)
    ·refine awp_skip ?_
     show awp ..
     refine awp_seq (awp_block ?_)
     obtain ⟨x13,hx13,h⟩:=ob h
     obtain ⟨x14,hx14,h⟩:=ob h
     refine GB [.no,.no,.no,.cells (cel71 x13),.no,.no,.no,.cells (cel74 x14)] [(1,vi sheet),(2,vi by_),(3,rf 0),(6,rf 1),(7,.sl 3 2 0 c3.2.length),(8,vi c3.1),(9,rf 3),(10,vi c9.1),(11,rf 5)] [cs p_c,.cells [vi 0,.d dnil,.d dnil],.data (c3.2.flatMap cel71),.cells [vi x6.A,vi x6.B,.sl 2 4 0 c9.2.length],.data (c9.2.flatMap cel74),.cells [vi x14.A,vi x14.B]] [IX71 p_c.Edges c3.1 x13,IX74 x13.Points c9.1 x14] (And.intro (idxOk cel71_len hx13) (idxOk cel74_len hx14)) ?_
     refine awp_seq (HB [] [(1,vi sheet),(2,vi by_),(3,rf 0),(6,rf 1),(7,.sl 3 2 0 c3.2.length),(8,vi c3.1),(9,rf 3),(10,vi c9.1),(11,rf 5),(52,vb (cond (decide (sheet<0)) true (x6.A==sheet)))] [((!(decide (sheet<0)))=true→(!(decide (sheet<0)))=true),((!(decide (sheet<0)))=true→(!(decide (sheet<0)))=true),((!(decide (sheet<0)))=true→(!(decide (sheet<0)))=true),((decide (sheet<0))=false→(!(decide (sheet<0)))=true)] (And.intro (id) (And.intro (id) (And.intro (id) (not_of)))) ?_)
     refine cuo h (fun (ro15:S_api_EdCase)=>[(6,rf 0)]) (fun (ro15:S_api_EdCase)=>[cs ro15]) (fun (so15:Int)=>[(1,vi sheet),(2,vi by_),(3,rf 0),(6,rf 1),(7,.sl 3 2 0 c3.2.length),(8,vi c3.1),(9,rf 3),(10,vi c9.1),(11,rf 5)]) (fun (so15:Int)=>[cs p_c,.cells [vi 0,.d dnil,.d dnil],.data (c3.2.flatMap cel71),.cells [vi x6.A,vi x6.B,.sl 2 4 0 c9.2.length],.data (c9.2.flatMap cel74),.cells [vi so15,vi x14.B]]) (fun o15 h=>?_) (fun ro15 h=>?_) (fun so15 h=>?_)
     ·refine awp_selQ (cd h (fun hb16 h=>?_) (fun hb16 h=>?_))
      ·refine XA [(1,vi sheet),(2,vi by_),(3,rf 0),(6,rf 1),(7,.sl 3 2 0 c3.2.length),(8,vi c3.1),(9,rf 3),(10,vi c9.1),(11,rf 5)] [cs p_c,.cells [vi 0,.d dnil,.d dnil],.data (c3.2.flatMap cel71),.cells [vi x6.A,vi x6.B,.sl 2 4 0 c9.2.length],.data (c9.2.flatMap cel74),.cells [vi (w64 (x14.A+by_)),vi x14.B]] ?_
       obtain rfl:=oi h
       exact gs [0,1,2,3,4,5] [1,2,3,6,7,8,9,10,11] OutQ.norm
      ·refine awp_skip ?_
       obtain rfl:=oi h
       exact gs [0,1,2,3,4,5] [1,2,3,6,7,8,9,10,11] OutQ.norm
     ·obtain rfl:=oi h
      exact gs [0] [6] OutQ.ret
     ·show awp ..
      refine awp_seq (GB [] [(1,vi sheet),(2,vi by_),(3,rf 0),(6,rf 1),(7,.sl 3 2 0 c3.2.length),(8,vi c3.1),(9,rf 3),(10,vi c9.1),(11,rf 5),(65,vb (cond (decide (sheet<0)) true (x6.B==sheet)))] [cs p_c,.cells [vi 0,.d dnil,.d dnil],.data (c3.2.flatMap cel71),.cells [vi x6.A,vi x6.B,.sl 2 4 0 c9.2.length],.data (c9.2.flatMap cel74),.cells [vi so15,vi x14.B]] [((!(decide (sheet<0)))=true→(!(decide (sheet<0)))=true),((!(decide (sheet<0)))=true→(!(decide (sheet<0)))=true),((!(decide (sheet<0)))=true→(!(decide (sheet<0)))=true),((decide (sheet<0))=false→(!(decide (sheet<0)))=true)] (And.intro (id) (And.intro (id) (And.intro (id) (not_of)))) ?_)
      refine cd h (fun hb17 h=>?_) (fun hb17 h=>?_)
      ·refine XA [(1,vi sheet),(2,vi by_),(3,rf 0),(6,rf 1),(7,.sl 3 2 0 c3.2.length),(8,vi c3.1),(9,rf 3),(10,vi c9.1),(11,rf 5)] [cs p_c,.cells [vi 0,.d dnil,.d dnil],.data (c3.2.flatMap cel71),.cells [vi x6.A,vi x6.B,.sl 2 4 0 c9.2.length],.data (c9.2.flatMap cel74),.cells [vi so15,vi (w64 (x14.B+by_))]] ?_
       show awp ..
       obtain ⟨x18,hx18,h⟩:=ob h
       refine XB [.no,.no,.no,.no,.list (c9.2++([(⟨so15,(w64 (x14.B+by_))⟩:S_api_EdPoint)]:List S_api_EdPoint)).length ((c9.2++([(⟨so15,(w64 (x14.B+by_))⟩:S_api_EdPoint)]:List S_api_EdPoint)).flatMap cel74)] [(1,vi sheet),(2,vi by_),(3,rf 0),(6,rf 1),(7,.sl 3 2 0 c3.2.length),(8,vi c3.1),(9,rf 3),(10,vi c9.1)] [cs p_c,.cells [vi 0,.d dnil,.d dnil],.data (c3.2.flatMap cel71),.cells [vi x6.A,vi x6.B,.sl 2 4 0 (c9.2++([(⟨so15,(w64 (x14.B+by_))⟩:S_api_EdPoint)]:List S_api_EdPoint)).length],.data ((c9.2++([(⟨so15,(w64 (x14.B+by_))⟩:S_api_EdPoint)]:List S_api_EdPoint)).flatMap cel74),.cells [vi so15,vi (w64 (x14.B+by_))]] [AppendOk ((c9.2.flatMap cel74).map .d) c9.2.length ([(⟨so15,(w64 (x14.B+by_))⟩:S_api_EdPoint)]:List S_api_EdPoint).length (c9.2++([(⟨so15,(w64 (x14.B+by_))⟩:S_api_EdPoint)]:List S_api_EdPoint)).length 2 16 (([(⟨so15,(w64 (x14.B+by_))⟩:S_api_EdPoint)]:List S_api_EdPoint).flatMap cel74) ((c9.2++([(⟨so15,(w64 (x14.B+by_))⟩:S_api_EdPoint)]:List S_api_EdPoint)).flatMap cel74)] (appendOk cel74_len (need_of hx18)) ?_
       show awp ..
       refine YA [(1,vi sheet),(2,vi by_),(3,rf 0),(6,rf 1),(7,.sl 3 2 0 c3.2.length),(8,vi c3.1),(9,rf 3),(10,vi (w64 (c9.1+1)))] ?_
       exact gn 5 [1,2,3,6,7,8,9,10] (hrn10 _ h)
      ·refine awp_skip ?_
       show awp ..
       obtain ⟨x19,hx19,h⟩:=ob h
       refine XB [.no,.no,.no,.no,.list (c9.2++([(⟨so15,x14.B⟩:S_api_EdPoint)]:List S_api_EdPoint)).length ((c9.2++([(⟨so15,x14.B⟩:S_api_EdPoint)]:List S_api_EdPoint)).flatMap cel74)] [(1,vi sheet),(2,vi by_),(3,rf 0),(6,rf 1),(7,.sl 3 2 0 c3.2.length),(8,vi c3.1),(9,rf 3),(10,vi c9.1)] [cs p_c,.cells [vi 0,.d dnil,.d dnil],.data (c3.2.flatMap cel71),.cells [vi x6.A,vi x6.B,.sl 2 4 0 (c9.2++([(⟨so15,x14.B⟩:S_api_EdPoint)]:List S_api_EdPoint)).length],.data ((c9.2++([(⟨so15,x14.B⟩:S_api_EdPoint)]:List S_api_EdPoint)).flatMap cel74),.cells [vi so15,vi x14.B]] [AppendOk ((c9.2.flatMap cel74).map .d) c9.2.length ([(⟨so15,x14.B⟩:S_api_EdPoint)]:List S_api_EdPoint).length (c9.2++([(⟨so15,x14.B⟩:S_api_EdPoint)]:List S_api_EdPoint)).length 2 16 (([(⟨so15,x14.B⟩:S_api_EdPoint)]:List S_api_EdPoint).flatMap cel74) ((c9.2++([(⟨so15,x14.B⟩:S_api_EdPoint)]:List S_api_EdPoint)).flatMap cel74)] (appendOk cel74_len (need_of hx19)) ?_
       show awp ..
       refine YA [(1,vi sheet),(2,vi by_),(3,rf 0),(6,rf 1),(7,.sl 3 2 0 c3.2.length),(8,vi c3.1),(9,rf 3),(10,vi (w64 (c9.1+1)))] ?_
       exact gn 5 [1,2,3,6,7,8,9,10] (hrn10 _ h)
    ·refine awp_exit ?_
     obtain rfl:=oi h
     exact gs [0,1,2,3,4] [1,2,3,6,7,8,9] OutQ.norm
   ·obtain rfl:=oi h
    exact gs [0] [6] OutQ.ret
   ·show awp ..
    refine awp_freezeC 3 2 4 (so8.flatMap cel74) [vi x6.A,vi x6.B,.sl 2 4 0 so8.length] (.sl 2 4 0 so8.length) (.d (L74 so8)) _ _ (ps:=[(so8.flatMap cel74).length=so8.length*2]) (by kernel_rfl) (by kernel_rfl) (by kernel_rfl) (by kernel_rfl) (flatMap_len cel74 2 cel74_len so8) rfl rfl ?_
    refine WA 5 [(1,vi sheet),(2,vi by_),(3,rf 0),(6,rf 1),(7,.sl 3 2 0 c3.2.length),(8,vi c3.1),(9,rf 3)] [cs p_c,.cells [vi 0,.d dnil,.d dnil],.data (c3.2.flatMap cel71),.cells [vi x6.A,vi x6.B,.d (L74 so8)],.data (([]:List S_api_EdPoint).flatMap cel74)] ?_
    obtain ⟨x20,hx20,h⟩:=ob h
    refine XB [.no,.no,.no,.list (c3.2++([(⟨x6.A,x6.B,so8⟩:S_api_EdEdge)]:List S_api_EdEdge)).length ((c3.2++([(⟨x6.A,x6.B,so8⟩:S_api_EdEdge)]:List S_api_EdEdge)).flatMap cel71)] [(1,vi sheet),(2,vi by_),(3,rf 0),(6,rf 1),(7,.sl 3 2 0 (c3.2++([(⟨x6.A,x6.B,so8⟩:S_api_EdEdge)]:List S_api_EdEdge)).length),(8,vi c3.1)] [cs p_c,.cells [vi 0,.d dnil,.d dnil],.data ((c3.2++([(⟨x6.A,x6.B,so8⟩:S_api_EdEdge)]:List S_api_EdEdge)).flatMap cel71),.cells [vi x6.A,vi x6.B,.d (L74 so8)],.data (([]:List S_api_EdPoint).flatMap cel74)] [AppendOk ((c3.2.flatMap cel71).map .d) c3.2.length ([(⟨x6.A,x6.B,so8⟩:S_api_EdEdge)]:List S_api_EdEdge).length (c3.2++([(⟨x6.A,x6.B,so8⟩:S_api_EdEdge)]:List S_api_EdEdge)).length 3 40 (([(⟨x6.A,x6.B,so8⟩:S_api_EdEdge)]:List S_api_EdEdge).flatMap cel71) ((c3.2++([(⟨x6.A,x6.B,so8⟩:S_api_EdEdge)]:List S_api_EdEdge)).flatMap cel71)] (appendOk cel71_len (need_of hx20)) ?_
    show awp ..
    refine YA [(1,vi sheet),(2,vi by_),(3,rf 0),(6,rf 1),(7,.sl 3 2 0 (c3.2++([(⟨x6.A,x6.B,so8⟩:S_api_EdEdge)]:List S_api_EdEdge)).length),(8,vi (w64 (c3.1+1)))] ?_
    exact gn 3 [1,2,3,6,7,8] (hrn4 _ h)
  ·refine awp_exit ?_
   obtain rfl:=oi h
   exact gs [0,1,2] [3,6,7] OutQ.norm
 ·obtain rfl:=oi h
  exact gm
 ·show awp ..
  refine GA [(3,rf 0),(6,rf 1)] [.cells [vi p_c.Tol,.d (L66 p_c.Sheets),.sl 3 2 0 so2.length],.cells [vi 0,.d dnil,.d dnil],.data (so2.flatMap cel71)] ?_
  refine GA [(6,rf 1)] [.cells [vi p_c.Tol,.d (L66 p_c.Sheets),.sl 3 2 0 so2.length],.cells [vi p_c.Tol,.d (L66 p_c.Sheets),.sl 3 2 0 so2.length],.data (so2.flatMap cel71)] ?_
  obtain rfl:=oi h
  refine WB 3 [(6,rf 1)] ?_
  refine awp_freezeC 1 2 2 (so2.flatMap cel71) [vi p_c.Tol,.d (L66 p_c.Sheets),.sl 3 2 0 so2.length] (.sl 3 2 0 so2.length) (.d (L71 so2)) _ _ (ps:=[(so2.flatMap cel71).length=so2.length*3]) (by kernel_rfl) (by kernel_rfl) (by kernel_rfl) (by kernel_rfl) (flatMap_len cel71 3 cel71_len so2) rfl rfl ?_
  refine WA 3 [(6,rf 1)] [.cells [vi p_c.Tol,.d (L66 p_c.Sheets),.top],.cells [vi p_c.Tol,.d (L66 p_c.Sheets),.d (L71 so2)],.data (([]:List S_api_EdEdge).flatMap cel71)] ?_
  exact awp_ret gm
theorem ct14 {fuel:Nat}  {p_c:S_api_EdCase} {by_:Int} {which:S__2quint8} {res:Bool} (h:F14 fuel p_c by_ which=some res):PCall Try.prog 14 [(ca p_c),(.v (.int .u16 by_)),(.agg [(.v (.int .u8 which.e0)),(.v (.int .u8 which.e1))])] (vb res):=by
 refine PCall.of_awp tt_ok (N:=175) Try.func14 rfl (by kernel_rfl) rfl (Nat.le_of_ble_eq_true rfl) rfl ?_
 unfold F14 at h
 refine GA [(1,.d (.v (.int .u16 by_))),(3,rf 0),(5,rf 1)] [cs p_c,.cells [.d (.v (.int .u8 which.e0)),.d (.v (.int .u8 which.e1))]] ?_
 refine awp_seq ?_
 obtain ⟨x1,hx1,h⟩:=ob h
 refine HB [.no,.call [(ca p_c)] (vb x1)] [(1,.d (.v (.int .u16 by_))),(3,rf 0),(5,rf 1),(29,vb (!x1))] [PCall Try.prog 36 [(ca p_c)] (vb x1)] (ct36 hx1) ?_
 refine cd h (fun hb2 h=>?_) (fun hb2 h=>?_)
 ·obtain ⟨x3,hx3,h⟩:=ob h
  refine GB [.call [] (vb x3)] [(6,vb x3)] [cs p_c,.cells [.d (.v (.int .u8 which.e0)),.d (.v (.int .u8 which.e1))]] [PCall Try.prog 24 [] (vb x3)] (ct24 hx3) ?_
  obtain rfl:=oi h
  refine WB 2 [(6,vb x3)] ?_
  exact awp_ret gm
 ·refine awp_skip ?_
  show awp ..
  refine GA [(3,rf 0),(5,rf 1),(7,vi (IntKind.i64.wrap by_))] [cs p_c,.cells [.d (.v (.int .u8 which.e0)),.d (.v (.int .u8 which.e1))]] ?_
  obtain ⟨x4,hx4,h⟩:=ob h
  refine GB [.no,.no,.call [(ca p_c),(di (-1)),(di (IntKind.i64.wrap by_))] (.d (ca x4))] [(3,rf 0),(5,rf 1),(7,vi (IntKind.i64.wrap by_)),(8,rf 2)] [cs p_c,.cells [.d (.v (.int .u8 which.e0)),.d (.v (.int .u8 which.e1))],cs x4] [PCall Try.prog 47 [(ca p_c),(di (-1)),(di (IntKind.i64.wrap by_))] (.d (ca x4))] (ct47 hx4) ?_
  refine awp_seq ?_
  obtain ⟨x5,hx5,h⟩:=ob h
  refine HB [.no,.call [(ca x4)] (vb x5)] [(3,rf 0),(5,rf 1),(7,vi (IntKind.i64.wrap by_)),(8,rf 2),(37,vb x5)] [PCall Try.prog 36 [(ca x4)] (vb x5)] (ct36 hx5) ?_
  refine cuo h (fun (ro6:Bool)=>[(6,vb ro6)]) (fun (ro6:Bool)=>[]) (fun (so6:Unit)=>[(3,rf 0),(5,rf 1),(7,vi (IntKind.i64.wrap by_))]) (fun (so6:Unit)=>[cs p_c,.cells [.d (.v (.int .u8 which.e0)),.d (.v (.int .u8 which.e1))],cs x4]) (fun o6 h=>?_) (fun ro6 h=>?_) (fun so6 h=>?_)
  ·refine awp_selQ (cd h (fun hb7 h=>?_) (fun hb7 h=>?_))
   ·obtain ⟨x8,hx8,h⟩:=ob h
    refine GB [.no,.call [(ca p_c)] (.tup [.d (L3 x8.1),vi x8.2.1,vi x8.2.2])] [(3,rf 0),(5,rf 1),(7,vi (IntKind.i64.wrap by_)),(8,rf 2),(9,.d (L3 x8.1)),(10,vi x8.2.1),(11,vi x8.2.2)] [cs p_c,.cells [.d (.v (.int .u8 which.e0)),.d (.v (.int .u8 which.e1))],cs x4] [PCall Try.prog 27 [(ca p_c)] (.tup [.d (L3 x8.1),vi x8.2.1,vi x8.2.2])] (ct27 hx8) ?_
    obtain ⟨x9,hx9,h⟩:=ob h
    refine HB [.no,.call [(ca x4)] (.tup [.d (L3 x9.1),vi x9.2.1,vi x9.2.2])] [(3,rf 0),(5,rf 1),(7,vi (IntKind.i64.wrap by_)),(8,rf 2),(9,.d (L3 x8.1)),(10,vi x8.2.1),(11,vi x8.2.2),(12,.d (L3 x9.1)),(13,vi x9.2.1),(14,vi x9.2.2)] [PCall Try.prog 27 [(ca x4)] (.tup [.d (L3 x9.1),vi x9.2.1,vi x9.2.2])] (ct27 hx9) ?_
    obtain ⟨x10,hx10,h⟩:=ob h
    refine HB [.no,.call [(ca p_c)] (.tup [.d (L3 x10.1),vi x10.2])] [(3,rf 0),(5,rf 1),(7,vi (IntKind.i64.wrap by_)),(8,rf 2),(9,.d (L3 x8.1)),(10,vi x8.2.1),(11,vi x8.2.2),(12,.d (L3 x9.1)),(13,vi x9.2.1),(14,vi x9.2.2),(15,.d (L3 x10.1)),(16,vi x10.2)] [PCall Try.prog 32 [(ca p_c)] (.tup [.d (L3 x10.1),vi x10.2])] (ct32 hx10) ?_
    obtain ⟨x11,hx11,h⟩:=ob h
    refine HB [.no,.call [(ca x4)] (.tup [.d (L3 x11.1),vi x11.2])] [(3,rf 0),(5,rf 1),(7,vi (IntKind.i64.wrap by_)),(9,.d (L3 x8.1)),(10,vi x8.2.1),(11,vi x8.2.2),(12,.d (L3 x9.1)),(13,vi x9.2.1),(14,vi x9.2.2),(15,.d (L3 x10.1)),(16,vi x10.2),(17,.d (L3 x11.1)),(18,vi x11.2)] [PCall Try.prog 32 [(ca x4)] (.tup [.d (L3 x11.1),vi x11.2])] (ct32 hx11) ?_
    obtain ⟨x12,hx12,h⟩:=ob h
    obtain ⟨x13,hx13,h⟩:=ob h
    refine HB [.no,.no,.call [(L3 x8.1),(L3 x9.1)] (vb x12),.no,.no,.no,.no,.no,.no,.no,.no,.no,.no,.no,.no,.no,.no,.call [(L3 x10.1),(L3 x11.1)] (vb x13)] [(3,rf 0),(5,rf 1),(7,vi (IntKind.i64.wrap by_)),(84,vb (cond (cond (cond (cond (!x12) true (x8.2.1 != x9.2.1)) true (x8.2.2 != x9.2.2)) true (!x13)) true (x10.2 != x11.2)))] [PCall Try.prog 29 [(L3 x8.1),(L3 x9.1)] (vb x12),((!(!x12))=true→(!(!x12))=true),((!(!x12))=true→(!(!x12))=true),((!x12)=false→(!(!x12))=true),((!(cond (!x12) true (x8.2.1 != x9.2.1)))=true→(!(cond (!x12) true (x8.2.1 != x9.2.1)))=true),((!(cond (!x12) true (x8.2.1 != x9.2.1)))=true→(!(cond (!x12) true (x8.2.1 != x9.2.1)))=true),((cond (!x12) true (x8.2.1 != x9.2.1))=false→(!(cond (!x12) true (x8.2.1 != x9.2.1)))=true),((!(cond (cond (!x12) true (x8.2.1 != x9.2.1)) true (x8.2.2 != x9.2.2)))=true→(!(cond (cond (!x12) true (x8.2.1 != x9.2.1)) true (x8.2.2 != x9.2.2)))=true),((!(cond (cond (!x12) true (x8.2.1 != x9.2.1)) true (x8.2.2 != x9.2.2)))=true→(!(cond (cond (!x12) true (x8.2.1 != x9.2.1)) true (x8.2.2 != x9.2.2)))=true),((!(cond (cond (!x12) true (x8.2.1 != x9.2.1)) true (x8.2.2 != x9.2.2)))=true→PCall Try.prog 29 [(L3 x10.1),(L3 x11.1)] (vb x13)),((!(cond (cond (!x12) true (x8.2.1 != x9.2.1)) true (x8.2.2 != x9.2.2)))=true→(!(cond (cond (!x12) true (x8.2.1 != x9.2.1)) true (x8.2.2 != x9.2.2)))=true),((cond (cond (!x12) true (x8.2.1 != x9.2.1)) true (x8.2.2 != x9.2.2))=false→(!(cond (cond (!x12) true (x8.2.1 != x9.2.1)) true (x8.2.2 != x9.2.2)))=true),((!(cond (cond (cond (!x12) true (x8.2.1 != x9.2.1)) true (x8.2.2 != x9.2.2)) true (!x13)))=true→(!(cond (cond (cond (!x12) true (x8.2.1 != x9.2.1)) true (x8.2.2 != x9.2.2)) true (!x13)))=true),((!(cond (cond (cond (!x12) true (x8.2.1 != x9.2.1)) true (x8.2.2 != x9.2.2)) true (!x13)))=true→(!(cond (cond (cond (!x12) true (x8.2.1 != x9.2.1)) true (x8.2.2 != x9.2.2)) true (!x13)))=true),((cond (cond (cond (!x12) true (x8.2.1 != x9.2.1)) true (x8.2.2 != x9.2.2)) true (!x13))=false→(!(cond (cond (cond (!x12) true (x8.2.1 != x9.2.1)) true (x8.2.2 != x9.2.2)) true (!x13)))=true)] (And.intro (ct29 hx12) (And.intro (id) (And.intro (id) (And.intro (not_of) (And.intro (id) (And.intro (id) (And.intro (not_of) (And.intro (id) (And.intro (id) (And.intro ((fun hg=>ct29 (optG_of hx13 hg))) (And.intro (id) (And.intro (not_of) (And.intro (id) (And.intro (id) (not_of))))))))))))))) ?_
    refine cd h (fun hb14 h=>?_) (fun hb14 h=>?_)
    ·refine GA [(6,vb false)] [cs p_c,.cells [.d (.v (.int .u8 which.e0)),.d (.v (.int .u8 which.e1))],cs x4] ?_
     obtain rfl:=oi h
     refine WB 3 [(6,vb false)] ?_
     exact awp_ret (gs [] [6] OutQ.ret)
    ·refine awp_skip ?_
     obtain rfl:=oi h
     exact gs [0,1,2] [3,5,7] OutQ.norm
   ·refine awp_skip ?_
    obtain rfl:=oi h
    exact gs [0,1,2] [3,5,7] OutQ.norm
  ·obtain rfl:=oi h
   exact gm
  ·show awp ..
   obtain ⟨x15,hx15,h⟩:=ob h
   refine GB [] [(3,rf 0),(5,rf 1),(7,vi (IntKind.i64.wrap by_)),(19,vi ((IntKind.i64.wrap which.e0).tmod (p_c.Sheets.length:Int)))] [cs p_c,.cells [.d (.v (.int .u8 which.e0)),.d (.v (.int .u8 which.e1))],cs x4] [(0≤(0:Int)∧(0:Int)<(2:Int)),((p_c.Sheets.length:Int)≠0)] (And.intro ((by decide:0≤(0:Int)∧(0:Int)<(2:Int))) ((need_of hx15:(p_c.Sheets.length:Int)≠0))) ?_
   obtain ⟨x16,hx16,h⟩:=ob h
   refine GB [.no,.no,.no,.call [(ca p_c),(di ((IntKind.i64.wrap which.e0).tmod (p_c.Sheets.length:Int))),(di (IntKind.i64.wrap by_))] (.d (ca x16))] [(3,rf 0),(5,rf 1),(7,vi (IntKind.i64.wrap by_)),(19,vi ((IntKind.i64.wrap which.e0).tmod (p_c.Sheets.length:Int))),(20,rf 3)] [cs p_c,.cells [.d (.v (.int .u8 which.e0)),.d (.v (.int .u8 which.e1))],cs x4,cs x16] [PCall Try.prog 47 [(ca p_c),(di ((IntKind.i64.wrap which.e0).tmod (p_c.Sheets.length:Int))),(di (IntKind.i64.wrap by_))] (.d (ca x16))] (ct47 hx16) ?_
   refine awp_seq ?_
   obtain ⟨x17,hx17,h⟩:=ob h
   refine HB [.no,.call [(ca x16)] (vb x17)] [(3,rf 0),(5,rf 1),(7,vi (IntKind.i64.wrap by_)),(19,vi ((IntKind.i64.wrap which.e0).tmod (p_c.Sheets.length:Int))),(20,rf 3),(104,vb (cond (!x17) true ((p_c.Edges.length:Int)==0)))] [PCall Try.prog 36 [(ca x16)] (vb x17),((!(!x17))=true→(!(!x17))=true),((!(!x17))=true→(!(!x17))=true),((!(!x17))=true→(!(!x17))=true),((!x17)=false→(!(!x17))=true)] (And.intro (ct36 hx17) (And.intro (id) (And.intro (id) (And.intro (id) (not_of))))) ?_
   refine cd h (fun hb18 h=>?_) (fun hb18 h=>?_)
   ·obtain ⟨x19,hx19,h⟩:=ob h
    refine GB [.call [] (vb x19)] [(6,vb x19)] [cs p_c,.cells [.d (.v (.int .u8 which.e0)),.d (.v (.int .u8 which.e1))],cs x4,cs x16] [PCall Try.prog 24 [] (vb x19)] (ct24 hx19) ?_
    obtain rfl:=oi h
    refine WB 4 [(6,vb x19)] ?_
    exact awp_ret gm
   ·refine awp_skip ?_
    show awp ..
    obtain ⟨x20,hx20,h⟩:=ob h
    refine GB [] [(3,rf 0),(7,vi (IntKind.i64.wrap by_)),(19,vi ((IntKind.i64.wrap which.e0).tmod (p_c.Sheets.length:Int))),(20,rf 3),(21,vi ((IntKind.i64.wrap which.e1).tmod (p_c.Edges.length:Int)))] [cs p_c,.cells [.d (.v (.int .u8 which.e0)),.d (.v (.int .u8 which.e1))],cs x4,cs x16] [(0≤(1:Int)∧(1:Int)<(2:Int)),((p_c.Edges.length:Int)≠0)] (And.intro ((by decide:0≤(1:Int)∧(1:Int)<(2:Int))) ((need_of hx20:(p_c.Edges.length:Int)≠0))) ?_
    obtain ⟨x21,hx21,h⟩:=ob h
    refine GB [.no,.no,.call [(ca p_c),(di ((IntKind.i64.wrap which.e1).tmod (p_c.Edges.length:Int)))] (.tup [.d (.agg [(di x21.1.Lo),(di x21.1.Hi)]),vi x21.2])] [(3,rf 0),(7,vi (IntKind.i64.wrap by_)),(19,vi ((IntKind.i64.wrap which.e0).tmod (p_c.Sheets.length:Int))),(20,rf 3),(21,vi ((IntKind.i64.wrap which.e1).tmod (p_c.Edges.length:Int))),(22,rf 4),(23,vi x21.2)] [cs p_c,.cells [.d (.v (.int .u8 which.e0)),.d (.v (.int .u8 which.e1))],cs x4,cs x16,.cells [vi x21.1.Lo,vi x21.1.Hi]] [PCall Try.prog 18 [(ca p_c),(di ((IntKind.i64.wrap which.e1).tmod (p_c.Edges.length:Int)))] (.tup [.d (.agg [(di x21.1.Lo),(di x21.1.Hi)]),vi x21.2])] (ct18 hx21) ?_
    obtain ⟨x22,hx22,h⟩:=ob h
    refine GB [.no,.no,.call [(ca x16),(di ((IntKind.i64.wrap which.e1).tmod (p_c.Edges.length:Int)))] (.tup [.d (.agg [(di x22.1.Lo),(di x22.1.Hi)]),vi x22.2])] [(3,rf 0),(7,vi (IntKind.i64.wrap by_)),(19,vi ((IntKind.i64.wrap which.e0).tmod (p_c.Sheets.length:Int))),(21,vi ((IntKind.i64.wrap which.e1).tmod (p_c.Edges.length:Int))),(22,rf 4),(23,vi x21.2),(24,rf 5),(25,vi x22.2)] [cs p_c,.cells [.d (.v (.int .u8 which.e0)),.d (.v (.int .u8 which.e1))],cs x4,cs x16,.cells [vi x21.1.Lo,vi x21.1.Hi],.cells [vi x22.1.Lo,vi x22.1.Hi]] [PCall Try.prog 18 [(ca x16),(di ((IntKind.i64.wrap which.e1).tmod (p_c.Edges.length:Int)))] (.tup [.d (.agg [(di x22.1.Lo),(di x22.1.Hi)]),vi x22.2])] (ct18 hx22) ?_
    refine awp_seq (HB [] [(3,rf 0),(7,vi (IntKind.i64.wrap by_)),(19,vi ((IntKind.i64.wrap which.e0).tmod (p_c.Sheets.length:Int))),(21,vi ((IntKind.i64.wrap which.e1).tmod (p_c.Edges.length:Int))),(22,rf 4),(23,vi x21.2),(24,rf 5),(25,vi x22.2),(131,vb (cond (x21.2 != x22.2) true (x21.2 != 0)))] [((!(x21.2 != x22.2))=true→(!(x21.2 != x22.2))=true),((x21.2 != x22.2)=false→(!(x21.2 != x22.2))=true)] (And.intro (id) (not_of)) ?_)
    refine cd h (fun hb23 h=>?_) (fun hb23 h=>?_)
    ·obtain ⟨x24,hx24,h⟩:=ob h
     refine GB [.no,.no,.no,.no,.no,.no,.no,.no,.call [] (vb x24)] [(6,vb (cond (cond (x21.2==x22.2) (x21.2==9) false) x24 false))] [cs p_c,.cells [.d (.v (.int .u8 which.e0)),.d (.v (.int .u8 which.e1))],cs x4,cs x16,.cells [vi x21.1.Lo,vi x21.1.Hi],.cells [vi x22.1.Lo,vi x22.1.Hi]] [((x21.2==x22.2)=true→(x21.2==x22.2)=true),((x21.2==x22.2)=true→(x21.2==x22.2)=true),((cond (x21.2==x22.2) (x21.2==9) false)=true→PCall Try.prog 24 [] (vb x24)),((cond (x21.2==x22.2) (x21.2==9) false)=true→(cond (x21.2==x22.2) (x21.2==9) false)=true)] (And.intro (id) (And.intro (id) (And.intro ((fun hg=>ct24 (optG_of hx24 hg))) (id)))) ?_
     obtain rfl:=oi h
     refine WB 6 [(6,vb (cond (cond (x21.2==x22.2) (x21.2==9) false) x24 false))] ?_
     exact awp_ret gm
    ·refine awp_skip ?_
     show awp ..
     refine GA [(3,rf 0),(7,vi (IntKind.i64.wrap by_)),(19,vi ((IntKind.i64.wrap which.e0).tmod (p_c.Sheets.length:Int))),(21,vi ((IntKind.i64.wrap which.e1).tmod (p_c.Edges.length:Int))),(22,rf 4),(24,rf 5),(26,vi 0)] [cs p_c,.cells [.d (.v (.int .u8 which.e0)),.d (.v (.int .u8 which.e1))],cs x4,cs x16,.cells [vi x21.1.Lo,vi x21.1.Hi],.cells [vi x22.1.Lo,vi x22.1.Hi]] ?_
     refine awp_seq ?_
     obtain ⟨x25,hx25,h⟩:=ob h
     refine HB [.no,.no,.no,.cells (cel71 x25)] [(3,rf 0),(7,vi (IntKind.i64.wrap by_)),(19,vi ((IntKind.i64.wrap which.e0).tmod (p_c.Sheets.length:Int))),(21,vi ((IntKind.i64.wrap which.e1).tmod (p_c.Edges.length:Int))),(22,rf 4),(24,rf 5),(26,vi 0),(149,vb (x25.A==((IntKind.i64.wrap which.e0).tmod (p_c.Sheets.length:Int))))] [IX71 p_c.Edges ((IntKind.i64.wrap which.e1).tmod (p_c.Edges.length:Int)) x25] (idxOk cel71_len hx25) ?_
     refine cuo h (fun (ro26:Bool)=>[(6,vb ro26)]) (fun (ro26:Bool)=>[]) (fun (so26:Int)=>[(3,rf 0),(7,vi (IntKind.i64.wrap by_)),(19,vi ((IntKind.i64.wrap which.e0).tmod (p_c.Sheets.length:Int))),(21,vi ((IntKind.i64.wrap which.e1).tmod (p_c.Edges.length:Int))),(22,rf 4),(24,rf 5),(26,vi so26)]) (fun (so26:Int)=>[cs p_c,.cells [.d (.v (.int .u8 which.e0)),.d (.v (.int .u8 which.e1))],cs x4,cs x16,.cells [vi x21.1.Lo,vi x21.1.Hi],.cells [vi x22.1.Lo,vi x22.1.Hi]]) (fun o26 h=>?_) (fun ro26 h=>?_) (fun so26 h=>?_)
     ·refine awp_selQ (cd h (fun hb27 h=>?_) (fun hb27 h=>?_))
      ·refine XA [(3,rf 0),(7,vi (IntKind.i64.wrap by_)),(19,vi ((IntKind.i64.wrap which.e0).tmod (p_c.Sheets.length:Int))),(21,vi ((IntKind.i64.wrap which.e1).tmod (p_c.Edges.length:Int))),(22,rf 4),(24,rf 5),(26,vi (w64 (0-(IntKind.i64.wrap by_))))] [cs p_c,.cells [.d (.v (.int .u8 which.e0)),.d (.v (.int .u8 which.e1))],cs x4,cs x16,.cells [vi x21.1.Lo,vi x21.1.Hi],.cells [vi x22.1.Lo,vi x22.1.Hi]] ?_
       obtain rfl:=oi h
       exact gs [0,1,2,3,4,5] [3,7,19,21,22,24,26] OutQ.norm
      ·refine awp_skip ?_
       obtain rfl:=oi h
       exact gs [0,1,2,3,4,5] [3,7,19,21,22,24,26] OutQ.norm
     ·obtain rfl:=oi h
      exact gm
     ·show awp ..
      refine awp_seq ?_
      obtain ⟨x28,hx28,h⟩:=ob h
      refine GB [.no,.no,.no,.cells (cel71 x28)] [(7,vi (IntKind.i64.wrap by_)),(22,rf 4),(24,rf 5),(26,vi so26),(159,vb (x28.B==((IntKind.i64.wrap which.e0).tmod (p_c.Sheets.length:Int))))] [cs p_c,.cells [.d (.v (.int .u8 which.e0)),.d (.v (.int .u8 which.e1))],cs x4,cs x16,.cells [vi x21.1.Lo,vi x21.1.Hi],.cells [vi x22.1.Lo,vi x22.1.Hi]] [IX71 p_c.Edges ((IntKind.i64.wrap which.e1).tmod (p_c.Edges.length:Int)) x28] (idxOk cel71_len hx28) ?_
      refine cd h (fun hb29 h=>?_) (fun hb29 h=>?_)
      ·refine XA [(22,rf 4),(24,rf 5),(26,vi (IntKind.i64.wrap by_))] [cs p_c,.cells [.d (.v (.int .u8 which.e0)),.d (.v (.int .u8 which.e1))],cs x4,cs x16,.cells [vi x21.1.Lo,vi x21.1.Hi],.cells [vi x22.1.Lo,vi x22.1.Hi]] ?_
       show awp ..
       obtain ⟨x30,hx30,h⟩:=ob h
       obtain ⟨x31,hx31,h⟩:=ob h
       refine hd [6] [.no,.no,.no,.no,.no,.no,.no,.no,.no,.call [(di (w64 (x21.1.Lo+(IntKind.i64.wrap by_)))),(di (w64 (x21.1.Hi+(IntKind.i64.wrap by_))))] (.d (.agg [(di x30.Lo),(di x30.Hi)])),.no,.no,.call [] (vb x31)] 10 [6,161,170,171,172,173,174] [(6,vb (cond ((x22.1.Lo==x30.Lo)&&(x22.1.Hi==x30.Hi)) x31 false))] [PCall Try.prog 35 [(di (w64 (x21.1.Lo+(IntKind.i64.wrap by_)))),(di (w64 (x21.1.Hi+(IntKind.i64.wrap by_))))] (.d (.agg [(di x30.Lo),(di x30.Hi)])),(((x22.1.Lo==x30.Lo)&&(x22.1.Hi==x30.Hi))=true→PCall Try.prog 24 [] (vb x31)),(((x22.1.Lo==x30.Lo)&&(x22.1.Hi==x30.Hi))=true→((x22.1.Lo==x30.Lo)&&(x22.1.Hi==x30.Hi))=true)] (And.intro (ct35 hx30) (And.intro ((fun hg=>ct24 (optG_of hx31 hg))) (id))) ?_
       obtain rfl:=oi h
       refine WB 6 [(6,vb (cond ((x22.1.Lo==x30.Lo)&&(x22.1.Hi==x30.Hi)) x31 false))] ?_
       exact awp_ret gm
      ·refine awp_skip ?_
       show awp ..
       obtain ⟨x32,hx32,h⟩:=ob h
       obtain ⟨x33,hx33,h⟩:=ob h
       refine sd [6] [.no,.no,.no,.no,.no,.no,.no,.no,.no,.call [(di (w64 (x21.1.Lo+so26))),(di (w64 (x21.1.Hi+so26)))] (.d (.agg [(di x32.Lo),(di x32.Hi)])),.no,.no,.call [] (vb x33)] 10 [6,161,170,171,172,173,174] [(6,vb (cond ((x22.1.Lo==x32.Lo)&&(x22.1.Hi==x32.Hi)) x33 false))] [cs p_c,.cells [.d (.v (.int .u8 which.e0)),.d (.v (.int .u8 which.e1))],cs x4,cs x16,.cells [vi x21.1.Lo,vi x21.1.Hi],.cells [vi x22.1.Lo,vi x22.1.Hi]] [PCall Try.prog 35 [(di (w64 (x21.1.Lo+so26))),(di (w64 (x21.1.Hi+so26)))] (.d (.agg [(di x32.Lo),(di x32.Hi)])),(((x22.1.Lo==x32.Lo)&&(x22.1.Hi==x32.Hi))=true→PCall Try.prog 24 [] (vb x33)),(((x22.1.Lo==x32.Lo)&&(x22.1.Hi==x32.Hi))=true→((x22.1.Lo==x32.Lo)&&(x22.1.Hi==x32.Hi))=true)] (And.intro (ct35 hx32) (And.intro ((fun hg=>ct24 (optG_of hx33 hg))) (id))) ?_
       obtain rfl:=oi h
       refine WB 6 [(6,vb (cond ((x22.1.Lo==x32.Lo)&&(x22.1.Hi==x32.Hi)) x33 false))] ?_
       exact awp_ret gm
end Go.Proofs.Ytallnifoeahpiaa
