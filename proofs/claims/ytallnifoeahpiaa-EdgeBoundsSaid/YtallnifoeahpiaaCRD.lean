/- That functions of the seat compute this. Printed by a program of mine. -/
import Derived.Test.YtallnifoeahpiaaS
import Derived.Test.YtallnifoeahpiaaCRA
import Derived.Test.YtallnifoeahpiaaCRF
import Derived.Test.YtallnifoeahpiaaDRD
namespace Go.Proofs.Ytallnifoeahpiaa
open Go Go.Sx
set_option maxRecDepth 100000
set_option linter.unusedVariables false
theorem ct74B {fuel:Nat} {rec30:(List Int)→Int→Int→Option ((List (List Int)))} (hrec30:∀(begin:(List Int)) (many:Int) (below:Int) (res:(List (List Int))),rec30 begin many below=some res→PCall Try.prog 74 [(L3 begin),(di many),(di below)] (.d (L26 res))) {begin:(List Int)} {many:Int} {below:Int} {res:(List (List Int))} (h:B74 fuel rec30 begin many below=some res):PCall Try.prog 74 [(L3 begin),(di many),(di below)] (.d (L26 res)):=by
 refine PCall.of_awp tt_ok (N:=43) Try.func74 rfl (by kernel_rfl) rfl (Nat.le_of_ble_eq_true rfl) rfl ?_
 unfold B74 at h
 refine GA [(0,.d (L3 begin)),(1,vi many),(2,vi below)] [] ?_
 refine awp_seq (HA [(0,.d (L3 begin)),(1,vi many),(2,vi below),(11,vb (many==0))] ?_)
 refine cd h (fun hb1 h=>?_) (fun hb1 h=>?_)
 ·refine GA [(6,.d (L26 ([begin]:List (List Int))))] [] ?_
  obtain rfl:=oi h
  refine WB 0 [(6,.d (L26 ([begin]:List (List Int))))] ?_
  exact awp_ret gm
 ·refine awp_skip ?_
  show awp ..
  refine GA [(0,.d (L3 begin)),(1,vi many),(2,vi below),(7,vi 0)] [] ?_
  refine awp_seq (HA [(0,.d (L3 begin)),(1,vi many),(2,vi below),(7,vi 0),(16,vb (decide ((begin.length:Int)>0)))] ?_)
  refine cuo h (fun (ro2:(List (List Int)))=>[(6,.d (L26 ro2))]) (fun (ro2:(List (List Int)))=>[]) (fun (so2:Int)=>[(0,.d (L3 begin)),(1,vi many),(2,vi below),(7,vi so2)]) (fun (so2:Int)=>[]) (fun o2 h=>?_) (fun ro2 h=>?_) (fun so2 h=>?_)
  ·refine awp_selQ (cd h (fun hb3 h=>?_) (fun hb3 h=>?_))
   ·obtain ⟨x4,hx4,h⟩:=ob h
    refine XB [.no,.no,.no,.no,.cells (cel3 x4)] [(0,.d (L3 begin)),(1,vi many),(2,vi below),(7,vi (w64 (x4+1)))] [] [IX3 begin (w64 ((begin.length:Int)-1)) x4] (idxOk cel3_len hx4) ?_
    obtain rfl:=oi h
    exact gs [] [0,1,2,7] OutQ.norm
   ·refine awp_skip ?_
    obtain rfl:=oi h
    exact gs [] [0,1,2,7] OutQ.norm
  ·obtain rfl:=oi h
   exact gm
  ·show awp ..
   refine GA [(0,.d (L3 begin)),(1,vi many),(2,vi below),(7,vi so2),(8,.d dnil)] [] ?_
   refine awp_seq (HA [(0,.d (L3 begin)),(1,vi many),(2,vi below),(8,.d dnil),(9,vi so2)] ?_)
   refine awp_nil 8 1 (by kernel_rfl) ?_
   refine awp_eq (T':=[(8,.sl 1 0 0 ([]:List (List Int)).length),(0,.d (L3 begin)),(1,vi many),(2,vi below),(9,vi so2)]) (H':=[.data (([]:List (List Int)).flatMap cel26)]) (by kernel_rfl) (by kernel_rfl) ?_
   refine WA 1 [(0,.d (L3 begin)),(1,vi many),(2,vi below),(8,.sl 1 0 0 ([]:List (List Int)).length),(9,vi so2)] [.data (([]:List (List Int)).flatMap cel26)] ?_
   refine cuo h (fun (ro6:(List (List Int)))=>[(6,.d (L26 ro6))]) (fun (ro6:(List (List Int)))=>[]) (fun (so6:(List (List Int)))=>[(8,.sl 1 0 0 so6.length)]) (fun (so6:(List (List Int)))=>[.data (so6.flatMap cel26)]) (fun o6 h=>?_) (fun ro6 h=>?_) (fun so6 h=>?_)
   ·refine awp_selQ (WA 1 [(0,.d (L3 begin)),(1,vi many),(2,vi below),(8,.sl 1 0 0 ([]:List (List Int)).length),(9,vi so2)] [.data (([]:List (List Int)).flatMap cel26)] ?_)
    refine awp_block (awp_loop (n:=fuel) ?_)
    refine awpN_ind (fun n (c7:Int×(List (List Int)))=>F74L1 rec30 begin many below n c7) o6 (fun (c7:Int×(List (List Int)))=>[(0,.d (L3 begin)),(1,vi many),(2,vi below),(8,.sl 1 0 0 c7.2.length),(9,vi c7.1)]) (fun (c7:Int×(List (List Int)))=>[.data (c7.2.flatMap cel26)]) (fun _=>rfl) ?_ fuel (so2,([]:List (List Int))) h
    clear h
    intro n8 c7 h hrn8
    change F74L1 rec30 begin many below (n8+1) c7=some o6 at h
    rw [F74L1] at h
    refine awp_seq (GA [(0,.d (L3 begin)),(1,vi many),(2,vi below),(8,.sl 1 0 0 c7.2.length),(9,vi c7.1),(27,vb (decide (c7.1<below)))] [.data (c7.2.flatMap cel26)] ?_)
    refine cd h (fun hb9 h=>?_) (fun hb9 h=>?_)
    ·refine awp_skip ?_
     show awp ..
     refine awp_seq (awp_block ?_)
     obtain ⟨x10,hx10,h⟩:=ob h
     obtain ⟨x11,hx11,h⟩:=ob h
     obtain ⟨x12,hx12,h⟩:=ob h
     obtain ⟨x13,hx13,h⟩:=ob h
     refine awp_rsplit tt_ok 10 [.no,.own,.no,.list (([]:List Int)++begin).length ((([]:List Int)++begin).flatMap cel3),.no,.no,.list ((([]:List Int)++begin)++([c7.1]:List Int)).length (((([]:List Int)++begin)++([c7.1]:List Int)).flatMap cel3)] [.call [(L3 ((([]:List Int)++begin)++([c7.1]:List Int))),(di (w64 (many-1))),(di below)] (.d (L26 x12)),.list (c7.2++x12).length ((c7.2++x12).flatMap cel26)] [0,1,2,8,9,30,36,38,39] [0,1,2,8,9] [(0,.d (L3 begin)),(1,vi many),(2,vi below),(8,.sl 1 0 0 c7.2.length),(9,vi c7.1),(30,.sl 1 0 0 c7.2.length),(36,.sl 1 1 0 ((([]:List Int)++begin)++([c7.1]:List Int)).length),(38,vi (w64 (many-1))),(39,vi below)] [.data (c7.2.flatMap cel26),.data (((([]:List Int)++begin)++([c7.1]:List Int)).flatMap cel3)] [AppendOk ((([]:List Int).flatMap cel3).map .d) ([]:List Int).length begin.length (([]:List Int)++begin).length 1 8 (begin.flatMap cel3) ((([]:List Int)++begin).flatMap cel3),AppendOk (((([]:List Int)++begin).flatMap cel3).map .d) (([]:List Int)++begin).length ([c7.1]:List Int).length ((([]:List Int)++begin)++([c7.1]:List Int)).length 1 8 (([c7.1]:List Int).flatMap cel3) (((([]:List Int)++begin)++([c7.1]:List Int)).flatMap cel3)] [(0,.d (L3 begin)),(1,vi many),(2,vi below),(8,.sl 1 0 0 c7.2.length),(9,vi c7.1),(30,.sl 1 0 0 c7.2.length),(36,.d (L3 ((([]:List Int)++begin)++([c7.1]:List Int)))),(38,vi (w64 (many-1))),(39,vi below)] [.data (c7.2.flatMap cel26),.data (([]:List Int).flatMap cel3)] [(0,.d (L3 begin)),(1,vi many),(2,vi below),(8,.sl 1 0 0 (c7.2++x12).length),(9,vi c7.1)] [.data ((c7.2++x12).flatMap cel26),.data (([]:List Int).flatMap cel3)] [PCall Try.prog 74 [(L3 ((([]:List Int)++begin)++([c7.1]:List Int))),(di (w64 (many-1))),(di below)] (.d (L26 x12)),AppendOk ((c7.2.flatMap cel26).map .d) c7.2.length x12.length (c7.2++x12).length 1 24 (x12.flatMap cel26) ((c7.2++x12).flatMap cel26)] (by kernel_rfl) (And.intro (appendOk cel3_len (need_of hx10)) (appendOk cel3_len (need_of hx11))) (IStep.freeze 36 1 (((([]:List Int)++begin)++([c7.1]:List Int)).flatMap cel3) (.sl 1 1 0 ((([]:List Int)++begin)++([c7.1]:List Int)).length) (.d (L3 ((([]:List Int)++begin)++([c7.1]:List Int)))) [0,1,2,8,9,30,36,38,39] (ps:=[(((([]:List Int)++begin)++([c7.1]:List Int)).flatMap cel3).length=((([]:List Int)++begin)++([c7.1]:List Int)).length*1]) (by kernel_rfl) (by kernel_rfl) (by kernel_rfl) (flatMap_len cel3 1 cel3_len ((([]:List Int)++begin)++([c7.1]:List Int))) (by kernel_rfl) (by kernel_rfl)) (by kernel_rfl) (And.intro (hrec30 _ _ _ _ hx12) (appendOk cel26_len (need_of hx13))) (by kernel_rfl) ?_
     show awp ..
     refine XA [(0,.d (L3 begin)),(1,vi many),(2,vi below),(8,.sl 1 0 0 (c7.2++x12).length),(9,vi (w64 (c7.1+1)))] [.data ((c7.2++x12).flatMap cel26),.data (([]:List Int).flatMap cel3)] ?_
     exact gn 1 [0,1,2,8,9] (hrn8 _ h)
    ·refine awp_exit ?_
     obtain rfl:=oi h
     exact gs [0] [8] OutQ.norm
   ·obtain rfl:=oi h
    exact gm
   ·show awp ..
    refine GA [(6,.sl 1 0 0 so6.length)] [.data (so6.flatMap cel26)] ?_
    obtain rfl:=oi h
    refine WB 1 [(6,.sl 1 0 0 so6.length)] ?_
    refine awp_freeze 6 0 (so6.flatMap cel26) (.sl 1 0 0 so6.length) (.d (L26 so6)) _ _ (ps:=[(so6.flatMap cel26).length=so6.length*1]) (by kernel_rfl) (by kernel_rfl) (by kernel_rfl) (flatMap_len cel26 1 cel26_len so6) rfl rfl ?_
    refine WA 1 [(6,.d (L26 so6))] [.data (([]:List (List Int)).flatMap cel26)] ?_
    exact awp_ret gm
theorem ct74:∀{fuel:Nat} {begin:(List Int)} {many:Int} {below:Int} {res:(List (List Int))},F74 fuel begin many below=some res→PCall Try.prog 74 [(L3 begin),(di many),(di below)] (.d (L26 res)):=by
 intro fuel
 induction fuel with
 | zero=>intro _ _ _ _ h;exact absurd h (by simp [F74])
 | succ n ih=>intro _ _ _ _ h;exact ct74B (fun _ _ _ _ h=>ih h) h
theorem ct79 {fuel:Nat}  {l:(List Int)} {p_n:Int} {res:Bool} (h:F79 fuel l p_n=some res):PCall Try.prog 79 [(L3 l),(di p_n)] (vb res):=by
 refine PCall.of_awp tt_ok (N:=18) Try.func79 rfl (by kernel_rfl) rfl (Nat.le_of_ble_eq_true rfl) rfl ?_
 unfold F79 at h
 refine GA [(0,.d (L3 l)),(1,vi p_n)] [] ?_
 refine awp_seq (HA [(0,.d (L3 l)),(1,vi p_n),(5,vi 0)] ?_)
 refine cuo h (fun (ro1:Bool)=>[(4,vb ro1)]) (fun (ro1:Bool)=>[]) (fun (so1:Unit)=>[]) (fun (so1:Unit)=>[]) (fun o1 h=>?_) (fun ro1 h=>?_) (fun so1 h=>?_)
 ·refine awp_selQ (WA 0 [(0,.d (L3 l)),(1,vi p_n),(5,vi 0)] [] ?_)
  refine awp_block (awp_loop (n:=fuel) ?_)
  refine awpN_ind (fun n (c2:Int)=>F79L1 l p_n n c2) o1 (fun (c2:Int)=>[(0,.d (L3 l)),(1,vi p_n),(5,vi c2)]) (fun (c2:Int)=>[]) (fun _=>rfl) ?_ fuel 0 h
  clear h
  intro n3 c2 h hrn3
  change F79L1 l p_n (n3+1) c2=some o1 at h
  rw [F79L1] at h
  refine awp_seq (GA [(0,.d (L3 l)),(1,vi p_n),(5,vi c2),(9,vb (decide (c2<(l.length:Int))))] [] ?_)
  refine cd h (fun hb4 h=>?_) (fun hb4 h=>?_)
  ·refine awp_skip ?_
   show awp ..
   refine awp_seq (awp_block ?_)
   obtain ⟨x5,hx5,h⟩:=ob h
   refine GB [.no,.no,.cells (cel3 x5)] [(0,.d (L3 l)),(1,vi p_n),(5,vi c2),(17,vb (x5==p_n))] [] [IX3 l c2 x5] (idxOk cel3_len hx5) ?_
   refine cd h (fun hb6 h=>?_) (fun hb6 h=>?_)
   ·refine GA [(4,vb true)] [] ?_
    obtain rfl:=oi h
    refine WB 0 [(4,vb true)] ?_
    exact awp_ret (gs [] [4] OutQ.ret)
   ·refine awp_skip ?_
    show awp ..
    refine XA [(0,.d (L3 l)),(1,vi p_n),(5,vi (w64 (c2+1)))] [] ?_
    exact gn 0 [0,1,5] (hrn3 _ h)
  ·refine awp_exit ?_
   obtain rfl:=oi h
   exact gs [] [] OutQ.norm
 ·obtain rfl:=oi h
  exact gm
 ·show awp ..
  refine GA [(4,vb false)] [] ?_
  obtain rfl:=oi h
  refine WB 0 [(4,vb false)] ?_
  exact awp_ret gm
theorem ct43 {fuel:Nat}  {p_c:S_api_EdCase} {out:(List Int)} {res:S_api_EdCase} (h:F43 fuel p_c out=some res):PCall Try.prog 43 [(ca p_c),(L3 out)] (.d (ca res)):=by
 refine PCall.of_awp tt_ok (N:=29) Try.func43 rfl (by kernel_rfl) rfl (Nat.le_of_ble_eq_true rfl) rfl ?_
 unfold F43 at h
 refine GA [(1,.d (L3 out)),(2,rf 0),(4,rf 1)] [cs p_c,.cells [vi 0,.d dnil,.d dnil]] ?_
 refine HA [(1,.d (L3 out)),(2,rf 0),(4,rf 1),(5,.d dnil)] ?_
 refine awp_seq (HA [(1,.d (L3 out)),(2,rf 0),(4,rf 1),(5,.d dnil),(6,vi 0)] ?_)
 refine awp_nil 5 3 (by kernel_rfl) ?_
 refine awp_eq (T':=[(5,.sl 3 2 0 ([]:List S_api_EdEdge).length),(1,.d (L3 out)),(2,rf 0),(4,rf 1),(6,vi 0)]) (H':=[cs p_c,.cells [vi 0,.d dnil,.d dnil],.data (([]:List S_api_EdEdge).flatMap cel71)]) (by kernel_rfl) (by kernel_rfl) ?_
 refine WA 3 [(1,.d (L3 out)),(2,rf 0),(4,rf 1),(5,.sl 3 2 0 ([]:List S_api_EdEdge).length),(6,vi 0)] [cs p_c,.cells [vi 0,.d dnil,.d dnil],.data (([]:List S_api_EdEdge).flatMap cel71)] ?_
 refine cuo h (fun (ro2:S_api_EdCase)=>[(4,rf 0)]) (fun (ro2:S_api_EdCase)=>[cs ro2]) (fun (so2:(List S_api_EdEdge))=>[(2,rf 0),(4,rf 1),(5,.sl 3 2 0 so2.length)]) (fun (so2:(List S_api_EdEdge))=>[cs p_c,.cells [vi 0,.d dnil,.d dnil],.data (so2.flatMap cel71)]) (fun o2 h=>?_) (fun ro2 h=>?_) (fun so2 h=>?_)
 ·refine awp_selQ (WA 3 [(1,.d (L3 out)),(2,rf 0),(4,rf 1),(5,.sl 3 2 0 ([]:List S_api_EdEdge).length),(6,vi 0)] [cs p_c,.cells [vi 0,.d dnil,.d dnil],.data (([]:List S_api_EdEdge).flatMap cel71)] ?_)
  refine awp_block (awp_loop (n:=fuel) ?_)
  refine awpN_ind (fun n (c3:Int×(List S_api_EdEdge))=>F43L1 fuel p_c out n c3) o2 (fun (c3:Int×(List S_api_EdEdge))=>[(1,.d (L3 out)),(2,rf 0),(4,rf 1),(5,.sl 3 2 0 c3.2.length),(6,vi c3.1)]) (fun (c3:Int×(List S_api_EdEdge))=>[cs p_c,.cells [vi 0,.d dnil,.d dnil],.data (c3.2.flatMap cel71)]) (fun _=>rfl) ?_ fuel (0,([]:List S_api_EdEdge)) h
  clear h
  intro n4 c3 h hrn4
  change F43L1 fuel p_c out (n4+1) c3=some o2 at h
  rw [F43L1] at h
  refine awp_seq (GA [(1,.d (L3 out)),(2,rf 0),(4,rf 1),(5,.sl 3 2 0 c3.2.length),(6,vi c3.1),(11,vb (decide (c3.1<(p_c.Edges.length:Int))))] [cs p_c,.cells [vi 0,.d dnil,.d dnil],.data (c3.2.flatMap cel71)] ?_)
  refine cd h (fun hb5 h=>?_) (fun hb5 h=>?_)
  ·refine awp_skip ?_
   show awp ..
   refine awp_seq (awp_block ?_)
   obtain ⟨x6,hx6,h⟩:=ob h
   refine GB [.no,.no,.call [(L3 out),(di c3.1)] (vb x6)] [(1,.d (L3 out)),(2,rf 0),(4,rf 1),(5,.sl 3 2 0 c3.2.length),(6,vi c3.1),(17,vb (!x6))] [cs p_c,.cells [vi 0,.d dnil,.d dnil],.data (c3.2.flatMap cel71)] [PCall Try.prog 79 [(L3 out),(di c3.1)] (vb x6)] (ct79 hx6) ?_
   refine cd h (fun hb7 h=>?_) (fun hb7 h=>?_)
   ·obtain ⟨x8,hx8,h⟩:=ob h
    obtain ⟨x9,hx9,h⟩:=ob h
    refine XB [.no,.no,.no,.no,.cells (cel71 x8),.no,.no,.list (c3.2++([x8]:List S_api_EdEdge)).length ((c3.2++([x8]:List S_api_EdEdge)).flatMap cel71)] [(1,.d (L3 out)),(2,rf 0),(4,rf 1),(5,.sl 3 2 0 (c3.2++([x8]:List S_api_EdEdge)).length),(6,vi c3.1)] [cs p_c,.cells [vi 0,.d dnil,.d dnil],.data ((c3.2++([x8]:List S_api_EdEdge)).flatMap cel71)] [IX71 p_c.Edges c3.1 x8,AppendOk ((c3.2.flatMap cel71).map .d) c3.2.length ([x8]:List S_api_EdEdge).length (c3.2++([x8]:List S_api_EdEdge)).length 3 40 (([x8]:List S_api_EdEdge).flatMap cel71) ((c3.2++([x8]:List S_api_EdEdge)).flatMap cel71)] (And.intro (idxOk cel71_len hx8) (appendOk cel71_len (need_of hx9))) ?_
    show awp ..
    refine YA [(1,.d (L3 out)),(2,rf 0),(4,rf 1),(5,.sl 3 2 0 (c3.2++([x8]:List S_api_EdEdge)).length),(6,vi (w64 (c3.1+1)))] ?_
    exact gn 3 [1,2,4,5,6] (hrn4 _ h)
   ·refine awp_skip ?_
    show awp ..
    refine XA [(1,.d (L3 out)),(2,rf 0),(4,rf 1),(5,.sl 3 2 0 c3.2.length),(6,vi (w64 (c3.1+1)))] [cs p_c,.cells [vi 0,.d dnil,.d dnil],.data (c3.2.flatMap cel71)] ?_
    exact gn 3 [1,2,4,5,6] (hrn4 _ h)
  ·refine awp_exit ?_
   obtain rfl:=oi h
   exact gs [0,1,2] [2,4,5] OutQ.norm
 ·obtain rfl:=oi h
  exact gm
 ·show awp ..
  refine GA [(2,rf 0),(4,rf 1)] [.cells [vi p_c.Tol,.d (L66 p_c.Sheets),.sl 3 2 0 so2.length],.cells [vi 0,.d dnil,.d dnil],.data (so2.flatMap cel71)] ?_
  refine GA [(4,rf 1)] [.cells [vi p_c.Tol,.d (L66 p_c.Sheets),.sl 3 2 0 so2.length],.cells [vi p_c.Tol,.d (L66 p_c.Sheets),.sl 3 2 0 so2.length],.data (so2.flatMap cel71)] ?_
  obtain rfl:=oi h
  refine WB 3 [(4,rf 1)] ?_
  refine awp_freezeC 1 2 2 (so2.flatMap cel71) [vi p_c.Tol,.d (L66 p_c.Sheets),.sl 3 2 0 so2.length] (.sl 3 2 0 so2.length) (.d (L71 so2)) _ _ (ps:=[(so2.flatMap cel71).length=so2.length*3]) (by kernel_rfl) (by kernel_rfl) (by kernel_rfl) (by kernel_rfl) (flatMap_len cel71 3 cel71_len so2) rfl rfl ?_
  refine WA 3 [(4,rf 1)] [.cells [vi p_c.Tol,.d (L66 p_c.Sheets),.top],.cells [vi p_c.Tol,.d (L66 p_c.Sheets),.d (L71 so2)],.data (([]:List S_api_EdEdge).flatMap cel71)] ?_
  exact awp_ret gm
theorem ct95v1B {fuel:Nat} {rec35:S_api_EdCase→(List Int)→Option (Bool)} (hrec35:∀(p_c:S_api_EdCase) (begin:(List Int)) (res:Bool),rec35 p_c begin=some res→PCall Try.prog 95 [(ca p_c),(L3 begin)] (vb res)) {p_c:S_api_EdCase} {begin:(List Int)} {res:Bool} (h:B95v1 fuel rec35 p_c begin=some res):PCall Try.prog 95 [(ca p_c),(L3 begin)] (vb res):=by
 refine PCall.of_awp tt_ok (N:=42) Try.func95 rfl (by kernel_rfl) rfl (Nat.le_of_ble_eq_true rfl) rfl ?_
 unfold B95v1 at h
 refine GA [(1,.d (L3 begin)),(2,rf 0)] [cs p_c] ?_
 refine awp_seq (HA [(1,.d (L3 begin)),(2,rf 0),(13,vb ((begin.length:Int)==(p_c.Sheets.length:Int)))] ?_)
 refine cd h (fun hb1 h=>?_) (fun hb1 h=>?_)
 ·refine GA [(4,vb true)] [cs p_c] ?_
  obtain rfl:=oi h
  refine WB 1 [(4,vb true)] ?_
  exact awp_ret gm
 ·refine awp_skip ?_
  show awp ..
  obtain ⟨x2,hx2,h⟩:=ob h
  refine GB [.no,.no,.no,.no,.cells (cel66 x2)] [(1,.d (L3 begin)),(2,rf 0),(5,vi x2.Most)] [cs p_c] [IX66 p_c.Sheets (begin.length:Int) x2] (idxOk cel66_len hx2) ?_
  refine awp_seq (HA [(1,.d (L3 begin)),(2,rf 0),(5,vi x2.Most),(6,vi (w64 (0-x2.Most)))] ?_)
  refine cuo h (fun (ro3:Bool)=>[(4,vb ro3)]) (fun (ro3:Bool)=>[]) (fun (so3:Unit)=>[]) (fun (so3:Unit)=>[cs p_c]) (fun o3 h=>?_) (fun ro3 h=>?_) (fun so3 h=>?_)
  ·refine awp_selQ (WA 1 [(1,.d (L3 begin)),(2,rf 0),(5,vi x2.Most),(6,vi (w64 (0-x2.Most)))] [cs p_c] ?_)
   refine awp_block (awp_loop (n:=fuel) ?_)
   refine awpN_ind (fun n (c4:Int)=>F95v1L1 fuel rec35 p_c begin x2 n c4) o3 (fun (c4:Int)=>[(1,.d (L3 begin)),(2,rf 0),(5,vi x2.Most),(6,vi c4)]) (fun (c4:Int)=>[cs p_c]) (fun _=>rfl) ?_ fuel (w64 (0-x2.Most)) h
   clear h
   intro n5 c4 h hrn5
   change F95v1L1 fuel rec35 p_c begin x2 (n5+1) c4=some o3 at h
   rw [F95v1L1] at h
   refine awp_seq (GA [(1,.d (L3 begin)),(2,rf 0),(5,vi x2.Most),(6,vi c4),(25,vb (decide (c4≤x2.Most)))] [cs p_c] ?_)
   refine cd h (fun hb6 h=>?_) (fun hb6 h=>?_)
   ·refine awp_skip ?_
    show awp ..
    refine awp_seq (awp_block ?_)
    obtain ⟨x7,hx7,h⟩:=ob h
    obtain ⟨x8,hx8,h⟩:=ob h
    refine GB [.own,.no,.list (([]:List Int)++begin).length ((([]:List Int)++begin).flatMap cel3),.no,.no,.list ((([]:List Int)++begin)++([c4]:List Int)).length (((([]:List Int)++begin)++([c4]:List Int)).flatMap cel3)] [(1,.d (L3 begin)),(2,rf 0),(5,vi x2.Most),(6,vi c4),(7,.sl 1 1 0 ((([]:List Int)++begin)++([c4]:List Int)).length)] [cs p_c,.data (((([]:List Int)++begin)++([c4]:List Int)).flatMap cel3)] [AppendOk ((([]:List Int).flatMap cel3).map .d) ([]:List Int).length begin.length (([]:List Int)++begin).length 1 8 (begin.flatMap cel3) ((([]:List Int)++begin).flatMap cel3),AppendOk (((([]:List Int)++begin).flatMap cel3).map .d) (([]:List Int)++begin).length ([c4]:List Int).length ((([]:List Int)++begin)++([c4]:List Int)).length 1 8 (([c4]:List Int).flatMap cel3) (((([]:List Int)++begin)++([c4]:List Int)).flatMap cel3)] (And.intro (appendOk cel3_len (need_of hx7)) (appendOk cel3_len (need_of hx8))) ?_
    obtain ⟨x9,hx9,h⟩:=ob h
    obtain ⟨x10,hx10,h⟩:=ob h
    refine HB [.no,.no,.call [(ca p_c),(L3 ((([]:List Int)++begin)++([c4]:List Int)))] (vb x9),.no,.no,.no,.call [(ca p_c),(L3 ((([]:List Int)++begin)++([c4]:List Int)))] (vb x10)] [(1,.d (L3 begin)),(2,rf 0),(5,vi x2.Most),(6,vi c4),(41,vb (cond x9 x10 false))] [argsOk [cs p_c,.data (((([]:List Int)++begin)++([c4]:List Int)).flatMap cel3)] [.d (ca p_c),.sl 1 1 0 ((([]:List Int)++begin)++([c4]:List Int)).length] [(ca p_c),(L3 ((([]:List Int)++begin)++([c4]:List Int)))],PCall Try.prog 87 [(ca p_c),(L3 ((([]:List Int)++begin)++([c4]:List Int)))] (vb x9),(x9=true→x9=true),(x9=true→x9=true),(x9=true→argsOk [cs p_c,.data (((([]:List Int)++begin)++([c4]:List Int)).flatMap cel3)] [.d (ca p_c),.sl 1 1 0 ((([]:List Int)++begin)++([c4]:List Int)).length] [(ca p_c),(L3 ((([]:List Int)++begin)++([c4]:List Int)))]),(x9=true→PCall Try.prog 95 [(ca p_c),(L3 ((([]:List Int)++begin)++([c4]:List Int)))] (vb x10)),(x9=true→x9=true)] (And.intro ((And.intro (rfl) (And.intro (lentOk cel3_len rfl) trivial))) (And.intro (ct87 hx9) (And.intro (id) (And.intro (id) (And.intro ((fun hg=>(And.intro (rfl) (And.intro (lentOk cel3_len rfl) trivial)))) (And.intro ((fun hg=>hrec35 _ _ _ (optG_of hx10 hg))) (id))))))) ?_
    refine cd h (fun hb11 h=>?_) (fun hb11 h=>?_)
    ·refine GA [(4,vb true)] [cs p_c,.data (((([]:List Int)++begin)++([c4]:List Int)).flatMap cel3)] ?_
     obtain rfl:=oi h
     refine WB 2 [(4,vb true)] ?_
     exact awp_ret (gs [] [4] OutQ.ret)
    ·refine awp_skip ?_
     show awp ..
     refine XA [(1,.d (L3 begin)),(2,rf 0),(5,vi x2.Most),(6,vi (w64 (c4+1)))] [cs p_c,.data (((([]:List Int)++begin)++([c4]:List Int)).flatMap cel3)] ?_
     exact gn 1 [1,2,5,6] (hrn5 _ h)
   ·refine awp_exit ?_
    obtain rfl:=oi h
    exact gs [0] [] OutQ.norm
  ·obtain rfl:=oi h
   exact gm
  ·show awp ..
   refine GA [(4,vb false)] [cs p_c] ?_
   obtain rfl:=oi h
   refine WB 1 [(4,vb false)] ?_
   exact awp_ret gm
theorem ct95v1:∀{fuel:Nat} {p_c:S_api_EdCase} {begin:(List Int)} {res:Bool},F95v1 fuel p_c begin=some res→PCall Try.prog 95 [(ca p_c),(L3 begin)] (vb res):=by
 intro fuel
 induction fuel with
 | zero=>intro _ _ _ h;exact absurd h (by simp [F95v1])
 | succ n ih=>intro _ _ _ h;exact ct95v1B (fun _ _ _ h=>ih h) h
theorem ct95 {fuel:Nat}  {p_c:S_api_EdCase} {begin:(List Int)} {res:Bool} (h:F95 fuel p_c begin=some res):PCall Try.prog 95 [(ca p_c),dnil] (vb res):=by
 refine PCall.of_awp tt_ok (N:=42) Try.func95 rfl (by kernel_rfl) rfl (Nat.le_of_ble_eq_true rfl) rfl ?_
 unfold F95 at h
 refine GA [(1,.d dnil),(2,rf 0)] [cs p_c] ?_
 refine awp_seq (HA [(1,.d dnil),(2,rf 0),(13,vb (0==(p_c.Sheets.length:Int)))] ?_)
 refine cd h (fun hb1 h=>?_) (fun hb1 h=>?_)
 ·refine GA [(4,vb true)] [cs p_c] ?_
  obtain rfl:=oi h
  refine WB 1 [(4,vb true)] ?_
  exact awp_ret gm
 ·refine awp_skip ?_
  show awp ..
  obtain ⟨x2,hx2,h⟩:=ob h
  refine GB [.no,.no,.no,.no,.cells (cel66 x2)] [(1,.d dnil),(2,rf 0),(5,vi x2.Most)] [cs p_c] [IX66 p_c.Sheets 0 x2] (idxOk cel66_len hx2) ?_
  refine awp_seq (HA [(1,.d dnil),(2,rf 0),(5,vi x2.Most),(6,vi (w64 (0-x2.Most)))] ?_)
  refine cuo h (fun (ro3:Bool)=>[(4,vb ro3)]) (fun (ro3:Bool)=>[]) (fun (so3:Unit)=>[]) (fun (so3:Unit)=>[cs p_c]) (fun o3 h=>?_) (fun ro3 h=>?_) (fun so3 h=>?_)
  ·refine awp_selQ (WA 1 [(1,.d dnil),(2,rf 0),(5,vi x2.Most),(6,vi (w64 (0-x2.Most)))] [cs p_c] ?_)
   refine awp_block (awp_loop (n:=fuel) ?_)
   refine awpN_ind (fun n (c4:Int)=>F95L1 fuel p_c x2 n c4) o3 (fun (c4:Int)=>[(1,.d dnil),(2,rf 0),(5,vi x2.Most),(6,vi c4)]) (fun (c4:Int)=>[cs p_c]) (fun _=>rfl) ?_ fuel (w64 (0-x2.Most)) h
   clear h
   intro n5 c4 h hrn5
   change F95L1 fuel p_c x2 (n5+1) c4=some o3 at h
   rw [F95L1] at h
   refine awp_seq (GA [(1,.d dnil),(2,rf 0),(5,vi x2.Most),(6,vi c4),(25,vb (decide (c4≤x2.Most)))] [cs p_c] ?_)
   refine cd h (fun hb6 h=>?_) (fun hb6 h=>?_)
   ·refine awp_skip ?_
    show awp ..
    refine awp_seq (awp_block ?_)
    obtain ⟨x7,hx7,h⟩:=ob h
    obtain ⟨x8,hx8,h⟩:=ob h
    refine GB [.own,.no,.list (([]:List Int)++([]:List Int)).length ((([]:List Int)++([]:List Int)).flatMap cel3),.no,.no,.list ((([]:List Int)++([]:List Int))++([c4]:List Int)).length (((([]:List Int)++([]:List Int))++([c4]:List Int)).flatMap cel3)] [(1,.d dnil),(2,rf 0),(5,vi x2.Most),(6,vi c4),(7,.sl 1 1 0 ((([]:List Int)++([]:List Int))++([c4]:List Int)).length)] [cs p_c,.data (((([]:List Int)++([]:List Int))++([c4]:List Int)).flatMap cel3)] [AppendOk ((([]:List Int).flatMap cel3).map .d) ([]:List Int).length ([]:List Int).length (([]:List Int)++([]:List Int)).length 1 8 (([]:List Int).flatMap cel3) ((([]:List Int)++([]:List Int)).flatMap cel3),AppendOk (((([]:List Int)++([]:List Int)).flatMap cel3).map .d) (([]:List Int)++([]:List Int)).length ([c4]:List Int).length ((([]:List Int)++([]:List Int))++([c4]:List Int)).length 1 8 (([c4]:List Int).flatMap cel3) (((([]:List Int)++([]:List Int))++([c4]:List Int)).flatMap cel3)] (And.intro (appendOk cel3_len (need_of hx7)) (appendOk cel3_len (need_of hx8))) ?_
    obtain ⟨x9,hx9,h⟩:=ob h
    obtain ⟨x10,hx10,h⟩:=ob h
    refine HB [.no,.no,.call [(ca p_c),(L3 ((([]:List Int)++([]:List Int))++([c4]:List Int)))] (vb x9),.no,.no,.no,.call [(ca p_c),(L3 ((([]:List Int)++([]:List Int))++([c4]:List Int)))] (vb x10)] [(1,.d dnil),(2,rf 0),(5,vi x2.Most),(6,vi c4),(41,vb (cond x9 x10 false))] [argsOk [cs p_c,.data (((([]:List Int)++([]:List Int))++([c4]:List Int)).flatMap cel3)] [.d (ca p_c),.sl 1 1 0 ((([]:List Int)++([]:List Int))++([c4]:List Int)).length] [(ca p_c),(L3 ((([]:List Int)++([]:List Int))++([c4]:List Int)))],PCall Try.prog 87 [(ca p_c),(L3 ((([]:List Int)++([]:List Int))++([c4]:List Int)))] (vb x9),(x9=true→x9=true),(x9=true→x9=true),(x9=true→argsOk [cs p_c,.data (((([]:List Int)++([]:List Int))++([c4]:List Int)).flatMap cel3)] [.d (ca p_c),.sl 1 1 0 ((([]:List Int)++([]:List Int))++([c4]:List Int)).length] [(ca p_c),(L3 ((([]:List Int)++([]:List Int))++([c4]:List Int)))]),(x9=true→PCall Try.prog 95 [(ca p_c),(L3 ((([]:List Int)++([]:List Int))++([c4]:List Int)))] (vb x10)),(x9=true→x9=true)] (And.intro ((And.intro (rfl) (And.intro (lentOk cel3_len rfl) trivial))) (And.intro (ct87 hx9) (And.intro (id) (And.intro (id) (And.intro ((fun hg=>(And.intro (rfl) (And.intro (lentOk cel3_len rfl) trivial)))) (And.intro ((fun hg=>ct95v1 (optG_of hx10 hg))) (id))))))) ?_
    refine cd h (fun hb11 h=>?_) (fun hb11 h=>?_)
    ·refine GA [(4,vb true)] [cs p_c,.data (((([]:List Int)++([]:List Int))++([c4]:List Int)).flatMap cel3)] ?_
     obtain rfl:=oi h
     refine WB 2 [(4,vb true)] ?_
     exact awp_ret (gs [] [4] OutQ.ret)
    ·refine awp_skip ?_
     show awp ..
     refine XA [(1,.d dnil),(2,rf 0),(5,vi x2.Most),(6,vi (w64 (c4+1)))] [cs p_c,.data (((([]:List Int)++([]:List Int))++([c4]:List Int)).flatMap cel3)] ?_
     exact gn 1 [1,2,5,6] (hrn5 _ h)
   ·refine awp_exit ?_
    obtain rfl:=oi h
    exact gs [0] [] OutQ.norm
  ·obtain rfl:=oi h
   exact gm
  ·show awp ..
   refine GA [(4,vb false)] [cs p_c] ?_
   obtain rfl:=oi h
   refine WB 1 [(4,vb false)] ?_
   exact awp_ret gm
theorem ct75 {fuel:Nat}  {p_c:S_api_EdCase} {res:Bool} (h:F75 fuel p_c=some res):PCall Try.prog 75 [(ca p_c)] (vb res):=by
 refine PCall.of_awp tt_ok (N:=5) Try.func75 rfl (by kernel_rfl) rfl (Nat.le_of_ble_eq_true rfl) rfl ?_
 unfold F75 at h
 refine GA [(1,rf 0)] [cs p_c] ?_
 obtain ⟨x1,hx1,h⟩:=ob h
 refine HB [.no,.call [(ca p_c),dnil] (vb x1)] [(2,vb x1)] [PCall Try.prog 95 [(ca p_c),dnil] (vb x1)] (ct95 hx1) ?_
 obtain rfl:=oi h
 refine WB 1 [(2,vb x1)] ?_
 exact awp_ret gm
theorem ct33 {fuel:Nat}  {p_c:S_api_EdCase} {res:(List Int)×Int} (h:F33 fuel p_c=some res):PCall Try.prog 33 [(ca p_c)] (.tup [.d (L3 res.1),vi res.2]):=by
 refine PCall.of_awp tt_ok (N:=48) Try.func33 rfl (by kernel_rfl) rfl (Nat.le_of_ble_eq_true rfl) rfl ?_
 unfold F33 at h
 refine GA [(1,rf 0)] [cs p_c] ?_
 obtain ⟨x1,hx1,h⟩:=ob h
 refine HB [.no,.call [(ca p_c)] (.tup [vi x1.1,vi x1.2.1,vi x1.2.2])] [(1,rf 0),(6,vi x1.2.2)] [PCall Try.prog 17 [(ca p_c)] (.tup [vi x1.1,vi x1.2.1,vi x1.2.2])] (ct17 hx1) ?_
 refine awp_seq (HA [(1,rf 0),(6,vi x1.2.2),(17,vb (x1.2.2 != 0))] ?_)
 refine cd h (fun hb2 h=>?_) (fun hb2 h=>?_)
 ·refine GA [(2,.d dnil),(3,vi x1.2.2)] [cs p_c] ?_
  obtain rfl:=oi h
  refine WB 1 [(2,.d dnil),(3,vi x1.2.2)] ?_
  refine awp_laxT 2 _ (L3 ([]:List Int)) _ (by kernel_rfl) (.nil (e:=1)) rfl ?_
  refine WA 1 [(2,.d (L3 ([]:List Int))),(3,vi x1.2.2)] [cs p_c] ?_
  exact awp_ret gm
 ·refine awp_skip ?_
  show awp ..
  refine awp_seq (GA [(1,rf 0),(7,vi 0)] [cs p_c] ?_)
  refine cuo h (fun (ro3:(List Int)×Int)=>[(2,.d (L3 ro3.1)),(3,vi ro3.2)]) (fun (ro3:(List Int)×Int)=>[]) (fun (so3:Unit)=>[]) (fun (so3:Unit)=>[cs p_c]) (fun o3 h=>?_) (fun ro3 h=>?_) (fun so3 h=>?_)
  ·refine awp_selQ (WA 1 [(1,rf 0),(7,vi 0)] [cs p_c] ?_)
   refine awp_block (awp_loop (n:=fuel) ?_)
   refine awpN_ind (fun n (c4:Int)=>F33L1 fuel p_c n c4) o3 (fun (c4:Int)=>[(1,rf 0),(7,vi c4)]) (fun (c4:Int)=>[cs p_c]) (fun _=>rfl) ?_ fuel 0 h
   clear h
   intro n5 c4 h hrn5
   change F33L1 fuel p_c (n5+1) c4=some o3 at h
   rw [F33L1] at h
   refine awp_seq (GA [(1,rf 0),(7,vi c4),(23,vb (decide (c4≤(p_c.Edges.length:Int))))] [cs p_c] ?_)
   refine cd h (fun hb6 h=>?_) (fun hb6 h=>?_)
   ·refine awp_skip ?_
    show awp ..
    refine awp_seq (awp_block ?_)
    obtain ⟨x7,hx7,h⟩:=ob h
    refine GB [.no,.no,.no,.no,.call [dnil,(di c4),(di (p_c.Edges.length:Int))] (.d (L26 x7))] [(1,rf 0),(7,vi c4),(8,.d (L26 x7))] [cs p_c] [PCall Try.prog 74 [dnil,(di c4),(di (p_c.Edges.length:Int))] (.d (L26 x7))] (PCall.le (.cons (.nil) (.cons (.rfl) (.cons (.rfl) (.nil)))) (ct74 hx7)) ?_
    refine HA [(1,rf 0),(7,vi c4),(8,.d (L26 x7)),(9,vi 0)] ?_
    refine cuo h (fun (ro8:(List Int)×Int)=>[(2,.d (L3 ro8.1)),(3,vi ro8.2)]) (fun (ro8:(List Int)×Int)=>[]) (fun (so8:Unit)=>[(1,rf 0),(7,vi c4)]) (fun (so8:Unit)=>[cs p_c]) (fun o8 h=>?_) (fun ro8 h=>?_) (fun so8 h=>?_)
    ·refine awp_selQ (WA 1 [(1,rf 0),(7,vi c4),(8,.d (L26 x7)),(9,vi 0)] [cs p_c] ?_)
     refine awp_block (awp_loop (n:=fuel) ?_)
     refine awpN_ind (fun n (c9:Int)=>F33L2 fuel p_c x7 n c9) o8 (fun (c9:Int)=>[(1,rf 0),(7,vi c4),(8,.d (L26 x7)),(9,vi c9)]) (fun (c9:Int)=>[cs p_c]) (fun _=>rfl) ?_ fuel 0 h
     clear h
     intro n10 c9 h hrn10
     change F33L2 fuel p_c x7 (n10+1) c9=some o8 at h
     rw [F33L2] at h
     refine awp_seq (GA [(1,rf 0),(7,vi c4),(8,.d (L26 x7)),(9,vi c9),(34,vb (decide (c9<(x7.length:Int))))] [cs p_c] ?_)
     refine cd h (fun hb11 h=>?_) (fun hb11 h=>?_)
     ·refine awp_skip ?_
      show awp ..
      refine awp_seq (awp_block ?_)
      obtain ⟨x12,hx12,h⟩:=ob h
      obtain ⟨x13,hx13,h⟩:=ob h
      obtain ⟨x14,hx14,h⟩:=ob h
      refine sd [1,7,8,9,43] [.no,.no,.no,.cells (cel26 x12),.no,.call [(ca p_c),(L3 x12)] (.d (ca x13)),.call [(ca x13)] (vb x14)] 5 [1,7,8,9,37,41,42,43] [(1,rf 0),(7,vi c4),(8,.d (L26 x7)),(9,vi c9),(43,vb x14)] [cs p_c] [IX26 x7 c9 x12,PCall Try.prog 43 [(ca p_c),(L3 x12)] (.d (ca x13)),PCall Try.prog 75 [(ca x13)] (vb x14)] (And.intro (idxOk cel26_len hx12) (And.intro (ct43 hx13) (ct75 hx14))) ?_
      refine cd h (fun hb15 h=>?_) (fun hb15 h=>?_)
      ·obtain ⟨x16,hx16,h⟩:=ob h
       refine GB [.no,.no,.cells (cel26 x16)] [(2,.d (L3 x16)),(3,vi 0)] [cs p_c] [IX26 x7 c9 x16] (idxOk cel26_len hx16) ?_
       obtain rfl:=oi h
       refine WB 1 [(2,.d (L3 x16)),(3,vi 0)] ?_
       exact awp_ret (gs [] [2,3] OutQ.ret)
      ·refine awp_skip ?_
       show awp ..
       refine XA [(1,rf 0),(7,vi c4),(8,.d (L26 x7)),(9,vi (w64 (c9+1)))] [cs p_c] ?_
       exact gn 1 [1,7,8,9] (hrn10 _ h)
     ·refine awp_exit ?_
      obtain rfl:=oi h
      exact gs [0] [1,7] OutQ.norm
    ·obtain rfl:=oi h
     exact gs [] [2,3] OutQ.ret
    ·show awp ..
     refine XA [(1,rf 0),(7,vi (w64 (c4+1)))] [cs p_c] ?_
     exact gn 1 [1,7] (hrn5 _ h)
   ·refine awp_exit ?_
    obtain rfl:=oi h
    exact gs [0] [] OutQ.norm
  ·obtain rfl:=oi h
   exact gm
  ·show awp ..
   refine GA [(2,.d dnil),(3,vi 0)] [cs p_c] ?_
   obtain rfl:=oi h
   refine WB 1 [(2,.d dnil),(3,vi 0)] ?_
   refine awp_laxT 2 _ (L3 ([]:List Int)) _ (by kernel_rfl) (.nil (e:=1)) rfl ?_
   refine WA 1 [(2,.d (L3 ([]:List Int))),(3,vi 0)] [cs p_c] ?_
   exact awp_ret gm
end Go.Proofs.Ytallnifoeahpiaa
