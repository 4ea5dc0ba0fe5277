/- That functions of the seat compute this. Printed by a program of mine. -/
import Derived.Test.YtallnifoeahpiaaS
import Derived.Test.YtallnifoeahpiaaCEA
import Derived.Test.YtallnifoeahpiaaCEB
import Derived.Test.YtallnifoeahpiaaDEC
namespace Go.Proofs.Ytallnifoeahpiaa
open Go Go.Sx
set_option maxRecDepth 100000
set_option linter.unusedVariables false
theorem ct59v1 {fuel:Nat}  {p_c:S_api_EdCase} {l:(List Int)} {res:((List Int)×Int×Int×(List S_api_EdSheet)×(List S_api_EdEdge)×(List Int)×(List ((List Int)×Int)))⊕((List Int)×Int)} (h:F59v1 fuel p_c l=some res):HCall Try.prog 59 [.d (ca p_c),.d (L3 l)] [] (Sum.elim (fun (q:(List Int)×Int×Int×(List S_api_EdSheet)×(List S_api_EdEdge)×(List Int)×(List ((List Int)×Int)))=>(.tup [rf 0,.d (.agg (q.1.map di0)),vi q.2.1]:V)) (fun (q:(List Int)×Int)=>(.tup [.d (.v (.pointer none)),.d (.agg (q.1.map di0)),vi q.2]:V)) res) (Sum.elim (fun (q:(List Int)×Int×Int×(List S_api_EdSheet)×(List S_api_EdEdge)×(List Int)×(List ((List Int)×Int)))=>([sv q.2.2.1 q.2.2.2.1 q.2.2.2.2.1 q.2.2.2.2.2.1 1,mq q.2.2.2.2.2.2]:List O)) (fun (q:(List Int)×Int)=>([]:List O)) res):=by
 refine HCall.of_awpS tt_ok (N:=55) (fl:=0) Try.func59 rfl (by kernel_rfl) rfl rfl (Nat.le_of_ble_eq_true rfl) ?_
 unfold F59v1 at h
 let q2:=(List.replicate 5 (0:Int))
 let q7:Nat×V:=(1,.d (L3 l))
 refine GA [q7,(2,rf 0),(5,rf 1)] [cs p_c,.cells (q2.map vi)] ?_
 let q5:List O:=[cs p_c,.vec [] q2 []]
 refine awp_vec 1 (q2.map vi) [] q2 [] q5 (by kernel_rfl) rfl (by kernel_rfl) ?_
 refine awp_seq ?_
 obtain ⟨x1,hx1,h⟩:=ob h
 cases x1 with
 | inl y2 =>
  rw [outK_inl] at h
  let q1:O:=sv y2.2.1 y2.2.2.1 y2.2.2.2.1 y2.2.2.2.2.1 3
  let q3:O:=mq y2.2.2.2.2.2
  refine GB [.no,.hcall [] (.tup [rf 0,vi y2.1]) [sv y2.2.1 y2.2.2.1 y2.2.2.2.1 y2.2.2.2.2.1 1,q3]] [q7,(2,rf 0),(4,rf 2),(5,rf 1),(6,vi y2.1)] [cs p_c,.vec [] q2 [],q1,q3] [HCall Try.prog 57 [.d (ca p_c)] [] (.tup [rf 0,vi y2.1]) [sv y2.2.1 y2.2.2.1 y2.2.2.2.1 y2.2.2.2.2.1 1,q3]] (ct57v1 hx1) ?_
  refine HA [q7,(2,rf 0),(4,rf 2),(5,rf 1),(6,vi y2.1),(15,vb (y2.1 != 0))] ?_
  refine cd h (fun hb3 h=>?_) (fun hb3 h=>?_)
  ·obtain ⟨x4,hx4,h⟩:=ob h
   obtain ⟨x5,hx5,h⟩:=ob h
   refine awp_seq (awp_any (T':=[(4,.d (.v (.pointer none))),(5,rf 1),(6,vi y2.1)]) (H':=[cs p_c,vw x4,sv y2.2.1 y2.2.2.1 y2.2.2.2.1 y2.2.2.2.2.1 3,mq y2.2.2.2.2.2]) (ps:=[LoadOk (([]:List V)++(List.replicate 5 (0:Int)).map vi) 0 5 ((x4.map di0).map .d),((((x4.map di0).map V.d)).length=5),StoreOk ((List.replicate 5 (0:Int)).map vi) 0 ((x4.map di0).map V.d) (x4.map vi)]) tt_ok mixed (ks:=[4,5,6]) (hs:=[.cells (x4.map di0),.no,.no,.nums x4]) (m:=4) (mid:=[4,5,6,17]) (by kernel_rfl) (And.intro ((by rw [map_dd];exact vecLoads (p:=0) (pre:=[]) rfl hx4 rfl)) (And.intro ((by rw [map_dd];exact (List.length_map _).trans (need_of hx5))) ((by rw [map_dd];exact vecStores (n:=5) rfl (need_of hx5))))) ?_)
   show awp ..
   obtain ⟨x6,hx6,h⟩:=ob h
   obtain rfl:=oi h
   refine WA 4 [(4,.d (.v (.pointer none))),(5,rf 1),(6,vi y2.1)] [cs p_c,vw x4,q1,q3] ?_
   exact awp_ret (main_retS [] (.tup [.d (.v (.pointer none)),.d (.agg (x4.map di0)),vi y2.1]) (by have hq:=need_of hx6;revert hq;(try dsimp only);generalize x4=xs1;intro hq;exact match xs1,hq with|[a1_0,a1_1,a1_2,a1_3,a1_4],_=>rfl) (by kernel_rfl) (by kernel_rfl) (by kernel_rfl))
  ·refine awp_skip ?_
   show awp ..
   refine awp_seq (GA [q7,(2,rf 0),(4,rf 2),(5,rf 1),(23,vb ((l.length:Int) != (p_c.Sheets.length:Int)))] [cs p_c,.vec [] q2 [],q1,q3] ?_)
   refine cd h (fun hb7 h=>?_) (fun hb7 h=>?_)
   ·obtain ⟨x8,hx8,h⟩:=ob h
    obtain ⟨x9,hx9,h⟩:=ob h
    refine sd [4,5,6] [.cells (x8.map di0),.no,.nums x8] 2 [4,5,6,24] [(4,.d (.v (.pointer none))),(5,rf 1),(6,vi 3)] [cs p_c,vw x8,q1,q3] [LoadOk (([]:List V)++(List.replicate 5 (0:Int)).map vi) 0 5 ((x8.map di0).map .d),((((x8.map di0).map V.d)).length=5),StoreOk ((List.replicate 5 (0:Int)).map vi) 0 ((x8.map di0).map V.d) (x8.map vi)] (And.intro ((by rw [map_dd];exact vecLoads (p:=0) (pre:=[]) rfl hx8 rfl)) (And.intro ((by rw [map_dd];exact (List.length_map _).trans (need_of hx9))) ((by rw [map_dd];exact vecStores (n:=5) rfl (need_of hx9))))) ?_
    obtain ⟨x10,hx10,h⟩:=ob h
    obtain rfl:=oi h
    refine WB 4 [(4,.d (.v (.pointer none))),(5,rf 1),(6,vi 3)] ?_
    exact awp_ret (main_retS [] (.tup [.d (.v (.pointer none)),.d (.agg (x8.map di0)),vi 3]) (by have hq:=need_of hx10;revert hq;(try dsimp only);generalize x8=xs1;intro hq;exact match xs1,hq with|[a1_0,a1_1,a1_2,a1_3,a1_4],_=>rfl) (by kernel_rfl) (by kernel_rfl) (by kernel_rfl))
   ·refine awp_skip ?_
    show awp ..
    let q6:Nat×V:=(25,.d (L3 l))
    refine awp_seq (GA [(2,rf 0),(4,rf 2),(5,rf 1),q6,(26,vl l),(27,vi 0)] [cs p_c,.vec [] q2 [],q1,q3] ?_)
    refine cuo h (fun (ro11:(List Int)×Int)=>[(4,.d (.v (.pointer none))),(5,rf 0),(6,vi ro11.2)]) (fun (ro11:(List Int)×Int)=>[vw ro11.1]) (fun (so11:(List Int))=>[(4,rf 2),(5,rf 1)]) (fun (so11:(List Int))=>[cs p_c,vw so11,q1,q3]) (fun o11 h=>?_) (fun ro11 h=>?_) (fun so11 h=>?_)
    ·refine awp_selQ (WA 4 [(2,rf 0),(4,rf 2),(5,rf 1),q6,(26,vl l),(27,vi 0)] [cs p_c,.vec [] q2 [],q1,q3] ?_)
     refine awp_block (awp_loop (n:=fuel) ?_)
     refine awpN_ind (fun n (c12:Int×(List Int))=>F59v1L1 fuel p_c l n c12) o11 (fun (c12:Int×(List Int))=>[(2,rf 0),(4,rf 2),(5,rf 1),q6,(26,vl l),(27,vi c12.1)]) (fun (c12:Int×(List Int))=>[cs p_c,vw c12.2,q1,q3]) (fun _=>rfl) ?_ fuel (0,q2) h
     clear h
     intro n13 c12 h hrn13
     change F59v1L1 fuel p_c l (n13+1) c12=some o11 at h
     rw [F59v1L1] at h
     refine GA [(2,rf 0),(4,rf 2),(5,rf 1),q6,(26,vl l),(27,vi c12.1),(28,vb (decide (c12.1<(l.length:Int))))] [cs p_c,vw c12.2,q1,q3] ?_
     refine awp_seq (cd h (fun hb14 h=>?_) (fun hb14 h=>?_))
     ·refine awp_skip ?_
      show awp ..
      refine awp_seq (awp_block ?_)
      obtain ⟨x15,hx15,h⟩:=ob h
      refine GB [.no,.cells (cel3 x15)] [(2,rf 0),(4,rf 2),(5,rf 1),(7,vi c12.1),(8,vi x15),q6,(26,vl l),(27,vi c12.1)] [cs p_c,vw c12.2,q1,q3] [IX3 l c12.1 x15] (idxOk cel3_len hx15) ?_
      refine awp_seq ?_
      obtain ⟨x16,hx16,h⟩:=ob h
      obtain ⟨x17,hx17,h⟩:=ob h
      obtain ⟨x18,hx18,h⟩:=ob h
      refine hd [2,4,5,7,8,25,26,27,47] [.no,.no,.no,.cells (cel66 x16),.no,.no,.no,.no,.no,.no,.cells (cel66 x17),.no,.no,.no,.no,.call [(di (w64 (0-x16.Most))),(di x17.Most),(L3 ([x15]:List Int))] (vb x18)] 15 [2,4,5,7,8,25,26,27,38,44,46,47] [(2,rf 0),(4,rf 2),(5,rf 1),(7,vi c12.1),(8,vi x15),q6,(26,vl l),(27,vi c12.1),(47,vb x18)] [IX66 p_c.Sheets c12.1 x16,IX66 p_c.Sheets c12.1 x17,PCall Try.prog 48 [(di (w64 (0-x16.Most))),(di x17.Most),(L3 ([x15]:List Int))] (vb x18)] (And.intro (idxOk cel66_len hx16) (And.intro (idxOk cel66_len hx17) (ct48 hx18))) ?_
      refine cd h (fun hb19 h=>?_) (fun hb19 h=>?_)
      ·obtain ⟨x20,hx20,h⟩:=ob h
       obtain ⟨x21,hx21,h⟩:=ob h
       obtain ⟨x22,hx22,h⟩:=ob h
       refine sd [4,5,6] [.cells (x20.map di0),.no,.nums x20] 2 [4,5,6,48] [(4,.d (.v (.pointer none))),(5,rf 1),(6,vi 7)] [cs p_c,vw x20,q1,q3] [LoadOk (([]:List V)++c12.2.map vi) 0 5 ((x20.map di0).map .d),((((x20.map di0).map V.d)).length=5),StoreOk (c12.2.map vi) 0 ((x20.map di0).map V.d) (x20.map vi)] (And.intro ((by rw [map_dd];exact vecLoads (p:=0) (pre:=[]) rfl hx20 rfl)) (And.intro ((by rw [map_dd];exact (List.length_map _).trans (need_of hx21))) ((by rw [map_dd];exact vecStores (n:=5) ((List.length_map _).trans (need_of hx22)) (need_of hx21))))) ?_
       obtain rfl:=oi h
       refine WB 4 [(4,.d (.v (.pointer none))),(5,rf 1),(6,vi 7)] ?_
       exact awp_ret (gs [1] [4,5,6] OutQ.ret)
      ·refine awp_skip ?_
       show awp ..
       obtain ⟨x23,hx23,h⟩:=ob h
       obtain ⟨x24,hx24,h⟩:=ob h
       refine XB [.no,.no,.no,.nums (c12.2.set (0+c12.1.toNat*1) x15)] [(2,rf 0),(4,rf 2),(5,rf 1),q6,(26,vl l),(27,vi c12.1)] [cs p_c,.vec [] (c12.2.set (0+c12.1.toNat*1) x15) [],q1,q3] [(0≤c12.1∧c12.1<((5:Nat):Int)),(([vi x15]:List V).length=1),StoreOk (([]:List V)++c12.2.map vi) (0+c12.1.toNat*1) [vi x15] (([]:List V)++(c12.2.set (0+c12.1.toNat*1) x15).map vi)] (And.intro ((need_of hx23:0≤c12.1∧c12.1<((5:Nat):Int))) (And.intro ((rfl:([vi x15]:List V).length=1)) (vecStore (p:=0) (pre:=[]) (k:=0+c12.1.toNat*1) rfl hx24 (by omega)))) ?_
       show awp ..
       refine YA [(2,rf 0),(4,rf 2),(5,rf 1),q6,(26,vl l),(27,vi (w64 (c12.1+1)))] ?_
       exact gn 4 [2,4,5,25,26,27] (hrn13 _ h)
     ·refine awp_exit ?_
      obtain rfl:=oi h
      exact gs [0,1,2,3] [4,5] OutQ.norm
    ·obtain ⟨x29,hx29,h⟩:=ob h
     obtain rfl:=oi h
     exact (main_retS [] (.tup [.d (.v (.pointer none)),.d (.agg (ro11.1.map di0)),vi ro11.2]) (by have hq:=need_of hx29;revert hq;(try dsimp only);generalize ro11.1=xs1;intro hq;exact match xs1,hq with|[a1_0,a1_1,a1_2,a1_3,a1_4],_=>rfl) (by kernel_rfl) (by kernel_rfl) (by kernel_rfl))
    ·show awp ..
     obtain ⟨x25,hx25,h⟩:=ob h
     obtain ⟨x26,hx26,h⟩:=ob h
     obtain ⟨x27,hx27,h⟩:=ob h
     refine sd [4,5,6] [.no,.cells (x25.map di0),.no,.nums x25] 3 [4,5,6,54] [(4,rf 2),(5,rf 1),(6,vi 0)] [cs p_c,vw x25,q1,q3] [LoadOk (([]:List V)++so11.map vi) 0 5 ((x25.map di0).map .d),((((x25.map di0).map V.d)).length=5),StoreOk (so11.map vi) 0 ((x25.map di0).map V.d) (x25.map vi)] (And.intro ((by rw [map_dd];exact vecLoads (p:=0) (pre:=[]) rfl hx25 rfl)) (And.intro ((by rw [map_dd];exact (List.length_map _).trans (need_of hx26))) ((by rw [map_dd];exact vecStores (n:=5) ((List.length_map _).trans (need_of hx27)) (need_of hx26))))) ?_
     obtain ⟨x28,hx28,h⟩:=ob h
     obtain rfl:=oi h
     refine WB 4 [(4,rf 2),(5,rf 1),(6,vi 0)] ?_
     exact awp_ret (main_retS [2,3] (.tup [rf 2,.d (.agg (x25.map di0)),vi 0]) (by have hq:=need_of hx28;revert hq;(try dsimp only);generalize x25=xs1;intro hq;exact match xs1,hq with|[a1_0,a1_1,a1_2,a1_3,a1_4],_=>rfl) (by kernel_rfl) (by kernel_rfl) (by kernel_rfl))
 | inr y30 =>
  rw [outK_inr] at h
  refine GB [.no,.hcall [] (.tup [.d (.v (.pointer none)),vi y30]) []] [q7,(2,rf 0),(4,.d (.v (.pointer none))),(5,rf 1),(6,vi y30)] q5 [HCall Try.prog 57 [.d (ca p_c)] [] (.tup [.d (.v (.pointer none)),vi y30]) []] (ct57v1 hx1) ?_
  refine HA [q7,(2,rf 0),(4,.d (.v (.pointer none))),(5,rf 1),(6,vi y30),(15,vb (y30 != 0))] ?_
  refine cd h (fun hb31 h=>?_) (fun hb31 h=>?_)
  ·obtain ⟨x32,hx32,h⟩:=ob h
   obtain ⟨x33,hx33,h⟩:=ob h
   refine awp_seq (awp_any (T':=[(4,.d (.v (.pointer none))),(5,rf 1),(6,vi y30)]) (H':=[cs p_c,vw x32]) (ps:=[LoadOk (([]:List V)++(List.replicate 5 (0:Int)).map vi) 0 5 ((x32.map di0).map .d),((((x32.map di0).map V.d)).length=5),StoreOk ((List.replicate 5 (0:Int)).map vi) 0 ((x32.map di0).map V.d) (x32.map vi)]) tt_ok mixed (ks:=[4,5,6]) (hs:=[.cells (x32.map di0),.no,.no,.nums x32]) (m:=4) (mid:=[4,5,6,17]) (by kernel_rfl) (And.intro ((by rw [map_dd];exact vecLoads (p:=0) (pre:=[]) rfl hx32 rfl)) (And.intro ((by rw [map_dd];exact (List.length_map _).trans (need_of hx33))) ((by rw [map_dd];exact vecStores (n:=5) rfl (need_of hx33))))) ?_)
   show awp ..
   obtain ⟨x34,hx34,h⟩:=ob h
   obtain rfl:=oi h
   refine WA 2 [(4,.d (.v (.pointer none))),(5,rf 1),(6,vi y30)] [cs p_c,vw x32] ?_
   exact awp_ret (main_retS [] (.tup [.d (.v (.pointer none)),.d (.agg (x32.map di0)),vi y30]) (by have hq:=need_of hx34;revert hq;(try dsimp only);generalize x32=xs1;intro hq;exact match xs1,hq with|[a1_0,a1_1,a1_2,a1_3,a1_4],_=>rfl) (by kernel_rfl) (by kernel_rfl) (by kernel_rfl))
  ·refine awp_skip ?_
   show awp ..
   refine awp_seq (GA [q7,(2,rf 0),(4,.d (.v (.pointer none))),(5,rf 1),(23,vb ((l.length:Int) != (p_c.Sheets.length:Int)))] q5 ?_)
   refine cd h (fun hb35 h=>?_) (fun hb35 h=>?_)
   ·obtain ⟨x36,hx36,h⟩:=ob h
    obtain ⟨x37,hx37,h⟩:=ob h
    refine sd [4,5,6] [.cells (x36.map di0),.no,.nums x36] 2 [4,5,6,24] [(4,.d (.v (.pointer none))),(5,rf 1),(6,vi 3)] [cs p_c,vw x36] [LoadOk (([]:List V)++(List.replicate 5 (0:Int)).map vi) 0 5 ((x36.map di0).map .d),((((x36.map di0).map V.d)).length=5),StoreOk ((List.replicate 5 (0:Int)).map vi) 0 ((x36.map di0).map V.d) (x36.map vi)] (And.intro ((by rw [map_dd];exact vecLoads (p:=0) (pre:=[]) rfl hx36 rfl)) (And.intro ((by rw [map_dd];exact (List.length_map _).trans (need_of hx37))) ((by rw [map_dd];exact vecStores (n:=5) rfl (need_of hx37))))) ?_
    obtain ⟨x38,hx38,h⟩:=ob h
    obtain rfl:=oi h
    refine WB 2 [(4,.d (.v (.pointer none))),(5,rf 1),(6,vi 3)] ?_
    exact awp_ret (main_retS [] (.tup [.d (.v (.pointer none)),.d (.agg (x36.map di0)),vi 3]) (by have hq:=need_of hx38;revert hq;(try dsimp only);generalize x36=xs1;intro hq;exact match xs1,hq with|[a1_0,a1_1,a1_2,a1_3,a1_4],_=>rfl) (by kernel_rfl) (by kernel_rfl) (by kernel_rfl))
   ·refine awp_skip ?_
    show awp ..
    let q4:St:=[(2,rf 0),(4,.d (.v (.pointer none))),(5,rf 1),(25,.d (L3 l)),(26,vl l),(27,vi 0)]
    refine awp_seq (GA q4 q5 ?_)
    refine cuo h (fun (ro39:(List Int)×Int)=>[(4,.d (.v (.pointer none))),(5,rf 0),(6,vi ro39.2)]) (fun (ro39:(List Int)×Int)=>[vw ro39.1]) (fun (so39:(List Int))=>[(4,.d (.v (.pointer none))),(5,rf 1)]) (fun (so39:(List Int))=>[cs p_c,vw so39]) (fun o39 h=>?_) (fun ro39 h=>?_) (fun so39 h=>?_)
    ·refine awp_selQ (WA 2 q4 q5 ?_)
     refine awp_block (awp_loop (n:=fuel) ?_)
     refine awpN_ind (fun n (c40:Int×(List Int))=>F59v1L2 fuel p_c l n c40) o39 (fun (c40:Int×(List Int))=>[(2,rf 0),(4,.d (.v (.pointer none))),(5,rf 1),(25,.d (L3 l)),(26,vl l),(27,vi c40.1)]) (fun (c40:Int×(List Int))=>[cs p_c,vw c40.2]) (fun _=>rfl) ?_ fuel (0,q2) h
     clear h
     intro n41 c40 h hrn41
     change F59v1L2 fuel p_c l (n41+1) c40=some o39 at h
     rw [F59v1L2] at h
     refine GA [(2,rf 0),(4,.d (.v (.pointer none))),(5,rf 1),(25,.d (L3 l)),(26,vl l),(27,vi c40.1),(28,vb (decide (c40.1<(l.length:Int))))] [cs p_c,vw c40.2] ?_
     refine awp_seq (cd h (fun hb42 h=>?_) (fun hb42 h=>?_))
     ·refine awp_skip ?_
      show awp ..
      refine awp_seq (awp_block ?_)
      obtain ⟨x43,hx43,h⟩:=ob h
      refine GB [.no,.cells (cel3 x43)] [(2,rf 0),(4,.d (.v (.pointer none))),(5,rf 1),(7,vi c40.1),(8,vi x43),(25,.d (L3 l)),(26,vl l),(27,vi c40.1)] [cs p_c,vw c40.2] [IX3 l c40.1 x43] (idxOk cel3_len hx43) ?_
      refine awp_seq ?_
      obtain ⟨x44,hx44,h⟩:=ob h
      obtain ⟨x45,hx45,h⟩:=ob h
      obtain ⟨x46,hx46,h⟩:=ob h
      refine hd [2,4,5,7,8,25,26,27,47] [.no,.no,.no,.cells (cel66 x44),.no,.no,.no,.no,.no,.no,.cells (cel66 x45),.no,.no,.no,.no,.call [(di (w64 (0-x44.Most))),(di x45.Most),(L3 ([x43]:List Int))] (vb x46)] 15 [2,4,5,7,8,25,26,27,38,44,46,47] [(2,rf 0),(4,.d (.v (.pointer none))),(5,rf 1),(7,vi c40.1),(8,vi x43),(25,.d (L3 l)),(26,vl l),(27,vi c40.1),(47,vb x46)] [IX66 p_c.Sheets c40.1 x44,IX66 p_c.Sheets c40.1 x45,PCall Try.prog 48 [(di (w64 (0-x44.Most))),(di x45.Most),(L3 ([x43]:List Int))] (vb x46)] (And.intro (idxOk cel66_len hx44) (And.intro (idxOk cel66_len hx45) (ct48 hx46))) ?_
      refine cd h (fun hb47 h=>?_) (fun hb47 h=>?_)
      ·obtain ⟨x48,hx48,h⟩:=ob h
       obtain ⟨x49,hx49,h⟩:=ob h
       obtain ⟨x50,hx50,h⟩:=ob h
       refine sd [4,5,6] [.cells (x48.map di0),.no,.nums x48] 2 [4,5,6,48] [(4,.d (.v (.pointer none))),(5,rf 1),(6,vi 7)] [cs p_c,vw x48] [LoadOk (([]:List V)++c40.2.map vi) 0 5 ((x48.map di0).map .d),((((x48.map di0).map V.d)).length=5),StoreOk (c40.2.map vi) 0 ((x48.map di0).map V.d) (x48.map vi)] (And.intro ((by rw [map_dd];exact vecLoads (p:=0) (pre:=[]) rfl hx48 rfl)) (And.intro ((by rw [map_dd];exact (List.length_map _).trans (need_of hx49))) ((by rw [map_dd];exact vecStores (n:=5) ((List.length_map _).trans (need_of hx50)) (need_of hx49))))) ?_
       obtain rfl:=oi h
       refine WB 2 [(4,.d (.v (.pointer none))),(5,rf 1),(6,vi 7)] ?_
       exact awp_ret (gs [1] [4,5,6] OutQ.ret)
      ·refine awp_skip ?_
       show awp ..
       obtain ⟨x51,hx51,h⟩:=ob h
       obtain ⟨x52,hx52,h⟩:=ob h
       refine XB [.no,.no,.no,.nums (c40.2.set (0+c40.1.toNat*1) x43)] [(2,rf 0),(4,.d (.v (.pointer none))),(5,rf 1),(25,.d (L3 l)),(26,vl l),(27,vi c40.1)] [cs p_c,.vec [] (c40.2.set (0+c40.1.toNat*1) x43) []] [(0≤c40.1∧c40.1<((5:Nat):Int)),(([vi x43]:List V).length=1),StoreOk (([]:List V)++c40.2.map vi) (0+c40.1.toNat*1) [vi x43] (([]:List V)++(c40.2.set (0+c40.1.toNat*1) x43).map vi)] (And.intro ((need_of hx51:0≤c40.1∧c40.1<((5:Nat):Int))) (And.intro ((rfl:([vi x43]:List V).length=1)) (vecStore (p:=0) (pre:=[]) (k:=0+c40.1.toNat*1) rfl hx52 (by omega)))) ?_
       show awp ..
       refine YA [(2,rf 0),(4,.d (.v (.pointer none))),(5,rf 1),(25,.d (L3 l)),(26,vl l),(27,vi (w64 (c40.1+1)))] ?_
       exact gn 2 [2,4,5,25,26,27] (hrn41 _ h)
     ·refine awp_exit ?_
      obtain rfl:=oi h
      exact gs [0,1] [4,5] OutQ.norm
    ·obtain ⟨x57,hx57,h⟩:=ob h
     obtain rfl:=oi h
     exact (main_retS [] (.tup [.d (.v (.pointer none)),.d (.agg (ro39.1.map di0)),vi ro39.2]) (by have hq:=need_of hx57;revert hq;(try dsimp only);generalize ro39.1=xs1;intro hq;exact match xs1,hq with|[a1_0,a1_1,a1_2,a1_3,a1_4],_=>rfl) (by kernel_rfl) (by kernel_rfl) (by kernel_rfl))
    ·show awp ..
     obtain ⟨x53,hx53,h⟩:=ob h
     obtain ⟨x54,hx54,h⟩:=ob h
     obtain ⟨x55,hx55,h⟩:=ob h
     refine sd [4,5,6] [.no,.cells (x53.map di0),.no,.nums x53] 3 [4,5,6,54] [(4,.d (.v (.pointer none))),(5,rf 1),(6,vi 0)] [cs p_c,vw x53] [LoadOk (([]:List V)++so39.map vi) 0 5 ((x53.map di0).map .d),((((x53.map di0).map V.d)).length=5),StoreOk (so39.map vi) 0 ((x53.map di0).map V.d) (x53.map vi)] (And.intro ((by rw [map_dd];exact vecLoads (p:=0) (pre:=[]) rfl hx53 rfl)) (And.intro ((by rw [map_dd];exact (List.length_map _).trans (need_of hx54))) ((by rw [map_dd];exact vecStores (n:=5) ((List.length_map _).trans (need_of hx55)) (need_of hx54))))) ?_
     obtain ⟨x56,hx56,h⟩:=ob h
     obtain rfl:=oi h
     refine WB 2 [(4,.d (.v (.pointer none))),(5,rf 1),(6,vi 0)] ?_
     exact awp_ret (main_retS [] (.tup [.d (.v (.pointer none)),.d (.agg (x53.map di0)),vi 0]) (by have hq:=need_of hx56;revert hq;(try dsimp only);generalize x53=xs1;intro hq;exact match xs1,hq with|[a1_0,a1_1,a1_2,a1_3,a1_4],_=>rfl) (by kernel_rfl) (by kernel_rfl) (by kernel_rfl))
theorem ct60 {fuel:Nat}  {p_x:(List Int)} {b0x0:Int} {b0x1:List S_api_EdSheet} {b0x2:List S_api_EdEdge} {b0x3:List Int} {m1:List ((List Int)×Int)} {res:Int} (h:F60 fuel p_x b0x0 b0x1 b0x2 b0x3 m1=some res):HCall Try.prog 60 [rf 0,.d (.agg (p_x.map di0))] [sv b0x0 b0x1 b0x2 b0x3 1,mq m1] (vi res) [sv b0x0 b0x1 b0x2 b0x3 1,mq m1]:=by
 refine HCall.of_awpS tt_ok (N:=45) (fl:=2) Try.func60 rfl (by kernel_rfl) rfl rfl (Nat.le_of_ble_eq_true rfl) ?_
 unfold F60 at h
 let q1:O:=sv b0x0 b0x1 b0x2 b0x3 1
 refine GA [(0,rf 0),(3,rf 2)] [q1,mq m1,.cells ((p_x.map di0).map .d)] ?_
 refine awp_vec 2 ((p_x.map di0).map .d) [] p_x [] [q1,mq m1,vw p_x] (by kernel_rfl) (map_dd _) (by kernel_rfl) ?_
 let q2:Nat×V:=(11,.d (L71 b0x2))
 let q4:Nat×V:=(12,vl b0x2)
 refine awp_seq (GA [(0,rf 0),(3,rf 2),q2,q4,(13,vi 0)] [q1,mq m1,vw p_x] ?_)
 refine cuo h (fun (ro1:Int)=>[(4,vi ro1)]) (fun (ro1:Int)=>[q1,mq m1]) (fun (so1:Unit)=>[]) (fun (so1:Unit)=>[q1,mq m1,vw p_x]) (fun o1 h=>?_) (fun ro1 h=>?_) (fun so1 h=>?_)
 ·refine awp_selQ (WA 3 [(0,rf 0),(3,rf 2),q2,q4,(13,vi 0)] [q1,mq m1,vw p_x] ?_)
  refine awp_block (awp_loop (n:=fuel) ?_)
  refine awpN_ind (fun n (c2:Int)=>F60L1 fuel p_x b0x2 b0x3 n c2) o1 (fun (c2:Int)=>[(0,rf 0),(3,rf 2),q2,q4,(13,vi c2)]) (fun (c2:Int)=>[q1,mq m1,vw p_x]) (fun _=>rfl) ?_ fuel 0 h
  clear h
  intro n3 c2 h hrn3
  change F60L1 fuel p_x b0x2 b0x3 (n3+1) c2=some o1 at h
  rw [F60L1] at h
  refine GA [(0,rf 0),(3,rf 2),q2,q4,(13,vi c2),(14,vb (decide (c2<(b0x2.length:Int))))] [q1,mq m1,vw p_x] ?_
  refine awp_seq (cd h (fun hb4 h=>?_) (fun hb4 h=>?_))
  ·refine awp_skip ?_
   show awp ..
   refine awp_seq (awp_block ?_)
   obtain ⟨x5,hx5,h⟩:=ob h
   let q3:O:=.cells [vi x5.A,vi x5.B,.d (L74 x5.Points)]
   refine GB [.no,.cells (cel71 x5)] [(0,rf 0),(3,rf 2),(5,vi c2),(6,rf 3),q2,q4,(13,vi c2)] [q1,mq m1,vw p_x,q3] [IX71 b0x2 c2 x5] (idxOk cel71_len hx5) ?_
   obtain ⟨x6,hx6,h⟩:=ob h
   obtain ⟨x7,hx7,h⟩:=ob h
   obtain ⟨x8,hx8,h⟩:=ob h
   obtain ⟨x9,hx9,h⟩:=ob h
   obtain ⟨x10,hx10,h⟩:=ob h
   obtain ⟨x11,hx11,h⟩:=ob h
   obtain ⟨x12,hx12,h⟩:=ob h
   obtain ⟨x13,hx13,h⟩:=ob h
   obtain ⟨x14,hx14,h⟩:=ob h
   refine hd [0,3,5,11,12,13,42] [.no,.no,.no,.no,.no,.no,.vals [vi x7],.no,.no,.no,.no,.no,.no,.vals [vi x9],.no,.no,.no,.vals [vi x11],.no,.no,.no,.vals [vi x13],.no,.no,.call [(di x7),(di x9),(L3 ([(w64 (x11-x13))]:List Int))] (vb x14)] 24 [0,3,5,11,12,13,24,31,41,42] [(0,rf 0),(3,rf 2),(5,vi c2),q2,q4,(13,vi c2),(42,vb x14)] [(0≤c2∧c2<((8:Nat):Int)),LoadOk (([vi b0x0,.d (L66 b0x1),.d (L71 b0x2)]:List V)++(b0x3.map vi++([.mp 1]:List V))) (3+c2.toNat*2) 1 [vi x7],(0≤c2∧c2<((8:Nat):Int)),LoadOk (([vi b0x0,.d (L66 b0x1),.d (L71 b0x2)]:List V)++(b0x3.map vi++([.mp 1]:List V))) (3+c2.toNat*2+1) 1 [vi x9],(0≤x5.A∧x5.A<((5:Nat):Int)),LoadOk (([]:List V)++p_x.map vi) (0+x5.A.toNat*1) 1 [vi x11],(0≤x5.B∧x5.B<((5:Nat):Int)),LoadOk (([]:List V)++p_x.map vi) (0+x5.B.toNat*1) 1 [vi x13],PCall Try.prog 48 [(di x7),(di x9),(L3 ([(w64 (x11-x13))]:List Int))] (vb x14)] (And.intro ((need_of hx6:0≤c2∧c2<((8:Nat):Int))) (And.intro (vecLoadT (p:=3) (pre:=[vi b0x0,.d (L66 b0x1),.d (L71 b0x2)]) (k:=0+c2.toNat*2) rfl hx7 (by omega)) (And.intro ((need_of hx8:0≤c2∧c2<((8:Nat):Int))) (And.intro (vecLoadT (p:=3) (pre:=[vi b0x0,.d (L66 b0x1),.d (L71 b0x2)]) (k:=0+c2.toNat*2+1) rfl hx9 (by omega)) (And.intro ((need_of hx10:0≤x5.A∧x5.A<((5:Nat):Int))) (And.intro (vecLoad (p:=0) (pre:=[]) (k:=0+x5.A.toNat*1) rfl hx11 (by omega)) (And.intro ((need_of hx12:0≤x5.B∧x5.B<((5:Nat):Int))) (And.intro (vecLoad (p:=0) (pre:=[]) (k:=0+x5.B.toNat*1) rfl hx13 (by omega)) (ct48 hx14))))))))) ?_
   refine cd h (fun hb15 h=>?_) (fun hb15 h=>?_)
   ·refine GA [(4,vi c2)] [q1,mq m1,vw p_x,q3] ?_
    obtain rfl:=oi h
    refine WB 4 [(4,vi c2)] ?_
    exact awp_ret (gs [0,1] [4] OutQ.ret)
   ·refine awp_skip ?_
    show awp ..
    refine XA [(0,rf 0),(3,rf 2),q2,q4,(13,vi (w64 (c2+1)))] [q1,mq m1,vw p_x,q3] ?_
    exact gn 3 [0,3,11,12,13] (hrn3 _ h)
  ·refine awp_exit ?_
   obtain rfl:=oi h
   exact gs [0,1,2] [] OutQ.norm
 ·obtain rfl:=oi h
  exact (main_retS [0,1] (vi ro1) (by kernel_rfl) (by kernel_rfl) (by kernel_rfl) (by kernel_rfl))
 ·show awp ..
  refine GA [(4,vi (-1))] [q1,mq m1,vw p_x] ?_
  obtain rfl:=oi h
  refine WB 3 [(4,vi (-1))] ?_
  exact awp_ret (main_retS [0,1] (vi (-1)) (by kernel_rfl) (by kernel_rfl) (by kernel_rfl) (by kernel_rfl))
theorem ct20 {fuel:Nat}  {p_c:S_api_EdCase} {l:(List Int)} {res:Int×Int} (h:F20 fuel p_c l=some res):PCall Try.prog 20 [(ca p_c),(L3 l)] (.tup [vi res.1,vi res.2]):=by
 refine PCall.of_awp tt_ok (N:=22) Try.func20 rfl (by kernel_rfl) rfl (Nat.le_of_ble_eq_true rfl) rfl ?_
 unfold F20 at h
 refine GA [(1,.d (L3 l)),(2,rf 0)] [cs p_c] ?_
 obtain ⟨x1,hx1,h⟩:=ob h
 cases x1 with
 | inl y2 =>
  rw [outK_inl] at h
  obtain ⟨x3,hx3,h⟩:=ob h
  let q2:List O:=[sv y2.2.2.1 y2.2.2.2.1 y2.2.2.2.2.1 y2.2.2.2.2.2.1 1,mq y2.2.2.2.2.2.2]
  refine GB [.no,.no,.hcall [] (.tup [rf 0,.d (.agg (y2.1.map di0)),vi y2.2.1]) q2,.no,.no,.no,.no,.no,.no,.vals (y2.1.map vi)] [(6,rf 1),(7,rf 3),(8,vi y2.2.1)] [cs p_c,sv y2.2.2.1 y2.2.2.2.1 y2.2.2.2.2.1 y2.2.2.2.2.2.1 2,mq y2.2.2.2.2.2.2,.cells (y2.1.map vi)] [HCall Try.prog 59 [.d (ca p_c),.d (L3 l)] [] (.tup [rf 0,.d (.agg (y2.1.map di0)),vi y2.2.1]) [sv y2.2.2.1 y2.2.2.2.1 y2.2.2.2.2.1 y2.2.2.2.2.2.1 1,mq y2.2.2.2.2.2.2],((((y2.1.map di0).map V.d)).length=5),StoreOk ((List.replicate 5 (0:Int)).map vi) 0 ((y2.1.map di0).map V.d) (y2.1.map vi)] (And.intro (ct59v1 hx1) (And.intro ((by rw [map_dd];exact (List.length_map _).trans (need_of hx3))) ((by rw [map_dd];exact vecStores (n:=5) rfl (need_of hx3))))) ?_
  let q1:List O:=[cs p_c,sv y2.2.2.1 y2.2.2.2.1 y2.2.2.2.2.1 y2.2.2.2.2.2.1 2,mq y2.2.2.2.2.2.2,vw y2.1]
  refine awp_vec 3 (y2.1.map vi) [] y2.1 [] q1 (by kernel_rfl) rfl (by kernel_rfl) ?_
  refine awp_seq (GA [(6,rf 1),(7,rf 3),(8,vi y2.2.1),(17,vb (y2.2.1 != 0))] q1 ?_)
  refine cd h (fun hb4 h=>?_) (fun hb4 h=>?_)
  ·refine GA [(4,vi 0),(5,vi y2.2.1)] q1 ?_
   obtain rfl:=oi h
   refine WB 4 [(4,vi 0),(5,vi y2.2.1)] ?_
   exact awp_ret gm
  ·refine awp_skip ?_
   show awp ..
   obtain ⟨x5,hx5,h⟩:=ob h
   obtain ⟨x6,hx6,h⟩:=ob h
   refine GB [.no,.cells (x5.map di0),.hcall [(1,false),(2,false)] (vi x6) q2] [(4,vi x6),(5,vi 0)] q1 [LoadOk (([]:List V)++y2.1.map vi) 0 5 ((x5.map di0).map .d),HCall Try.prog 60 [rf 0,.d (.agg (x5.map di0))] [sv y2.2.2.1 y2.2.2.2.1 y2.2.2.2.2.1 y2.2.2.2.2.2.1 1,mq y2.2.2.2.2.2.2] (vi x6) [sv y2.2.2.1 y2.2.2.2.1 y2.2.2.2.2.1 y2.2.2.2.2.2.1 1,mq y2.2.2.2.2.2.2]] (And.intro ((by rw [map_dd];exact vecLoads (p:=0) (pre:=[]) rfl hx5 rfl)) (ct60 hx6)) ?_
   obtain rfl:=oi h
   refine WB 4 [(4,vi x6),(5,vi 0)] ?_
   exact awp_ret gm
 | inr y7 =>
  rw [outK_inr] at h
  obtain ⟨x8,hx8,h⟩:=ob h
  refine GB [.no,.no,.hcall [] (.tup [.d (.v (.pointer none)),.d (.agg (y7.1.map di0)),vi y7.2]) [],.no,.no,.no,.no,.no,.no,.vals (y7.1.map vi)] [(6,.d (.v (.pointer none))),(7,rf 1),(8,vi y7.2)] [cs p_c,.cells (y7.1.map vi)] [HCall Try.prog 59 [.d (ca p_c),.d (L3 l)] [] (.tup [.d (.v (.pointer none)),.d (.agg (y7.1.map di0)),vi y7.2]) [],((((y7.1.map di0).map V.d)).length=5),StoreOk ((List.replicate 5 (0:Int)).map vi) 0 ((y7.1.map di0).map V.d) (y7.1.map vi)] (And.intro (ct59v1 hx1) (And.intro ((by rw [map_dd];exact (List.length_map _).trans (need_of hx8))) ((by rw [map_dd];exact vecStores (n:=5) rfl (need_of hx8))))) ?_
  refine awp_vec 1 (y7.1.map vi) [] y7.1 [] [cs p_c,vw y7.1] (by kernel_rfl) rfl (by kernel_rfl) ?_
  refine awp_seq (GA [(6,.d (.v (.pointer none))),(7,rf 1),(8,vi y7.2),(17,vb (y7.2 != 0))] [cs p_c,vw y7.1] ?_)
  refine cd h (fun hb9 h=>?_) (fun hb9 h=>?_)
  ·refine GA [(4,vi 0),(5,vi y7.2)] [cs p_c,vw y7.1] ?_
   obtain rfl:=oi h
   refine WB 2 [(4,vi 0),(5,vi y7.2)] ?_
   exact awp_ret gm
  ·refine awp_skip ?_
   show awp ..
   exact absurd h (by simp)
theorem ct63 {fuel:Nat}  {p_x:(List Int)} {b0x0:Int} {b0x1:List S_api_EdSheet} {b0x2:List S_api_EdEdge} {b0x3:List Int} {m1:List ((List Int)×Int)} {res:Int×(List ((List Int)×Int))} (h:F63 fuel p_x b0x0 b0x1 b0x2 b0x3 m1=some res):HCall Try.prog 63 [rf 0,.d (.agg (p_x.map di0))] [sv b0x0 b0x1 b0x2 b0x3 1,mq m1] (vi res.1) [sv b0x0 b0x1 b0x2 b0x3 1,mq res.2]:=by
 refine HCall.of_awpS tt_ok (N:=52) (fl:=2) Try.func63 rfl (by kernel_rfl) rfl rfl (Nat.le_of_ble_eq_true rfl) ?_
 unfold F63 at h
 let q2:O:=sv b0x0 b0x1 b0x2 b0x3 1
 refine GA [(0,rf 0),(3,rf 2)] [q2,mq m1,.cells ((p_x.map di0).map .d)] ?_
 let q1:List O:=[q2,mq m1,vw p_x]
 refine awp_vec 2 ((p_x.map di0).map .d) [] p_x [] q1 (by kernel_rfl) (map_dd _) (by kernel_rfl) ?_
 obtain ⟨x1,hx1,h⟩:=ob h
 obtain ⟨x2,hx2,h⟩:=ob h
 obtain ⟨x3,hx3,h⟩:=ob h
 obtain ⟨x4,hx4,h⟩:=ob h
 let q3:Nat×V:=(5,vi ((mget eqk101 x2 m1).getD 0))
 refine sd [0,3,5,6] [.no,.no,.no,.vals [.mp 1],.cells (x2.map di0),.look (di ((mget eqk101 x2 m1).getD 0)) (mget eqk101 x2 m1).isSome] 10 [0,3,5,6,17] [(0,rf 0),(3,rf 2),q3,(6,vb (mget eqk101 x2 m1).isSome)] q1 [LoadOk (([vi b0x0,.d (L66 b0x1),.d (L71 b0x2)]:List V)++(b0x3.map vi++([.mp 1]:List V))) 19 1 [.mp 1],LoadOk (([]:List V)++p_x.map vi) 0 5 ((x2.map di0).map .d),LookOk (mpo101x3 m1) (.agg (x2.map di0)) (di 0) (di ((mget eqk101 x2 m1).getD 0)) (mget eqk101 x2 m1).isSome,(eqB Try.prog 101 (.agg (x2.map di0))=true)] (And.intro (vecBehind (p:=3) (n:=16) (j:=0) rfl (need_of hx1) rfl rfl) (And.intro ((by rw [map_dd];exact vecLoads (p:=0) (pre:=[]) rfl hx2 rfl)) (And.intro (lookOkP (fk:=dat101) (fv:=dat3) eqk101_ok rfl (lenb (need_of hx3)) (need_of hx4)) (arrk101 (need_of hx3))))) ?_
 refine awp_seq (HA [(0,rf 0),(3,rf 2),q3,(19,vb (!(mget eqk101 x2 m1).isSome))] ?_)
 refine cd h (fun hb5 h=>?_) (fun hb5 h=>?_)
 ·let q4:Nat×V:=(24,.d (L66 b0x1))
  refine awp_seq (GA [(0,rf 0),(3,rf 2),q3,q4,(25,vl b0x1),(26,vi 0)] q1 ?_)
  refine cuo h (fun (ro6:Int×(List ((List Int)×Int)))=>[(4,vi ro6.1)]) (fun (ro6:Int×(List ((List Int)×Int)))=>[q2,mq ro6.2]) (fun (so6:Int)=>[(0,rf 0),(3,rf 2),(5,vi so6)]) (fun (so6:Int)=>[q2,mq m1,vw p_x]) (fun o6 h=>?_) (fun ro6 h=>?_) (fun so6 h=>?_)
  ·refine awp_selQ (WA 3 [(0,rf 0),(3,rf 2),q3,q4,(25,vl b0x1),(26,vi 0)] q1 ?_)
   refine awp_block (awp_loop (n:=fuel) ?_)
   refine awpN_ind (fun n (c7:Int×Int)=>F63L1 p_x b0x1 n c7) o6 (fun (c7:Int×Int)=>[(0,rf 0),(3,rf 2),(5,vi c7.1),q4,(25,vl b0x1),(26,vi c7.2)]) (fun (c7:Int×Int)=>[q2,mq m1,vw p_x]) (fun _=>rfl) ?_ fuel (((mget eqk101 x2 m1).getD 0),0) h
   clear h
   intro n8 c7 h hrn8
   change F63L1 p_x b0x1 (n8+1) c7=some o6 at h
   rw [F63L1] at h
   refine GA [(0,rf 0),(3,rf 2),(5,vi c7.1),q4,(25,vl b0x1),(26,vi c7.2),(27,vb (decide (c7.2<(b0x1.length:Int))))] q1 ?_
   refine awp_seq (cd h (fun hb9 h=>?_) (fun hb9 h=>?_))
   ·refine awp_skip ?_
    show awp ..
    refine awp_seq (awp_block ?_)
    obtain ⟨x10,hx10,h⟩:=ob h
    let q5:O:=.cells [.d (.v (.string x10.Name)),vi x10.Weight,vi x10.Most]
    refine GB [.no,.cells (cel66 x10)] [(0,rf 0),(3,rf 2),(5,vi c7.1),(7,vi c7.2),(8,rf 3),q4,(25,vl b0x1),(26,vi c7.2)] [q2,mq m1,vw p_x,q5] [IX66 b0x1 c7.2 x10] (idxOk cel66_len hx10) ?_
    obtain ⟨x11,hx11,h⟩:=ob h
    obtain ⟨x12,hx12,h⟩:=ob h
    obtain ⟨x13,hx13,h⟩:=ob h
    obtain ⟨x14,hx14,h⟩:=ob h
    refine awp_any (T':=[(0,rf 0),(3,rf 2),(5,vi (w64 (c7.1+(w64 (x10.Weight*(if (w64 (0-x14))>x12 then (w64 (0-x14)) else x12)))))),(24,.d (L66 b0x1)),(25,vl b0x1),(26,vi c7.2)]) (H':=[sv b0x0 b0x1 b0x2 b0x3 1,mq m1,vw p_x,.cells [.d (.v (.string x10.Name)),vi x10.Weight,vi x10.Most]]) (ps:=[(0≤c7.2∧c7.2<((5:Nat):Int)),LoadOk (([]:List V)++p_x.map vi) (0+c7.2.toNat*1) 1 [vi x12],(0≤c7.2∧c7.2<((5:Nat):Int)),LoadOk (([]:List V)++p_x.map vi) (0+c7.2.toNat*1) 1 [vi x14]]) tt_ok mixed (ks:=[0,3,5,24,25,26]) (hs:=[.no,.no,.no,.no,.no,.vals [vi x12],.no,.no,.vals [vi x14]]) (m:=12) (mid:=[0,3,5,24,25,26,31,42,43]) (by kernel_rfl) (And.intro ((need_of hx11:0≤c7.2∧c7.2<((5:Nat):Int))) (And.intro (vecLoad (p:=0) (pre:=[]) (k:=0+c7.2.toNat*1) rfl hx12 (by omega)) (And.intro ((need_of hx13:0≤c7.2∧c7.2<((5:Nat):Int))) (vecLoad (p:=0) (pre:=[]) (k:=0+c7.2.toNat*1) rfl hx14 (by omega))))) ?_
    show awp ..
    refine XA [(0,rf 0),(3,rf 2),(5,vi (w64 (c7.1+(w64 (x10.Weight*(if (w64 (0-x14))>x12 then (w64 (0-x14)) else x12)))))),q4,(25,vl b0x1),(26,vi (w64 (c7.2+1)))] [q2,mq m1,vw p_x,q5] ?_
    exact gn 3 [0,3,5,24,25,26] (hrn8 _ h)
   ·refine awp_exit ?_
    obtain rfl:=oi h
    exact gs [0,1,2] [0,3,5] OutQ.norm
  ·obtain rfl:=oi h
   exact (main_retS [0,1] (vi ro6.1) (by kernel_rfl) (by kernel_rfl) (by kernel_rfl) (by kernel_rfl))
  ·show awp ..
   obtain ⟨x15,hx15,h⟩:=ob h
   obtain ⟨x16,hx16,h⟩:=ob h
   obtain ⟨x17,hx17,h⟩:=ob h
   obtain ⟨x18,hx18,h⟩:=ob h
   refine awp_any (T':=[(5,vi so6)]) (H':=[sv b0x0 b0x1 b0x2 b0x3 1,mq (mset eqk101 x16 so6 m1),vw p_x]) (ps:=[LoadOk (([vi b0x0,.d (L66 b0x1),.d (L71 b0x2)]:List V)++(b0x3.map vi++([.mp 1]:List V))) 19 1 [.mp 1],LoadOk (([]:List V)++p_x.map vi) 0 5 ((x16.map di0).map .d),(setD (.agg (x16.map di0)) (di so6) (mpo101x3 m1)=some (mpo101x3 (mset eqk101 x16 so6 m1))),(eqB Try.prog 101 (.agg (x16.map di0))=true)]) tt_ok mixed (ks:=[5]) (hs:=[.no,.no,.no,.vals [.mp 1],.cells (x16.map di0),.no,.kvs (mpo101x3 (mset eqk101 x16 so6 m1))]) (m:=6) (mid:=[5,48,49,50]) (by kernel_rfl) (And.intro (vecBehind (p:=3) (n:=16) (j:=0) rfl (need_of hx15) rfl rfl) (And.intro ((by rw [map_dd];exact vecLoads (p:=0) (pre:=[]) rfl hx16 rfl)) (And.intro (setOkP (fk:=dat101) (fv:=dat3) eqk101_ok so6 (lenb (need_of hx17)) m1 (need_of hx18)) (arrk101 (need_of hx17))))) ?_
   show awp ..
   refine GA [(4,vi so6)] [q2,mq (mset eqk101 x16 so6 m1),vw p_x] ?_
   obtain rfl:=oi h
   refine WB 3 [(4,vi so6)] ?_
   exact awp_ret (main_retS [0,1] (vi so6) (by kernel_rfl) (by kernel_rfl) (by kernel_rfl) (by kernel_rfl))
 ·refine awp_skip ?_
  show awp ..
  refine GA [(4,vi ((mget eqk101 x2 m1).getD 0))] q1 ?_
  obtain rfl:=oi h
  refine WB 3 [(4,vi ((mget eqk101 x2 m1).getD 0))] ?_
  exact awp_ret (main_retS [0,1] (vi ((mget eqk101 x2 m1).getD 0)) (by kernel_rfl) (by kernel_rfl) (by kernel_rfl) (by kernel_rfl))
theorem ct22 {fuel:Nat}  {p_c:S_api_EdCase} {l:(List Int)} {res:Int×Int} (h:F22 fuel p_c l=some res):PCall Try.prog 22 [(ca p_c),(L3 l)] (.tup [vi res.1,vi res.2]):=by
 refine PCall.of_awp tt_ok (N:=22) Try.func22 rfl (by kernel_rfl) rfl (Nat.le_of_ble_eq_true rfl) rfl ?_
 unfold F22 at h
 refine GA [(1,.d (L3 l)),(2,rf 0)] [cs p_c] ?_
 obtain ⟨x1,hx1,h⟩:=ob h
 cases x1 with
 | inl y2 =>
  rw [outK_inl] at h
  obtain ⟨x3,hx3,h⟩:=ob h
  let q1:O:=sv y2.2.2.1 y2.2.2.2.1 y2.2.2.2.2.1 y2.2.2.2.2.2.1 2
  let q2:O:=mq y2.2.2.2.2.2.2
  refine GB [.no,.no,.hcall [] (.tup [rf 0,.d (.agg (y2.1.map di0)),vi y2.2.1]) [sv y2.2.2.1 y2.2.2.2.1 y2.2.2.2.2.1 y2.2.2.2.2.2.1 1,q2],.no,.no,.no,.no,.no,.no,.vals (y2.1.map vi)] [(6,rf 1),(7,rf 3),(8,vi y2.2.1)] [cs p_c,q1,q2,.cells (y2.1.map vi)] [HCall Try.prog 59 [.d (ca p_c),.d (L3 l)] [] (.tup [rf 0,.d (.agg (y2.1.map di0)),vi y2.2.1]) [sv y2.2.2.1 y2.2.2.2.1 y2.2.2.2.2.1 y2.2.2.2.2.2.1 1,mq y2.2.2.2.2.2.2],((((y2.1.map di0).map V.d)).length=5),StoreOk ((List.replicate 5 (0:Int)).map vi) 0 ((y2.1.map di0).map V.d) (y2.1.map vi)] (And.intro (ct59v1 hx1) (And.intro ((by rw [map_dd];exact (List.length_map _).trans (need_of hx3))) ((by rw [map_dd];exact vecStores (n:=5) rfl (need_of hx3))))) ?_
  refine awp_vec 3 (y2.1.map vi) [] y2.1 [] [cs p_c,q1,q2,vw y2.1] (by kernel_rfl) rfl (by kernel_rfl) ?_
  refine awp_seq (GA [(6,rf 1),(7,rf 3),(8,vi y2.2.1),(17,vb (y2.2.1 != 0))] [cs p_c,q1,q2,vw y2.1] ?_)
  refine cd h (fun hb4 h=>?_) (fun hb4 h=>?_)
  ·refine GA [(4,vi 0),(5,vi y2.2.1)] [cs p_c,q1,q2,vw y2.1] ?_
   obtain rfl:=oi h
   refine WB 4 [(4,vi 0),(5,vi y2.2.1)] ?_
   exact awp_ret gm
  ·refine awp_skip ?_
   show awp ..
   obtain ⟨x5,hx5,h⟩:=ob h
   obtain ⟨x6,hx6,h⟩:=ob h
   refine GB [.no,.cells (x5.map di0),.hcall [(1,false),(2,false)] (vi x6.1) [sv y2.2.2.1 y2.2.2.2.1 y2.2.2.2.2.1 y2.2.2.2.2.2.1 1,mq x6.2]] [(4,vi x6.1),(5,vi 0)] [cs p_c,q1,mq x6.2,vw y2.1] [LoadOk (([]:List V)++y2.1.map vi) 0 5 ((x5.map di0).map .d),HCall Try.prog 63 [rf 0,.d (.agg (x5.map di0))] [sv y2.2.2.1 y2.2.2.2.1 y2.2.2.2.2.1 y2.2.2.2.2.2.1 1,mq y2.2.2.2.2.2.2] (vi x6.1) [sv y2.2.2.1 y2.2.2.2.1 y2.2.2.2.2.1 y2.2.2.2.2.2.1 1,mq x6.2]] (And.intro ((by rw [map_dd];exact vecLoads (p:=0) (pre:=[]) rfl hx5 rfl)) (ct63 hx6)) ?_
   obtain rfl:=oi h
   refine WB 4 [(4,vi x6.1),(5,vi 0)] ?_
   exact awp_ret gm
 | inr y7 =>
  rw [outK_inr] at h
  obtain ⟨x8,hx8,h⟩:=ob h
  refine GB [.no,.no,.hcall [] (.tup [.d (.v (.pointer none)),.d (.agg (y7.1.map di0)),vi y7.2]) [],.no,.no,.no,.no,.no,.no,.vals (y7.1.map vi)] [(6,.d (.v (.pointer none))),(7,rf 1),(8,vi y7.2)] [cs p_c,.cells (y7.1.map vi)] [HCall Try.prog 59 [.d (ca p_c),.d (L3 l)] [] (.tup [.d (.v (.pointer none)),.d (.agg (y7.1.map di0)),vi y7.2]) [],((((y7.1.map di0).map V.d)).length=5),StoreOk ((List.replicate 5 (0:Int)).map vi) 0 ((y7.1.map di0).map V.d) (y7.1.map vi)] (And.intro (ct59v1 hx1) (And.intro ((by rw [map_dd];exact (List.length_map _).trans (need_of hx8))) ((by rw [map_dd];exact vecStores (n:=5) rfl (need_of hx8))))) ?_
  refine awp_vec 1 (y7.1.map vi) [] y7.1 [] [cs p_c,vw y7.1] (by kernel_rfl) rfl (by kernel_rfl) ?_
  refine awp_seq (GA [(6,.d (.v (.pointer none))),(7,rf 1),(8,vi y7.2),(17,vb (y7.2 != 0))] [cs p_c,vw y7.1] ?_)
  refine cd h (fun hb9 h=>?_) (fun hb9 h=>?_)
  ·refine GA [(4,vi 0),(5,vi y7.2)] [cs p_c,vw y7.1] ?_
   obtain rfl:=oi h
   refine WB 2 [(4,vi 0),(5,vi y7.2)] ?_
   exact awp_ret gm
  ·refine awp_skip ?_
   show awp ..
   exact absurd h (by simp)
end Go.Proofs.Ytallnifoeahpiaa
