/- That functions of the seat compute this. Printed by a program of mine. -/
import Derived.Test.YtallnifoeahpiaaS
import Derived.Test.YtallnifoeahpiaaCEA
import Derived.Test.YtallnifoeahpiaaDEB
namespace Go.Proofs.Ytallnifoeahpiaa
open Go Go.Sx
set_option maxRecDepth 100000
set_option linter.unusedVariables false
theorem ct57v1 {fuel:Nat}  {p_c:S_api_EdCase} {res:(Int×Int×(List S_api_EdSheet)×(List S_api_EdEdge)×(List Int)×(List ((List Int)×Int)))⊕(Int)} (h:F57v1 fuel p_c=some res):HCall Try.prog 57 [.d (ca p_c)] [] (Sum.elim (fun (q:Int×Int×(List S_api_EdSheet)×(List S_api_EdEdge)×(List Int)×(List ((List Int)×Int)))=>(.tup [rf 0,vi q.1]:V)) (fun (q:Int)=>(.tup [.d (.v (.pointer none)),vi q]:V)) res) (Sum.elim (fun (q:Int×Int×(List S_api_EdSheet)×(List S_api_EdEdge)×(List Int)×(List ((List Int)×Int)))=>([sv q.2.1 q.2.2.1 q.2.2.2.1 q.2.2.2.2.1 1,mq q.2.2.2.2.2]:List O)) (fun (q:Int)=>([]:List O)) res):=by
 refine HCall.of_awpS tt_ok (N:=73) (fl:=0) Try.func57 rfl (by kernel_rfl) rfl rfl (Nat.le_of_ble_eq_true rfl) ?_
 unfold F57v1 at h
 refine GA [(1,rf 0)] [cs p_c] ?_
 refine awp_seq ?_
 obtain ⟨x1,hx1,h⟩:=ob h
 refine HB [.no,.call [(ca p_c)] (.tup [vi x1.1,vi x1.2.1,vi x1.2.2])] [(1,rf 0),(6,vi x1.2.2)] [PCall Try.prog 16 [(ca p_c)] (.tup [vi x1.1,vi x1.2.1,vi x1.2.2])] (ct16 hx1) ?_
 refine HA [(1,rf 0),(6,vi x1.2.2),(21,vb (x1.2.2 != 0))] ?_
 refine cd h (fun hb2 h=>?_) (fun hb2 h=>?_)
 ·refine GA [(2,.d (.v (.pointer none))),(3,vi x1.2.2)] [cs p_c] ?_
  obtain rfl:=oi h
  refine WB 1 [(2,.d (.v (.pointer none))),(3,vi x1.2.2)] ?_
  exact awp_ret (main_retS [] (.tup [.d (.v (.pointer none)),vi x1.2.2]) (by kernel_rfl) (by kernel_rfl) (by kernel_rfl) (by kernel_rfl))
 ·refine awp_skip ?_
  show awp ..
  let q10:=(List.replicate 16 (0:Int))
  refine GA [(1,rf 0),(7,rf 2)] [cs p_c,.map [],.cells ([vi p_c.Tol,.d (L66 p_c.Sheets),.d (L71 p_c.Edges)]++q10.map vi++[.mp 1])] ?_
  let q4:List O:=[cs p_c,.map [],.vec [vi p_c.Tol,.d (L66 p_c.Sheets),.d (L71 p_c.Edges)] q10 [.mp 1]]
  refine awp_vec 2 (([vi p_c.Tol,.d (L66 p_c.Sheets),.d (L71 p_c.Edges)]:List V)++(q10.map vi++([.mp 1]:List V))) [vi p_c.Tol,.d (L66 p_c.Sheets),.d (L71 p_c.Edges)] q10 [.mp 1] q4 (by kernel_rfl) rfl (by kernel_rfl) ?_
  let q2:Nat×V:=(28,.d (L71 p_c.Edges))
  let q5:Nat×V:=(29,vl p_c.Edges)
  refine awp_seq (GA [(1,rf 0),(7,rf 2),q2,q5,(30,vi 0)] q4 ?_)
  refine cuo h (fun (ro3:Int)=>[(2,.d (.v (.pointer none))),(3,vi ro3)]) (fun (ro3:Int)=>[]) (fun (so3:(List Int))=>[(7,rf 2)]) (fun (so3:(List Int))=>[cs p_c,.map [],sv p_c.Tol p_c.Sheets p_c.Edges so3 1]) (fun o3 h=>?_) (fun ro3 h=>?_) (fun so3 h=>?_)
  ·refine awp_selQ (WA 3 [(1,rf 0),(7,rf 2),q2,q5,(30,vi 0)] q4 ?_)
   refine awp_block (awp_loop (n:=fuel) ?_)
   refine awpN_ind (fun n (c4:Int×(List Int))=>F57v1L1 fuel p_c n c4) o3 (fun (c4:Int×(List Int))=>[(1,rf 0),(7,rf 2),q2,q5,(30,vi c4.1)]) (fun (c4:Int×(List Int))=>[cs p_c,.map [],sv p_c.Tol p_c.Sheets p_c.Edges c4.2 1]) (fun _=>rfl) ?_ fuel (0,q10) h
   clear h
   intro n5 c4 h hrn5
   change F57v1L1 fuel p_c (n5+1) c4=some o3 at h
   rw [F57v1L1] at h
   let q7:O:=sv p_c.Tol p_c.Sheets p_c.Edges c4.2 1
   let q11:Nat×V:=(30,vi c4.1)
   refine GA [(1,rf 0),(7,rf 2),q2,q5,q11,(31,vb (decide (c4.1<(p_c.Edges.length:Int))))] [cs p_c,.map [],q7] ?_
   refine awp_seq (cd h (fun hb6 h=>?_) (fun hb6 h=>?_))
   ·refine awp_skip ?_
    show awp ..
    refine awp_seq (awp_block ?_)
    obtain ⟨x7,hx7,h⟩:=ob h
    let q6:O:=.cells [vi x7.A,vi x7.B,.d (L74 x7.Points)]
    let q1:List O:=[cs p_c,.map [],q7,q6]
    let q15:Nat×V:=(8,vi c4.1)
    refine GB [.no,.cells (cel71 x7)] [(1,rf 0),(7,rf 2),q15,(9,rf 3),q2,q5,q11] q1 [IX71 p_c.Edges c4.1 x7] (idxOk cel71_len hx7) ?_
    refine HA [(1,rf 0),(7,rf 2),q15,(9,rf 3),(10,vi (-18000)),(11,vi 18000),q2,q5,q11] ?_
    let q8:Nat×V:=(36,.d (L74 x7.Points))
    let q12:Nat×V:=(37,vl x7.Points)
    refine awp_seq (HA [(1,rf 0),(7,rf 2),q15,(10,vi (-18000)),(11,vi 18000),q2,q5,q11,q8,q12,(38,vi 0)] ?_)
    refine cuo h (fun (ro8:Int)=>[(2,.d (.v (.pointer none))),(3,vi ro8)]) (fun (ro8:Int)=>[]) (fun (so8:Int×Int)=>[(1,rf 0),(7,rf 2),q15,(10,vi so8.1),(11,vi so8.2),q2,q5,q11]) (fun (so8:Int×Int)=>[cs p_c,.map [],q7,q6]) (fun o8 h=>?_) (fun ro8 h=>?_) (fun so8 h=>?_)
    ·refine awp_selQ (WA 4 [(1,rf 0),(7,rf 2),q15,(10,vi (-18000)),(11,vi 18000),q2,q5,q11,q8,q12,(38,vi 0)] q1 ?_)
     refine awp_block (awp_loop (n:=fuel) ?_)
     refine awpN_ind (fun n (c9:Int×Int×Int)=>F57v1L2 p_c x7 n c9) o8 (fun (c9:Int×Int×Int)=>[(1,rf 0),(7,rf 2),q15,(10,vi c9.1),(11,vi c9.2.1),q2,q5,q11,q8,q12,(38,vi c9.2.2)]) (fun (c9:Int×Int×Int)=>[cs p_c,.map [],q7,q6]) (fun _=>rfl) ?_ fuel ((-18000),18000,0) h
     clear h
     intro n10 c9 h hrn10
     change F57v1L2 p_c x7 (n10+1) c9=some o8 at h
     rw [F57v1L2] at h
     refine GA [(1,rf 0),(7,rf 2),q15,(10,vi c9.1),(11,vi c9.2.1),q2,q5,q11,q8,q12,(38,vi c9.2.2),(39,vb (decide (c9.2.2<(x7.Points.length:Int))))] q1 ?_
     refine awp_seq (cd h (fun hb11 h=>?_) (fun hb11 h=>?_))
     ·refine awp_skip ?_
      show awp ..
      refine awp_seq (awp_block ?_)
      obtain ⟨x12,hx12,h⟩:=ob h
      let q3:List O:=[cs p_c,.map [],q7,q6,.cells [vi x12.A,vi x12.B]]
      refine GB [.cells (cel74 x12)] [(1,rf 0),(7,rf 2),q15,(10,vi c9.1),(11,vi c9.2.1),(13,rf 4),q2,q5,q11,q8,q12,(38,vi c9.2.2)] q3 [IX74 x7.Points c9.2.2 x12] (idxOk cel74_len hx12) ?_
      let q9:=(w64 (x12.B-x12.A))
      let q13:Nat×V:=(11,vi (if (w64 (q9+p_c.Tol))<c9.2.1 then (w64 (q9+p_c.Tol)) else c9.2.1))
      let q14:Nat×V:=(10,vi (if (w64 (q9-p_c.Tol))>c9.1 then (w64 (q9-p_c.Tol)) else c9.1))
      refine awp_any (T':=[(1,rf 0),(7,rf 2),q15,q14,q13,q2,q5,q11,q8,q12,(38,vi c9.2.2)]) (H':=[cs p_c,.map [],q7,q6,.cells [vi x12.A,vi x12.B]]) (ps:=[]) tt_ok mixed (ks:=[1,7,8,10,11,28,29,30,36,37,38]) (hs:=[]) (m:=21) (mid:=[1,7,8,10,11,28,29,30,36,37,38,61]) (by kernel_rfl) trivial ?_
      show awp ..
      refine XA [(1,rf 0),(7,rf 2),q15,q14,q13,q2,q5,q11,q8,q12,(38,vi (w64 (c9.2.2+1)))] q3 ?_
      exact gn 4 [1,7,8,10,11,28,29,30,36,37,38] (hrn10 _ h)
     ·refine awp_exit ?_
      obtain rfl:=oi h
      exact gs [0,1,2,3] [1,7,8,10,11,28,29,30] OutQ.norm
    ·obtain rfl:=oi h
     exact gs [] [2,3] OutQ.ret
    ·show awp ..
     obtain ⟨x13,hx13,h⟩:=ob h
     obtain ⟨x14,hx14,h⟩:=ob h
     obtain ⟨x15,hx15,h⟩:=ob h
     refine XB [.no,.no,.no,.no,.no,.no,.no,.no,.nums ((c4.2.set (0+c4.1.toNat*2) so8.1).set (0+c4.1.toNat*2+1) so8.2)] [(1,rf 0),(7,rf 2),q2,q5,q11] [cs p_c,.map [],.vec [vi p_c.Tol,.d (L66 p_c.Sheets),.d (L71 p_c.Edges)] ((c4.2.set (0+c4.1.toNat*2) so8.1).set (0+c4.1.toNat*2+1) so8.2) [.mp 1],q6] [(0≤c4.1∧c4.1<((8:Nat):Int)),(([vi so8.1,vi so8.2]:List V).length=2),StoreOk (([vi p_c.Tol,.d (L66 p_c.Sheets),.d (L71 p_c.Edges)]:List V)++(c4.2.map vi++([.mp 1]:List V))) (3+c4.1.toNat*2) [vi so8.1,vi so8.2] (([vi p_c.Tol,.d (L66 p_c.Sheets),.d (L71 p_c.Edges)]:List V)++(((c4.2.set (0+c4.1.toNat*2) so8.1).set (0+c4.1.toNat*2+1) so8.2).map vi++([.mp 1]:List V)))] (And.intro ((need_of hx13:0≤c4.1∧c4.1<((8:Nat):Int))) (And.intro ((rfl:([vi so8.1,vi so8.2]:List V).length=2)) (vecStore2T (p:=3) (pre:=[vi p_c.Tol,.d (L66 p_c.Sheets),.d (L71 p_c.Edges)]) (k:=0+c4.1.toNat*2) rfl hx14 hx15 (by omega)))) ?_
     show awp ..
     refine YA [(1,rf 0),(7,rf 2),q2,q5,(30,vi (w64 (c4.1+1)))] ?_
     exact gn 3 [1,7,28,29,30] (hrn5 _ h)
   ·refine awp_exit ?_
    obtain rfl:=oi h
    exact gs [0,1,2] [7] OutQ.norm
  ·obtain rfl:=oi h
   exact (main_retS [] (.tup [.d (.v (.pointer none)),vi ro3]) (by kernel_rfl) (by kernel_rfl) (by kernel_rfl) (by kernel_rfl))
  ·show awp ..
   refine GA [(2,rf 2),(3,vi 0)] [cs p_c,.map [],sv p_c.Tol p_c.Sheets p_c.Edges so3 1] ?_
   obtain rfl:=oi h
   refine WB 3 [(2,rf 2),(3,vi 0)] ?_
   exact awp_ret (main_retS [2,1] (.tup [rf 2,vi 0]) (by kernel_rfl) (by kernel_rfl) (by kernel_rfl) (by kernel_rfl))
theorem ct18 {fuel:Nat}  {p_c:S_api_EdCase} {edge:Int} {res:S_api_Span×Int} (h:F18 fuel p_c edge=some res):PCall Try.prog 18 [(ca p_c),(di edge)] (.tup [.d (.agg [(di res.1.Lo),(di res.1.Hi)]),vi res.2]):=by
 refine PCall.of_awp tt_ok (N:=50) Try.func18 rfl (by kernel_rfl) rfl (Nat.le_of_ble_eq_true rfl) rfl ?_
 unfold F18 at h
 let q2:List O:=[cs p_c,.cells [vi 0,vi 0]]
 let q4:Nat×V:=(1,vi edge)
 refine GA [q4,(2,rf 0),(4,rf 1)] q2 ?_
 obtain ⟨x1,hx1,h⟩:=ob h
 cases x1 with
 | inl y2 =>
  rw [outK_inl] at h
  let q1:List O:=[cs p_c,.cells [vi 0,vi 0],sv y2.2.1 y2.2.2.1 y2.2.2.2.1 y2.2.2.2.2.1 3,mq y2.2.2.2.2.2]
  let q3:List O:=[sv y2.2.1 y2.2.2.1 y2.2.2.2.1 y2.2.2.2.2.1 1,mq y2.2.2.2.2.2]
  refine GB [.no,.hcall [] (.tup [rf 0,vi y2.1]) q3] [q4,(2,rf 0),(4,rf 1),(6,rf 2),(7,vi y2.1)] q1 [HCall Try.prog 57 [.d (ca p_c)] [] (.tup [rf 0,vi y2.1]) q3] (ct57v1 hx1) ?_
  refine awp_seq (awp_block ?_)
  refine HA [q4,(2,rf 0),(4,rf 1),(6,rf 2),(7,vi y2.1),(13,vb (y2.1 != 0))] ?_
  refine cd h (fun hb3 h=>?_) (fun hb3 h=>?_)
  ·refine GA [(4,rf 1),(5,vi y2.1)] q1 ?_
   obtain rfl:=oi h
   refine WB 4 [(4,rf 1),(5,vi y2.1)] ?_
   exact awp_ret gm
  ·obtain ⟨x4,hx4,h⟩:=ob h
   refine GB [.no,.no,.no,.no,.no,.no,.call [(di 0),(di (w64 ((p_c.Edges.length:Int)-1))),(L3 ([edge]:List Int))] (vb x4)] [q4,(4,rf 1),(6,rf 2),(18,vb x4)] q1 [PCall Try.prog 48 [(di 0),(di (w64 ((p_c.Edges.length:Int)-1))),(L3 ([edge]:List Int))] (vb x4)] (ct48 hx4) ?_
   refine cd h (fun hb5 h=>?_) (fun hb5 h=>?_)
   ·refine GA [(4,rf 1),(5,vi 4)] q1 ?_
    obtain rfl:=oi h
    refine WB 4 [(4,rf 1),(5,vi 4)] ?_
    exact awp_ret gm
   ·obtain ⟨x6,hx6,h⟩:=ob h
    obtain ⟨x7,hx7,h⟩:=ob h
    obtain ⟨x8,hx8,h⟩:=ob h
    obtain ⟨x9,hx9,h⟩:=ob h
    refine sd [1,4,6,27] [.no,.no,.no,.no,.no,.no,.vals [vi x7],.no,.no,.no,.no,.no,.no,.vals [vi x9]] 14 [1,4,6,27,34,41,42] [q4,(4,rf 1),(6,rf 2),(27,vb (decide (x7>x9)))] q1 [(0≤edge∧edge<((8:Nat):Int)),LoadOk (([vi y2.2.1,.d (L66 y2.2.2.1),.d (L71 y2.2.2.2.1)]:List V)++(y2.2.2.2.2.1.map vi++([.mp 3]:List V))) (3+edge.toNat*2) 1 [vi x7],(0≤edge∧edge<((8:Nat):Int)),LoadOk (([vi y2.2.1,.d (L66 y2.2.2.1),.d (L71 y2.2.2.2.1)]:List V)++(y2.2.2.2.2.1.map vi++([.mp 3]:List V))) (3+edge.toNat*2+1) 1 [vi x9]] (And.intro ((need_of hx6:0≤edge∧edge<((8:Nat):Int))) (And.intro (vecLoadT (p:=3) (pre:=[vi y2.2.1,.d (L66 y2.2.2.1),.d (L71 y2.2.2.2.1)]) (k:=0+edge.toNat*2) rfl hx7 (by omega)) (And.intro ((need_of hx8:0≤edge∧edge<((8:Nat):Int))) (vecLoadT (p:=3) (pre:=[vi y2.2.1,.d (L66 y2.2.2.1),.d (L71 y2.2.2.2.1)]) (k:=0+edge.toNat*2+1) rfl hx9 (by omega))))) ?_
    refine cd h (fun hb10 h=>?_) (fun hb10 h=>?_)
    ·refine GA [(4,rf 1),(5,vi 9)] q1 ?_
     obtain rfl:=oi h
     refine WB 4 [(4,rf 1),(5,vi 9)] ?_
     exact awp_ret gm
    ·refine awp_skip ?_
     show awp ..
     obtain ⟨x11,hx11,h⟩:=ob h
     obtain ⟨x12,hx12,h⟩:=ob h
     obtain ⟨x13,hx13,h⟩:=ob h
     refine GB [.no,.no,.no,.no,.no,.vals [vi x12,vi x13]] [(4,rf 1),(5,vi 0)] [cs p_c,.cells [vi x12,vi x13],sv y2.2.1 y2.2.2.1 y2.2.2.2.1 y2.2.2.2.2.1 3,mq y2.2.2.2.2.2] [(0≤edge∧edge<((8:Nat):Int)),LoadOk (([vi y2.2.1,.d (L66 y2.2.2.1),.d (L71 y2.2.2.2.1)]:List V)++(y2.2.2.2.2.1.map vi++([.mp 3]:List V))) (3+edge.toNat*2) 2 [vi x12,vi x13]] (And.intro ((need_of hx11:0≤edge∧edge<((8:Nat):Int))) (vecLoad2T (p:=3) (pre:=[vi y2.2.1,.d (L66 y2.2.2.1),.d (L71 y2.2.2.2.1)]) (k:=0+edge.toNat*2) rfl hx12 hx13 (by omega))) ?_
     obtain rfl:=oi h
     refine WB 4 [(4,rf 1),(5,vi 0)] ?_
     exact awp_ret gm
 | inr y14 =>
  rw [outK_inr] at h
  refine GB [.no,.hcall [] (.tup [.d (.v (.pointer none)),vi y14]) []] [q4,(2,rf 0),(4,rf 1),(6,.d (.v (.pointer none))),(7,vi y14)] q2 [HCall Try.prog 57 [.d (ca p_c)] [] (.tup [.d (.v (.pointer none)),vi y14]) []] (ct57v1 hx1) ?_
  refine awp_seq (awp_block ?_)
  refine HA [q4,(2,rf 0),(4,rf 1),(6,.d (.v (.pointer none))),(7,vi y14),(13,vb (y14 != 0))] ?_
  refine cd h (fun hb15 h=>?_) (fun hb15 h=>?_)
  ·refine GA [(4,rf 1),(5,vi y14)] q2 ?_
   obtain rfl:=oi h
   refine WB 2 [(4,rf 1),(5,vi y14)] ?_
   exact awp_ret gm
  ·obtain ⟨x16,hx16,h⟩:=ob h
   refine GB [.no,.no,.no,.no,.no,.no,.call [(di 0),(di (w64 ((p_c.Edges.length:Int)-1))),(L3 ([edge]:List Int))] (vb x16)] [q4,(4,rf 1),(6,.d (.v (.pointer none))),(18,vb x16)] q2 [PCall Try.prog 48 [(di 0),(di (w64 ((p_c.Edges.length:Int)-1))),(L3 ([edge]:List Int))] (vb x16)] (ct48 hx16) ?_
   refine cd h (fun hb17 h=>?_) (fun hb17 h=>?_)
   ·refine GA [(4,rf 1),(5,vi 4)] q2 ?_
    obtain rfl:=oi h
    refine WB 2 [(4,rf 1),(5,vi 4)] ?_
    exact awp_ret gm
   ·exact absurd h (by simp)
end Go.Proofs.Ytallnifoeahpiaa
