/- That functions of the seat compute this. Printed by a program of mine. -/
import Derived.Test.YtallnifoeahpiaaS
import Derived.Test.YtallnifoeahpiaaCEA
import Derived.Test.YtallnifoeahpiaaCEB
import Derived.Test.YtallnifoeahpiaaDEE
namespace Go.Proofs.Ytallnifoeahpiaa
open Go Go.Sx
set_option maxRecDepth 100000
set_option linter.unusedVariables false
theorem ct91  {p_x:S_api_Span} {res:Bool} (h:F91 p_x=some res):PCall Try.prog 91 [(.agg [(di p_x.Lo),(di p_x.Hi)])] (vb res):=by
 refine PCall.of_awp tt_ok (N:=8) Try.func91 rfl (by kernel_rfl) rfl (Nat.le_of_ble_eq_true rfl) rfl ?_
 unfold F91 at h
 refine GA [(1,rf 0)] [.cells [vi p_x.Lo,vi p_x.Hi]] ?_
 refine HA [(2,vb (decide (p_x.Lo>p_x.Hi)))] ?_
 obtain rfl:=oi h
 refine WB 1 [(2,vb (decide (p_x.Lo>p_x.Hi)))] ?_
 exact awp_ret gm
theorem ct104 {fuel:Nat}  {p_s:(List S_api_Span)} {res:Int} (h:F104 fuel p_s=some res):HCall Try.prog 104 [.d (L31 p_s),.fn (.func 91) [] []] [] (vi res) []:=by
 refine HCall.of_awpS tt_ok (N:=19) (fl:=0) Try.func104 rfl (by kernel_rfl) rfl rfl (Nat.le_of_ble_eq_true rfl) ?_
 unfold F104 at h
 let q1:Nat×V:=(1,.fn (.func 91) [] [])
 let q2:Nat×V:=(0,.d (L31 p_s))
 refine GA [q2,q1] [] ?_
 refine awp_seq (HA [q2,q1,(7,vl p_s),(8,vi 0)] ?_)
 refine cuo h (fun (ro1:Int)=>[(4,vi ro1)]) (fun (ro1:Int)=>[]) (fun (so1:Unit)=>[]) (fun (so1:Unit)=>[]) (fun o1 h=>?_) (fun ro1 h=>?_) (fun so1 h=>?_)
 ·refine awp_selQ (WA 0 [q2,q1,(7,vl p_s),(8,vi 0)] [] ?_)
  refine awp_block (awp_loop (n:=fuel) ?_)
  refine awpN_ind (fun n (c2:Int)=>F104L1 p_s n c2) o1 (fun (c2:Int)=>[q2,q1,(7,vl p_s),(8,vi c2)]) (fun (c2:Int)=>[]) (fun _=>rfl) ?_ fuel 0 h
  clear h
  intro n3 c2 h hrn3
  change F104L1 p_s (n3+1) c2=some o1 at h
  rw [F104L1] at h
  refine GA [q2,q1,(7,vl p_s),(8,vi c2),(9,vb (decide (c2<(p_s.length:Int))))] [] ?_
  refine awp_seq (cd h (fun hb4 h=>?_) (fun hb4 h=>?_))
  ·refine awp_skip ?_
   show awp ..
   refine awp_seq (awp_block ?_)
   refine GA [q2,q1,(5,vi c2),(7,vl p_s),(8,vi c2)] [] ?_
   obtain ⟨x5,hx5,h⟩:=ob h
   obtain ⟨x6,hx6,h⟩:=ob h
   refine HB [.no,.no,.no,.cells (cel31 x5),.no,.call [(.agg [(di x5.Lo),(di x5.Hi)])] (vb x6)] [q2,q1,(5,vi c2),(7,vl p_s),(8,vi c2),(16,vb x6)] [IX31 p_s c2 x5,PCall Try.prog 91 [(.agg [(di x5.Lo),(di x5.Hi)])] (vb x6)] (And.intro (idxOk cel31_len hx5) (ct91 hx6)) ?_
   refine cd h (fun hb7 h=>?_) (fun hb7 h=>?_)
   ·refine GA [(4,vi c2)] [] ?_
    obtain rfl:=oi h
    refine WB 0 [(4,vi c2)] ?_
    exact awp_ret (gs [] [4] OutQ.ret)
   ·refine awp_skip ?_
    show awp ..
    refine XA [q2,q1,(7,vl p_s),(8,vi (w64 (c2+1)))] [] ?_
    exact gn 0 [0,1,7,8] (hrn3 _ h)
  ·refine awp_exit ?_
   obtain rfl:=oi h
   exact gs [] [] OutQ.norm
 ·obtain rfl:=oi h
  exact (main_retS [] (vi ro1) (by kernel_rfl) (by kernel_rfl) (by kernel_rfl) (by kernel_rfl))
 ·show awp ..
  refine GA [(4,vi (-1))] [] ?_
  obtain rfl:=oi h
  refine WB 0 [(4,vi (-1))] ?_
  exact awp_ret (main_retS [] (vi (-1)) (by kernel_rfl) (by kernel_rfl) (by kernel_rfl) (by kernel_rfl))
theorem ct90 {fuel:Nat}  {p_s:(List S_api_Span)} {res:Bool} (h:F90 fuel p_s=some res):PCall Try.prog 90 [(L31 p_s),(.v (.func (.func 91) #[] #[]))] (vb res):=by
 refine PCall.of_awp tt_ok (N:=9) Try.func90 rfl (by kernel_rfl) rfl (Nat.le_of_ble_eq_true rfl) rfl ?_
 refine awp_reV 1 _ (.fn (.func 91) [] []) _ rfl (re_fn _) rfl ?_
 refine WA 0 [(0,.d (L31 p_s)),(1,.fn (.func 91) [] [])] [] ?_
 unfold F90 at h
 refine GA [(0,.d (L31 p_s)),(1,.fn (.func 91) [] [])] [] ?_
 obtain ⟨x1,hx1,h⟩:=ob h
 refine HB [.no,.no,.hcall [] (vi x1) []] [(4,vb (decide (x1≥0)))] [HCall Try.prog 104 [.d (L31 p_s),.fn (.func 91) [] []] [] (vi x1) []] (ct104 hx1) ?_
 obtain rfl:=oi h
 refine WB 0 [(4,vb (decide (x1≥0)))] ?_
 exact awp_ret gm
theorem ct68v1 {fuel:Nat}  {p_c:S_api_EdCase} {res:(Int×Int×(List S_api_EdSheet)×(List S_api_EdEdge)×(List Int)×(List ((List Int)×Int)))⊕(Int)} (h:F68v1 fuel p_c=some res):HCall Try.prog 68 [.d (ca p_c)] [] (Sum.elim (fun (q:Int×Int×(List S_api_EdSheet)×(List S_api_EdEdge)×(List Int)×(List ((List Int)×Int)))=>(.tup [rf 0,vi q.1]:V)) (fun (q:Int)=>(.tup [.d (.v (.pointer none)),vi q]:V)) res) (Sum.elim (fun (q:Int×Int×(List S_api_EdSheet)×(List S_api_EdEdge)×(List Int)×(List ((List Int)×Int)))=>([sv q.2.1 q.2.2.1 q.2.2.2.1 q.2.2.2.2.1 1,mq q.2.2.2.2.2]:List O)) (fun (q:Int)=>([]:List O)) res):=by
 refine HCall.of_awpS tt_ok (N:=24) (fl:=0) Try.func68 rfl (by kernel_rfl) rfl rfl (Nat.le_of_ble_eq_true rfl) ?_
 unfold F68v1 at h
 refine GA [(1,rf 0)] [cs p_c] ?_
 obtain ⟨x1,hx1,h⟩:=ob h
 cases x1 with
 | inl y2 =>
  rw [outK_inl] at h
  let q1:List O:=[cs p_c,sv y2.2.1 y2.2.2.1 y2.2.2.2.1 y2.2.2.2.2.1 2,mq y2.2.2.2.2.2]
  let q2:List O:=[sv y2.2.1 y2.2.2.1 y2.2.2.2.1 y2.2.2.2.2.1 1,mq y2.2.2.2.2.2]
  refine GB [.no,.hcall [] (.tup [rf 0,vi y2.1]) q2] [(1,rf 0),(4,rf 1),(5,vi y2.1)] q1 [HCall Try.prog 57 [.d (ca p_c)] [] (.tup [rf 0,vi y2.1]) q2] (ct57v1 hx1) ?_
  refine awp_seq (HA [(1,rf 0),(4,rf 1),(5,vi y2.1),(12,vb (y2.1 != 0))] ?_)
  refine cd h (fun hb3 h=>?_) (fun hb3 h=>?_)
  ·refine GA [(2,.d (.v (.pointer none))),(3,vi y2.1)] q1 ?_
   obtain rfl:=oi h
   refine WB 3 [(2,.d (.v (.pointer none))),(3,vi y2.1)] ?_
   exact awp_ret (main_retS [] (.tup [.d (.v (.pointer none)),vi y2.1]) (by kernel_rfl) (by kernel_rfl) (by kernel_rfl) (by kernel_rfl))
  ·refine awp_skip ?_
   show awp ..
   refine awp_seq ?_
   obtain ⟨x4,hx4,h⟩:=ob h
   obtain ⟨x5,hx5,h⟩:=ob h
   obtain ⟨x6,hx6,h⟩:=ob h
   refine sd [4,21] [.no,.no,.no,.no,.no,.no,.no,.call [(L31 (pairs (fun a b=>(⟨a,b⟩:S_api_Span)) (y2.2.2.2.2.1.take (((p_c.Edges.length:Int)-0).toNat*2)))),(.v (.func (.func 91) #[] #[]))] (vb x6)] 6 [4,16,19,20,21] [(4,rf 1),(21,vb x6)] q1 [((0:Int)≤(0:Int)∧(0:Int)≤(p_c.Edges.length:Int)∧(p_c.Edges.length:Int)≤((8:Nat):Int)∧((0:Int)=0∨(0:Int)<((8:Nat):Int))∧3+8*2≤(([vi y2.2.1,.d (L66 y2.2.2.1),.d (L71 y2.2.2.2.1)]:List V)++(y2.2.2.2.2.1.map vi++([.mp 2]:List V))).length∧8≤9223372036854775807),argsOk [cs p_c,sv y2.2.1 y2.2.2.1 y2.2.2.2.1 y2.2.2.2.2.1 2,mq y2.2.2.2.2.2] [.sl 2 1 3 ((p_c.Edges.length:Int)-0).toNat,.fn (.func 91) [] []] [(L31 (pairs (fun a b=>(⟨a,b⟩:S_api_Span)) (y2.2.2.2.2.1.take (((p_c.Edges.length:Int)-0).toNat*2)))),(.v (.func (.func 91) #[] #[]))],PCall Try.prog 90 [(L31 (pairs (fun a b=>(⟨a,b⟩:S_api_Span)) (y2.2.2.2.2.1.take (((p_c.Edges.length:Int)-0).toNat*2)))),(.v (.func (.func 91) #[] #[]))] (vb x6)] (And.intro (⟨by decide,(need_of hx4).1,(need_of hx4).2,.inl rfl,(by have h0:=need_of hx5;simp only [List.length_append,List.length_map,List.length_cons,List.length_nil];omega),by decide⟩) (And.intro ((And.intro (lentVec2 (cel:=cel31) (mk:=(fun a b=>(⟨a,b⟩:S_api_Span))) (fun _ _=>rfl) (rfl:Go.Sx.rowAt [cs p_c,sv y2.2.1 y2.2.2.1 y2.2.2.2.1 y2.2.2.2.2.1 2,mq y2.2.2.2.2.2] 1=some (vecV [vi y2.2.1,.d (L66 y2.2.2.1),.d (L71 y2.2.2.2.1)] y2.2.2.2.2.1 [.mp 2])) rfl (by have h0:=need_of hx5;have h1:=(need_of hx4).2;omega)) (And.intro (rfl) trivial))) (ct90 hx6))) ?_
   refine cd h (fun hb7 h=>?_) (fun hb7 h=>?_)
   ·refine GA [(2,rf 1),(3,vi 9)] q1 ?_
    obtain rfl:=oi h
    refine WB 3 [(2,rf 1),(3,vi 9)] ?_
    exact awp_ret (main_retS [1,2] (.tup [rf 1,vi 9]) (by kernel_rfl) (by kernel_rfl) (by kernel_rfl) (by kernel_rfl))
   ·refine awp_skip ?_
    show awp ..
    refine GA [(2,rf 1),(3,vi 0)] q1 ?_
    obtain rfl:=oi h
    refine WB 3 [(2,rf 1),(3,vi 0)] ?_
    exact awp_ret (main_retS [1,2] (.tup [rf 1,vi 0]) (by kernel_rfl) (by kernel_rfl) (by kernel_rfl) (by kernel_rfl))
 | inr y8 =>
  rw [outK_inr] at h
  refine GB [.no,.hcall [] (.tup [.d (.v (.pointer none)),vi y8]) []] [(1,rf 0),(4,.d (.v (.pointer none))),(5,vi y8)] [cs p_c] [HCall Try.prog 57 [.d (ca p_c)] [] (.tup [.d (.v (.pointer none)),vi y8]) []] (ct57v1 hx1) ?_
  refine awp_seq (HA [(1,rf 0),(4,.d (.v (.pointer none))),(5,vi y8),(12,vb (y8 != 0))] ?_)
  refine cd h (fun hb9 h=>?_) (fun hb9 h=>?_)
  ·refine GA [(2,.d (.v (.pointer none))),(3,vi y8)] [cs p_c] ?_
   obtain rfl:=oi h
   refine WB 1 [(2,.d (.v (.pointer none))),(3,vi y8)] ?_
   exact awp_ret (main_retS [] (.tup [.d (.v (.pointer none)),vi y8]) (by kernel_rfl) (by kernel_rfl) (by kernel_rfl) (by kernel_rfl))
  ·refine awp_skip ?_
   show awp ..
   exact awp_seq (absurd h (by simp))
theorem ct69 {fuel:Nat}  {proof:(List Int)} {b0x0:Int} {b0x1:List S_api_EdSheet} {b0x2:List S_api_EdEdge} {b0x3:List Int} {m1:List ((List Int)×Int)} {res:Int} (h:F69 fuel proof b0x0 b0x1 b0x2 b0x3 m1=some res):HCall Try.prog 69 [rf 0,.d (L3 proof)] [sv b0x0 b0x1 b0x2 b0x3 1,mq m1] (vi res) [sv b0x0 b0x1 b0x2 b0x3 1,mq m1]:=by
 refine HCall.of_awpS tt_ok (N:=105) (fl:=2) Try.func69 rfl (by kernel_rfl) rfl rfl (Nat.le_of_ble_eq_true rfl) ?_
 unfold F69 at h
 let q1:O:=sv b0x0 b0x1 b0x2 b0x3 1
 let q4:Nat×V:=(1,.d (L3 proof))
 refine GA [(0,rf 0),q4,(4,vi 0)] [q1,mq m1] ?_
 let q5:=(List.replicate 5 (0:Int))
 refine GA [(0,rf 0),q4,(4,vi 0),(5,rf 2)] [q1,mq m1,.cells (q5.map vi)] ?_
 refine awp_vec 2 (q5.map vi) [] q5 [] [q1,mq m1,.vec [] q5 []] (by kernel_rfl) rfl (by kernel_rfl) ?_
 let q6:Nat×V:=(14,.d (L71 b0x2))
 let q8:Nat×V:=(15,vl b0x2)
 refine awp_seq (GA [(0,rf 0),q4,(4,vi 0),(5,rf 2),q6,q8,(16,vi 0)] [q1,mq m1,.vec [] q5 []] ?_)
 refine cuo h (fun (ro1:Int)=>[(4,vi ro1)]) (fun (ro1:Int)=>[q1,mq m1]) (fun (so1:Int×(List Int))=>[(0,rf 0),(4,vi so1.1),(5,rf 2)]) (fun (so1:Int×(List Int))=>[q1,mq m1,vw so1.2]) (fun o1 h=>?_) (fun ro1 h=>?_) (fun so1 h=>?_)
 ·refine awp_selQ (WA 3 [(0,rf 0),q4,(4,vi 0),(5,rf 2),q6,q8,(16,vi 0)] [q1,mq m1,.vec [] q5 []] ?_)
  refine awp_block (awp_loop (n:=fuel) ?_)
  refine awpN_ind (fun n (c2:Int×Int×(List Int))=>F69L1 proof b0x2 b0x3 n c2) o1 (fun (c2:Int×Int×(List Int))=>[(0,rf 0),q4,(4,vi c2.1),(5,rf 2),q6,q8,(16,vi c2.2.1)]) (fun (c2:Int×Int×(List Int))=>[q1,mq m1,vw c2.2.2]) (fun _=>rfl) ?_ fuel (0,0,q5) h
  clear h
  intro n3 c2 h hrn3
  change F69L1 proof b0x2 b0x3 (n3+1) c2=some o1 at h
  rw [F69L1] at h
  refine GA [(0,rf 0),q4,(4,vi c2.1),(5,rf 2),q6,q8,(16,vi c2.2.1),(17,vb (decide (c2.2.1<(b0x2.length:Int))))] [q1,mq m1,vw c2.2.2] ?_
  refine awp_seq (cd h (fun hb4 h=>?_) (fun hb4 h=>?_))
  ·refine awp_skip ?_
   show awp ..
   refine awp_seq (awp_block ?_)
   obtain ⟨x5,hx5,h⟩:=ob h
   let q3:O:=.cells [vi x5.A,vi x5.B,.d (L74 x5.Points)]
   refine GB [.no,.cells (cel71 x5)] [(0,rf 0),q4,(4,vi c2.1),(5,rf 2),(6,vi c2.2.1),(7,rf 3),q6,q8,(16,vi c2.2.1)] [q1,mq m1,vw c2.2.2,q3] [IX71 b0x2 c2.2.1 x5] (idxOk cel71_len hx5) ?_
   obtain ⟨x6,hx6,h⟩:=ob h
   obtain ⟨x7,hx7,h⟩:=ob h
   obtain ⟨x8,hx8,h⟩:=ob h
   obtain ⟨x9,hx9,h⟩:=ob h
   obtain ⟨x10,hx10,h⟩:=ob h
   let q2:=(c2.2.2.set (0+x5.A.toNat*1) (w64 (x7+x8)))
   refine sd [0,1,4,5,6,7,14,15,16] [.no,.no,.no,.vals [vi x7],.no,.no,.cells (cel3 x8),.no,.no,.no,.nums q2] 8 [0,1,4,5,6,7,14,15,16,22,24,28,29,30] [(0,rf 0),q4,(4,vi c2.1),(5,rf 2),(6,vi c2.2.1),(7,rf 3),q6,q8,(16,vi c2.2.1)] [q1,mq m1,.vec [] q2 [],q3] [(0≤x5.A∧x5.A<((5:Nat):Int)),LoadOk (([]:List V)++c2.2.2.map vi) (0+x5.A.toNat*1) 1 [vi x7],IX3 proof c2.2.1 x8,(0≤x5.A∧x5.A<((5:Nat):Int)),(([vi (w64 (x7+x8))]:List V).length=1),StoreOk (([]:List V)++c2.2.2.map vi) (0+x5.A.toNat*1) [vi (w64 (x7+x8))] (([]:List V)++(c2.2.2.set (0+x5.A.toNat*1) (w64 (x7+x8))).map vi)] (And.intro ((need_of hx6:0≤x5.A∧x5.A<((5:Nat):Int))) (And.intro (vecLoad (p:=0) (pre:=[]) (k:=0+x5.A.toNat*1) rfl hx7 (by omega)) (And.intro (idxOk cel3_len hx8) (And.intro ((need_of hx9:0≤x5.A∧x5.A<((5:Nat):Int))) (And.intro ((rfl:([vi (w64 (x7+x8))]:List V).length=1)) (vecStore (p:=0) (pre:=[]) (k:=0+x5.A.toNat*1) rfl hx10 (by omega))))))) ?_
   obtain ⟨x11,hx11,h⟩:=ob h
   obtain ⟨x12,hx12,h⟩:=ob h
   obtain ⟨x13,hx13,h⟩:=ob h
   obtain ⟨x14,hx14,h⟩:=ob h
   obtain ⟨x15,hx15,h⟩:=ob h
   let q7:=(q2.set (0+x5.B.toNat*1) (w64 (x12-x13)))
   refine sd [0,1,4,5,6,14,15,16] [.no,.no,.no,.vals [vi x12],.no,.no,.cells (cel3 x13),.no,.no,.no,.nums q7] 8 [0,1,4,5,6,14,15,16,32,34,38,39,40] [(0,rf 0),q4,(4,vi c2.1),(5,rf 2),(6,vi c2.2.1),q6,q8,(16,vi c2.2.1)] [q1,mq m1,.vec [] q7 [],q3] [(0≤x5.B∧x5.B<((5:Nat):Int)),LoadOk (([]:List V)++(c2.2.2.set (0+x5.A.toNat*1) (w64 (x7+x8))).map vi) (0+x5.B.toNat*1) 1 [vi x12],IX3 proof c2.2.1 x13,(0≤x5.B∧x5.B<((5:Nat):Int)),(([vi (w64 (x12-x13))]:List V).length=1),StoreOk (([]:List V)++(c2.2.2.set (0+x5.A.toNat*1) (w64 (x7+x8))).map vi) (0+x5.B.toNat*1) [vi (w64 (x12-x13))] (([]:List V)++((c2.2.2.set (0+x5.A.toNat*1) (w64 (x7+x8))).set (0+x5.B.toNat*1) (w64 (x12-x13))).map vi)] (And.intro ((need_of hx11:0≤x5.B∧x5.B<((5:Nat):Int))) (And.intro (vecLoad (p:=0) (pre:=[]) (k:=0+x5.B.toNat*1) rfl hx12 (by omega)) (And.intro (idxOk cel3_len hx13) (And.intro ((need_of hx14:0≤x5.B∧x5.B<((5:Nat):Int))) (And.intro ((rfl:([vi (w64 (x12-x13))]:List V).length=1)) (vecStore (p:=0) (pre:=[]) (k:=0+x5.B.toNat*1) rfl hx15 (by omega))))))) ?_
   obtain ⟨x16,hx16,h⟩:=ob h
   refine HB [.no,.no,.cells (cel3 x16)] [(0,rf 0),q4,(4,vi c2.1),(5,rf 2),(6,vi c2.2.1),q6,q8,(16,vi c2.2.1),(45,vb (decide (x16>0)))] [IX3 proof c2.2.1 x16] (idxOk cel3_len hx16) ?_
   refine cd h (fun hb17 h=>?_) (fun hb17 h=>?_)
   ·obtain ⟨x18,hx18,h⟩:=ob h
    obtain ⟨x19,hx19,h⟩:=ob h
    obtain ⟨x20,hx20,h⟩:=ob h
    refine awp_any (T':=[(0,rf 0),(1,.d (L3 proof)),(4,vi (w64 (c2.1+(w64 (x18*x20))))),(5,rf 2),(14,.d (L71 b0x2)),(15,vl b0x2),(16,vi c2.2.1)]) (H':=[sv b0x0 b0x1 b0x2 b0x3 1,mq m1,.vec [] ((c2.2.2.set (0+x5.A.toNat*1) (w64 (x7+x8))).set (0+x5.B.toNat*1) (w64 (x12-x13))) [],.cells [vi x5.A,vi x5.B,.d (L74 x5.Points)]]) (ps:=[IX3 proof c2.2.1 x18,(0≤c2.2.1∧c2.2.1<((8:Nat):Int)),LoadOk (([vi b0x0,.d (L66 b0x1),.d (L71 b0x2)]:List V)++(b0x3.map vi++([.mp 1]:List V))) (3+c2.2.1.toNat*2) 1 [vi x20]]) tt_ok mixed (ks:=[0,1,4,5,14,15,16]) (hs:=[.no,.no,.no,.cells (cel3 x18),.no,.no,.no,.no,.no,.no,.no,.vals [vi x20]]) (m:=13) (mid:=[0,1,4,5,14,15,16,46,58,59]) (by kernel_rfl) (And.intro (idxOk cel3_len hx18) (And.intro ((need_of hx19:0≤c2.2.1∧c2.2.1<((8:Nat):Int))) (vecLoadT (p:=3) (pre:=[vi b0x0,.d (L66 b0x1),.d (L71 b0x2)]) (k:=0+c2.2.1.toNat*2) rfl hx20 (by omega)))) ?_
    show awp ..
    refine XA [(0,rf 0),q4,(4,vi (w64 (c2.1+(w64 (x18*x20))))),(5,rf 2),q6,q8,(16,vi (w64 (c2.2.1+1)))] [q1,mq m1,.vec [] q7 [],q3] ?_
    exact gn 3 [0,1,4,5,14,15,16] (hrn3 _ h)
   ·obtain ⟨x21,hx21,h⟩:=ob h
    obtain ⟨x22,hx22,h⟩:=ob h
    obtain ⟨x23,hx23,h⟩:=ob h
    refine awp_any (T':=[(0,rf 0),(1,.d (L3 proof)),(4,vi (w64 (c2.1+(w64 (x21*x23))))),(5,rf 2),(14,.d (L71 b0x2)),(15,vl b0x2),(16,vi c2.2.1)]) (H':=[sv b0x0 b0x1 b0x2 b0x3 1,mq m1,.vec [] ((c2.2.2.set (0+x5.A.toNat*1) (w64 (x7+x8))).set (0+x5.B.toNat*1) (w64 (x12-x13))) [],.cells [vi x5.A,vi x5.B,.d (L74 x5.Points)]]) (ps:=[IX3 proof c2.2.1 x21,(0≤c2.2.1∧c2.2.1<((8:Nat):Int)),LoadOk (([vi b0x0,.d (L66 b0x1),.d (L71 b0x2)]:List V)++(b0x3.map vi++([.mp 1]:List V))) (3+c2.2.1.toNat*2+1) 1 [vi x23]]) tt_ok mixed (ks:=[0,1,4,5,14,15,16]) (hs:=[.no,.no,.no,.cells (cel3 x21),.no,.no,.no,.no,.no,.no,.no,.vals [vi x23]]) (m:=13) (mid:=[0,1,4,5,14,15,16,60,72,73]) (by kernel_rfl) (And.intro (idxOk cel3_len hx21) (And.intro ((need_of hx22:0≤c2.2.1∧c2.2.1<((8:Nat):Int))) (vecLoadT (p:=3) (pre:=[vi b0x0,.d (L66 b0x1),.d (L71 b0x2)]) (k:=0+c2.2.1.toNat*2+1) rfl hx23 (by omega)))) ?_
    show awp ..
    refine XA [(0,rf 0),q4,(4,vi (w64 (c2.1+(w64 (x21*x23))))),(5,rf 2),q6,q8,(16,vi (w64 (c2.2.1+1)))] [q1,mq m1,.vec [] q7 [],q3] ?_
    exact gn 3 [0,1,4,5,14,15,16] (hrn3 _ h)
  ·refine awp_exit ?_
   obtain rfl:=oi h
   exact gs [0,1,2] [0,4,5] OutQ.norm
 ·obtain rfl:=oi h
  exact (main_retS [0,1] (vi ro1) (by kernel_rfl) (by kernel_rfl) (by kernel_rfl) (by kernel_rfl))
 ·show awp ..
  let q9:Nat×V:=(79,.d (L66 b0x1))
  refine awp_seq (GA [(4,vi so1.1),(5,rf 2),q9,(80,vl b0x1),(81,vi 0)] [q1,mq m1,vw so1.2] ?_)
  refine cuo h (fun (ro24:Int)=>[(4,vi ro24)]) (fun (ro24:Int)=>[q1,mq m1]) (fun (so24:Int)=>[(4,vi so24)]) (fun (so24:Int)=>[q1,mq m1,vw so1.2]) (fun o24 h=>?_) (fun ro24 h=>?_) (fun so24 h=>?_)
  ·refine awp_selQ (WA 3 [(4,vi so1.1),(5,rf 2),q9,(80,vl b0x1),(81,vi 0)] [q1,mq m1,vw so1.2] ?_)
   refine awp_block (awp_loop (n:=fuel) ?_)
   refine awpN_ind (fun n (c25:Int×Int)=>F69L2 b0x1 so1 n c25) o24 (fun (c25:Int×Int)=>[(4,vi c25.1),(5,rf 2),q9,(80,vl b0x1),(81,vi c25.2)]) (fun (c25:Int×Int)=>[q1,mq m1,vw so1.2]) (fun _=>rfl) ?_ fuel (so1.1,0) h
   clear h
   intro n26 c25 h hrn26
   change F69L2 b0x1 so1 (n26+1) c25=some o24 at h
   rw [F69L2] at h
   refine GA [(4,vi c25.1),(5,rf 2),q9,(80,vl b0x1),(81,vi c25.2),(82,vb (decide (c25.2<(b0x1.length:Int))))] [q1,mq m1,vw so1.2] ?_
   refine awp_seq (cd h (fun hb27 h=>?_) (fun hb27 h=>?_))
   ·refine awp_skip ?_
    show awp ..
    refine awp_seq (awp_block ?_)
    obtain ⟨x28,hx28,h⟩:=ob h
    let q10:O:=.cells [.d (.v (.string x28.Name)),vi x28.Weight,vi x28.Most]
    refine GB [.no,.cells (cel66 x28)] [(4,vi c25.1),(5,rf 2),(8,vi c25.2),(9,rf 3),q9,(80,vl b0x1),(81,vi c25.2)] [q1,mq m1,vw so1.2,q10] [IX66 b0x1 c25.2 x28] (idxOk cel66_len hx28) ?_
    obtain ⟨x29,hx29,h⟩:=ob h
    obtain ⟨x30,hx30,h⟩:=ob h
    obtain ⟨x31,hx31,h⟩:=ob h
    obtain ⟨x32,hx32,h⟩:=ob h
    refine awp_any (T':=[(4,vi (F69e2 c25 x28 x32 x30)),(5,rf 2),(79,.d (L66 b0x1)),(80,vl b0x1),(81,vi c25.2)]) (H':=[sv b0x0 b0x1 b0x2 b0x3 1,mq m1,vw so1.2,.cells [.d (.v (.string x28.Name)),vi x28.Weight,vi x28.Most]]) (ps:=[(0≤c25.2∧c25.2<((5:Nat):Int)),LoadOk (([]:List V)++so1.2.map vi) (0+c25.2.toNat*1) 1 [vi x30],(0≤c25.2∧c25.2<((5:Nat):Int)),LoadOk (([]:List V)++so1.2.map vi) (0+c25.2.toNat*1) 1 [vi x32]]) tt_ok mixed (ks:=[4,5,79,80,81]) (hs:=[.no,.no,.no,.no,.no,.vals [vi x30],.no,.no,.vals [vi x32]]) (m:=16) (mid:=[4,5,79,80,81,86,101,102]) (by kernel_rfl) (And.intro ((need_of hx29:0≤c25.2∧c25.2<((5:Nat):Int))) (And.intro (vecLoad (p:=0) (pre:=[]) (k:=0+c25.2.toNat*1) rfl hx30 (by omega)) (And.intro ((need_of hx31:0≤c25.2∧c25.2<((5:Nat):Int))) (vecLoad (p:=0) (pre:=[]) (k:=0+c25.2.toNat*1) rfl hx32 (by omega))))) ?_
    show awp ..
    refine XA [(4,vi (F69e2 c25 x28 x32 x30)),(5,rf 2),q9,(80,vl b0x1),(81,vi (w64 (c25.2+1)))] [q1,mq m1,vw so1.2,q10] ?_
    exact gn 3 [4,5,79,80,81] (hrn26 _ h)
   ·refine awp_exit ?_
    obtain rfl:=oi h
    exact gs [0,1,2] [4] OutQ.norm
  ·obtain rfl:=oi h
   exact (main_retS [0,1] (vi ro24) (by kernel_rfl) (by kernel_rfl) (by kernel_rfl) (by kernel_rfl))
  ·show awp ..
   refine GA [(4,vi so24)] [q1,mq m1,vw so1.2] ?_
   obtain rfl:=oi h
   refine WB 3 [(4,vi so24)] ?_
   exact awp_ret (main_retS [0,1] (vi so24) (by kernel_rfl) (by kernel_rfl) (by kernel_rfl) (by kernel_rfl))
theorem ct30 {fuel:Nat}  {p_c:S_api_EdCase} {proof:(List Int)} {res:Int×Int} (h:F30 fuel p_c proof=some res):PCall Try.prog 30 [(ca p_c),(L3 proof)] (.tup [vi res.1,vi res.2]):=by
 refine PCall.of_awp tt_ok (N:=34) Try.func30 rfl (by kernel_rfl) rfl (Nat.le_of_ble_eq_true rfl) rfl ?_
 unfold F30 at h
 let q3:Nat×V:=(1,.d (L3 proof))
 refine GA [q3,(2,rf 0)] [cs p_c] ?_
 obtain ⟨x1,hx1,h⟩:=ob h
 cases x1 with
 | inl y2 =>
  rw [outK_inl] at h
  let q1:List O:=[cs p_c,sv y2.2.1 y2.2.2.1 y2.2.2.2.1 y2.2.2.2.2.1 2,mq y2.2.2.2.2.2]
  let q2:List O:=[sv y2.2.1 y2.2.2.1 y2.2.2.2.1 y2.2.2.2.2.1 1,mq y2.2.2.2.2.2]
  refine GB [.no,.hcall [] (.tup [rf 0,vi y2.1]) q2] [q3,(2,rf 0),(6,rf 1),(7,vi y2.1)] q1 [HCall Try.prog 68 [.d (ca p_c)] [] (.tup [rf 0,vi y2.1]) q2] (ct68v1 hx1) ?_
  refine awp_seq (awp_block ?_)
  refine HA [q3,(2,rf 0),(6,rf 1),(7,vi y2.1),(13,vb false)] ?_
  refine awp_cond (b:=false) (by kernel_rfl) (fun hb=>absurd hb (by decide)) (fun hb=>?_)
  refine HA [q3,(6,rf 1),(7,vi y2.1),(17,vb ((proof.length:Int) != (p_c.Edges.length:Int)))] ?_
  refine cd h (fun hb3 h=>?_) (fun hb3 h=>?_)
  ·refine GA [(4,vi 0),(5,vi 3)] q1 ?_
   obtain rfl:=oi h
   refine WB 3 [(4,vi 0),(5,vi 3)] ?_
   exact awp_ret gm
  ·obtain ⟨x4,hx4,h⟩:=ob h
   refine GB [.no,.call [(di (-100000)),(di 100000),(L3 proof)] (vb x4)] [q3,(6,rf 1),(7,vi y2.1),(24,vb x4)] q1 [PCall Try.prog 48 [(di (-100000)),(di 100000),(L3 proof)] (vb x4)] (ct48 hx4) ?_
   refine cd h (fun hb5 h=>?_) (fun hb5 h=>?_)
   ·refine GA [(4,vi 0),(5,vi 7)] q1 ?_
    obtain rfl:=oi h
    refine WB 3 [(4,vi 0),(5,vi 7)] ?_
    exact awp_ret gm
   ·refine GA [q3,(6,rf 1),(7,vi y2.1),(27,vb (y2.1 != 0))] q1 ?_
    refine cd h (fun hb6 h=>?_) (fun hb6 h=>?_)
    ·refine GA [(4,vi 0),(5,vi y2.1)] q1 ?_
     obtain rfl:=oi h
     refine WB 3 [(4,vi 0),(5,vi y2.1)] ?_
     exact awp_ret gm
    ·refine awp_skip ?_
     show awp ..
     obtain ⟨x7,hx7,h⟩:=ob h
     refine GB [.no,.no,.hcall [(1,false),(2,false)] (vi x7) q2] [(4,vi x7),(5,vi 0)] q1 [HCall Try.prog 69 [rf 0,.d (L3 proof)] q2 (vi x7) q2] (ct69 hx7) ?_
     obtain rfl:=oi h
     refine WB 3 [(4,vi x7),(5,vi 0)] ?_
     exact awp_ret gm
 | inr y8 =>
  rw [outK_inr] at h
  refine GB [.no,.hcall [] (.tup [.d (.v (.pointer none)),vi y8]) []] [q3,(2,rf 0),(6,.d (.v (.pointer none))),(7,vi y8)] [cs p_c] [HCall Try.prog 68 [.d (ca p_c)] [] (.tup [.d (.v (.pointer none)),vi y8]) []] (ct68v1 hx1) ?_
  refine awp_seq (awp_block ?_)
  refine HA [q3,(2,rf 0),(6,.d (.v (.pointer none))),(7,vi y8),(13,vb true)] ?_
  refine awp_cond (b:=true) (by kernel_rfl) (fun hb=>?_) (fun hb=>absurd hb (by decide))
  refine HA [(4,vi 0),(5,vi y8)] ?_
  obtain rfl:=oi h
  refine WB 1 [(4,vi 0),(5,vi y8)] ?_
  exact awp_ret gm
end Go.Proofs.Ytallnifoeahpiaa
