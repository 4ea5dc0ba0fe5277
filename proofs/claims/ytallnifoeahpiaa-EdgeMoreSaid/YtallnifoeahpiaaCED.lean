/- That functions of the seat compute this. Printed by a program of mine. -/
import Derived.Test.YtallnifoeahpiaaS
import Derived.Test.YtallnifoeahpiaaCEA
import Derived.Test.YtallnifoeahpiaaCEB
import Derived.Test.YtallnifoeahpiaaDED
namespace Go.Proofs.Ytallnifoeahpiaa
open Go Go.Sx
set_option maxRecDepth 100000
set_option linter.unusedVariables false
theorem ct86 {fuel:Nat}  {without:Int} {b0x0:Int} {b0x1:List S_api_EdSheet} {b0x2:List S_api_EdEdge} {b0x3:List Int} {m1:List ((List Int)×Int)} {res:(List S_edge_step)} (h:F86 fuel without b0x0 b0x1 b0x2 b0x3 m1=some res):HCall Try.prog 86 [rf 0,vi without] [sv b0x0 b0x1 b0x2 b0x3 1,mq m1] (.d (L126 res)) [sv b0x0 b0x1 b0x2 b0x3 1,mq m1]:=by
 refine HCall.of_awpS tt_ok (N:=92) (fl:=2) Try.func86 rfl (by kernel_rfl) rfl rfl (Nat.le_of_ble_eq_true rfl) ?_
 unfold F86 at h
 let q2:O:=sv b0x0 b0x1 b0x2 b0x3 1
 let q7:Nat×V:=(1,vi without)
 refine GA [(0,rf 0),q7,(4,.d dnil)] [q2,mq m1] ?_
 let q3:Nat×V:=(13,.d (L71 b0x2))
 let q12:Nat×V:=(14,vl b0x2)
 refine awp_seq (HA [(0,rf 0),q7,(4,.d dnil),q3,q12,(15,vi 0)] ?_)
 refine awp_nil 4 5 (by kernel_rfl) ?_
 let q4:O:=.data (([]:List S_edge_step).flatMap cel126)
 let q9:Nat×V:=(4,.sl 5 2 0 ([]:List S_edge_step).length)
 refine awp_eq (T':=[q9,(0,rf 0),q7,q3,q12,(15,vi 0)]) (H':=[q2,mq m1,q4]) (by kernel_rfl) (by kernel_rfl) ?_
 refine WA 3 [(0,rf 0),q7,q9,q3,q12,(15,vi 0)] [q2,mq m1,q4] ?_
 refine cuo h (fun (ro2:(List S_edge_step))=>[(4,.d (L126 ro2))]) (fun (ro2:(List S_edge_step))=>[q2,mq m1]) (fun (so2:(List S_edge_step))=>[(0,rf 0),(4,.sl 5 2 0 so2.length)]) (fun (so2:(List S_edge_step))=>[q2,mq m1,.data (so2.flatMap cel126)]) (fun o2 h=>?_) (fun ro2 h=>?_) (fun so2 h=>?_)
 ·refine awp_selQ (WA 3 [(0,rf 0),q7,q9,q3,q12,(15,vi 0)] [q2,mq m1,q4] ?_)
  refine awp_block (awp_loop (n:=fuel) ?_)
  refine awpN_ind (fun n (c3:Int×(List S_edge_step))=>F86L1 without b0x2 b0x3 n c3) o2 (fun (c3:Int×(List S_edge_step))=>[(0,rf 0),q7,(4,.sl 5 2 0 c3.2.length),q3,q12,(15,vi c3.1)]) (fun (c3:Int×(List S_edge_step))=>[q2,mq m1,.data (c3.2.flatMap cel126)]) (fun _=>rfl) ?_ fuel (0,([]:List S_edge_step)) h
  clear h
  intro n4 c3 h hrn4
  change F86L1 without b0x2 b0x3 (n4+1) c3=some o2 at h
  rw [F86L1] at h
  let q13:Nat×V:=(4,.sl 5 2 0 c3.2.length)
  refine GA [(0,rf 0),q7,q13,q3,q12,(15,vi c3.1),(16,vb (decide (c3.1<(b0x2.length:Int))))] [q2,mq m1,.data (c3.2.flatMap cel126)] ?_
  refine awp_seq (cd h (fun hb5 h=>?_) (fun hb5 h=>?_))
  ·refine awp_skip ?_
   show awp ..
   refine awp_seq (awp_block ?_)
   obtain ⟨x6,hx6,h⟩:=ob h
   let q10:O:=.cells [vi x6.A,vi x6.B,.d (L74 x6.Points)]
   refine GB [.no,.cells (cel71 x6)] [(0,rf 0),q7,q13,(5,vi c3.1),(6,rf 3),q3,q12,(15,vi c3.1)] [q2,mq m1,.data (c3.2.flatMap cel126),q10] [IX71 b0x2 c3.1 x6] (idxOk cel71_len hx6) ?_
   obtain ⟨x7,hx7,h⟩:=ob h
   refine HB [] [(0,rf 0),q7,q13,(5,vi c3.1),(6,rf 3),q3,q12,(15,vi c3.1),(24,vb ((Go.bits .and .i64 (without / 2^min c3.1.toNat 64) 1)==0))] [(0≤c3.1)] ((need_of hx7:0≤c3.1)) ?_
   refine cd h (fun hb8 h=>?_) (fun hb8 h=>?_)
   ·obtain ⟨x9,hx9,h⟩:=ob h
    obtain ⟨x10,hx10,h⟩:=ob h
    obtain ⟨x11,hx11,h⟩:=ob h
    obtain ⟨x12,hx12,h⟩:=ob h
    obtain ⟨x13,hx13,h⟩:=ob h
    refine awp_any (T':=[(0,rf 0),(1,vi without),(4,.sl 5 2 0 (c3.2++([(⟨x6.B,x6.A,x10,c3.1,(-1)⟩:S_edge_step),(⟨x6.A,x6.B,(w64 (0-x12)),c3.1,1⟩:S_edge_step)]:List S_edge_step)).length),(13,.d (L71 b0x2)),(14,vl b0x2),(15,vi c3.1)]) (H':=[sv b0x0 b0x1 b0x2 b0x3 1,mq m1,.data ((c3.2++([(⟨x6.B,x6.A,x10,c3.1,(-1)⟩:S_edge_step),(⟨x6.A,x6.B,(w64 (0-x12)),c3.1,1⟩:S_edge_step)]:List S_edge_step)).flatMap cel126),.cells [vi x6.A,vi x6.B,.d (L74 x6.Points)]]) (ps:=[(0≤c3.1∧c3.1<((8:Nat):Int)),LoadOk (([vi b0x0,.d (L66 b0x1),.d (L71 b0x2)]:List V)++(b0x3.map vi++([.mp 1]:List V))) (3+c3.1.toNat*2+1) 1 [vi x10],(0≤c3.1∧c3.1<((8:Nat):Int)),LoadOk (([vi b0x0,.d (L66 b0x1),.d (L71 b0x2)]:List V)++(b0x3.map vi++([.mp 1]:List V))) (3+c3.1.toNat*2) 1 [vi x12],AppendOk ((c3.2.flatMap cel126).map .d) c3.2.length ([(⟨x6.B,x6.A,x10,c3.1,(-1)⟩:S_edge_step),(⟨x6.A,x6.B,(w64 (0-x12)),c3.1,1⟩:S_edge_step)]:List S_edge_step).length (c3.2++([(⟨x6.B,x6.A,x10,c3.1,(-1)⟩:S_edge_step),(⟨x6.A,x6.B,(w64 (0-x12)),c3.1,1⟩:S_edge_step)]:List S_edge_step)).length 5 40 (([(⟨x6.B,x6.A,x10,c3.1,(-1)⟩:S_edge_step),(⟨x6.A,x6.B,(w64 (0-x12)),c3.1,1⟩:S_edge_step)]:List S_edge_step).flatMap cel126) ((c3.2++([(⟨x6.B,x6.A,x10,c3.1,(-1)⟩:S_edge_step),(⟨x6.A,x6.B,(w64 (0-x12)),c3.1,1⟩:S_edge_step)]:List S_edge_step)).flatMap cel126)]) tt_ok mixed (ks:=[0,1,4,13,14,15]) (hs:=[.no,.no,.no,.no,.no,.no,.no,.no,.no,.no,.no,.vals [vi x10],.no,.no,.no,.no,.no,.no,.no,.no,.no,.no,.no,.no,.vals [vi x12],.no,.no,.no,.no,.list (c3.2++([(⟨x6.B,x6.A,x10,c3.1,(-1)⟩:S_edge_step),(⟨x6.A,x6.B,(w64 (0-x12)),c3.1,1⟩:S_edge_step)]:List S_edge_step)).length ((c3.2++([(⟨x6.B,x6.A,x10,c3.1,(-1)⟩:S_edge_step),(⟨x6.A,x6.B,(w64 (0-x12)),c3.1,1⟩:S_edge_step)]:List S_edge_step)).flatMap cel126)]) (m:=29) (mid:=[0,1,4,13,14,15,25,53,54]) (by kernel_rfl) (And.intro ((need_of hx9:0≤c3.1∧c3.1<((8:Nat):Int))) (And.intro (vecLoadT (p:=3) (pre:=[vi b0x0,.d (L66 b0x1),.d (L71 b0x2)]) (k:=0+c3.1.toNat*2+1) rfl hx10 (by omega)) (And.intro ((need_of hx11:0≤c3.1∧c3.1<((8:Nat):Int))) (And.intro (vecLoadT (p:=3) (pre:=[vi b0x0,.d (L66 b0x1),.d (L71 b0x2)]) (k:=0+c3.1.toNat*2) rfl hx12 (by omega)) (appendOk cel126_len (need_of hx13)))))) ?_
    show awp ..
    let q5:=(c3.2++([(⟨x6.B,x6.A,x10,c3.1,(-1)⟩:S_edge_step),(⟨x6.A,x6.B,(w64 (0-x12)),c3.1,1⟩:S_edge_step)]:List S_edge_step))
    refine XA [(0,rf 0),q7,(4,.sl 5 2 0 q5.length),q3,q12,(15,vi (w64 (c3.1+1)))] [q2,mq m1,.data (q5.flatMap cel126),q10] ?_
    exact gn 3 [0,1,4,13,14,15] (hrn4 _ h)
   ·refine awp_skip ?_
    show awp ..
    refine XA [(0,rf 0),q7,q13,q3,q12,(15,vi (w64 (c3.1+1)))] [q2,mq m1,.data (c3.2.flatMap cel126),q10] ?_
    exact gn 3 [0,1,4,13,14,15] (hrn4 _ h)
  ·refine awp_exit ?_
   obtain rfl:=oi h
   exact gs [0,1,2] [0,4] OutQ.norm
 ·obtain rfl:=oi h
  exact (main_retS [0,1] (.d (L126 ro2)) (by kernel_rfl) (by kernel_rfl) (by kernel_rfl) (by kernel_rfl))
 ·show awp ..
  let q8:Nat×V:=(60,.d (L66 b0x1))
  let q14:Nat×V:=(61,vl b0x1)
  refine awp_seq (GA [(0,rf 0),(4,.sl 5 2 0 so2.length),q8,q14,(62,vi 0)] [q2,mq m1,.data (so2.flatMap cel126)] ?_)
  refine cuo h (fun (ro14:(List S_edge_step))=>[(4,.d (L126 ro14))]) (fun (ro14:(List S_edge_step))=>[q2,mq m1]) (fun (so14:(List S_edge_step))=>[(4,.sl 5 2 0 so14.length)]) (fun (so14:(List S_edge_step))=>[q2,mq m1,.data (so14.flatMap cel126)]) (fun o14 h=>?_) (fun ro14 h=>?_) (fun so14 h=>?_)
  ·refine awp_selQ (WA 3 [(0,rf 0),(4,.sl 5 2 0 so2.length),q8,q14,(62,vi 0)] [q2,mq m1,.data (so2.flatMap cel126)] ?_)
   refine awp_block (awp_loop (n:=fuel) ?_)
   refine awpN_ind (fun n (c15:Int×(List S_edge_step))=>F86L2 b0x1 n c15) o14 (fun (c15:Int×(List S_edge_step))=>[(0,rf 0),(4,.sl 5 2 0 c15.2.length),q8,q14,(62,vi c15.1)]) (fun (c15:Int×(List S_edge_step))=>[q2,mq m1,.data (c15.2.flatMap cel126)]) (fun _=>rfl) ?_ fuel (0,so2) h
   clear h
   intro n16 c15 h hrn16
   change F86L2 b0x1 (n16+1) c15=some o14 at h
   rw [F86L2] at h
   let q11:=(b0x1.length:Int)
   refine GA [(0,rf 0),(4,.sl 5 2 0 c15.2.length),q8,q14,(62,vi c15.1),(63,vb (decide (c15.1<q11)))] [q2,mq m1,.data (c15.2.flatMap cel126)] ?_
   refine awp_seq (cd h (fun hb17 h=>?_) (fun hb17 h=>?_))
   ·refine awp_skip ?_
    show awp ..
    refine awp_seq (awp_block ?_)
    obtain ⟨x18,hx18,h⟩:=ob h
    let q6:O:=.cells [.d (.v (.string x18.Name)),vi x18.Weight,vi x18.Most]
    refine GB [.no,.cells (cel66 x18)] [(0,rf 0),(4,.sl 5 2 0 c15.2.length),(7,vi c15.1),(8,rf 3),q8,q14,(62,vi c15.1)] [q2,mq m1,.data (c15.2.flatMap cel126),q6] [IX66 b0x1 c15.1 x18] (idxOk cel66_len hx18) ?_
    obtain ⟨x19,hx19,h⟩:=ob h
    let q1:=(c15.2++([(⟨q11,c15.1,x18.Most,(-1),0⟩:S_edge_step),(⟨c15.1,q11,x18.Most,(-1),0⟩:S_edge_step)]:List S_edge_step))
    refine awp_any (T':=[(0,rf 0),(4,.sl 5 2 0 q1.length),q8,q14,(62,vi c15.1)]) (H':=[q2,mq m1,.data (q1.flatMap cel126),q6]) (ps:=[AppendOk ((c15.2.flatMap cel126).map .d) c15.2.length ([(⟨q11,c15.1,x18.Most,(-1),0⟩:S_edge_step),(⟨c15.1,q11,x18.Most,(-1),0⟩:S_edge_step)]:List S_edge_step).length q1.length 5 40 (([(⟨q11,c15.1,x18.Most,(-1),0⟩:S_edge_step),(⟨c15.1,q11,x18.Most,(-1),0⟩:S_edge_step)]:List S_edge_step).flatMap cel126) (q1.flatMap cel126)]) tt_ok mixed (ks:=[0,4,60,61,62]) (hs:=[.no,.no,.no,.no,.no,.no,.no,.no,.no,.no,.no,.no,.no,.no,.no,.no,.no,.no,.no,.no,.no,.no,.list q1.length (q1.flatMap cel126)]) (m:=22) (mid:=[0,4,60,61,62,67,88,89]) (by kernel_rfl) (appendOk cel126_len (need_of hx19)) ?_
    show awp ..
    refine XA [(0,rf 0),(4,.sl 5 2 0 q1.length),q8,q14,(62,vi (w64 (c15.1+1)))] [q2,mq m1,.data (q1.flatMap cel126),q6] ?_
    exact gn 3 [0,4,60,61,62] (hrn16 _ h)
   ·refine awp_exit ?_
    obtain rfl:=oi h
    exact gs [0,1,2] [4] OutQ.norm
  ·obtain rfl:=oi h
   exact (main_retS [0,1] (.d (L126 ro14)) (by kernel_rfl) (by kernel_rfl) (by kernel_rfl) (by kernel_rfl))
  ·show awp ..
   refine GA [(4,.sl 5 2 0 so14.length)] [q2,mq m1,.data (so14.flatMap cel126)] ?_
   obtain rfl:=oi h
   refine WB 3 [(4,.sl 5 2 0 so14.length)] ?_
   refine awp_freeze 4 2 (so14.flatMap cel126) (.sl 5 2 0 so14.length) (.d (L126 so14)) _ _ (ps:=[(so14.flatMap cel126).length=so14.length*5]) (by kernel_rfl) (by kernel_rfl) (by kernel_rfl) (flatMap_len cel126 5 cel126_len so14) rfl rfl ?_
   refine WA 3 [(4,.d (L126 so14))] [q2,mq m1,q4] ?_
   exact awp_ret (main_retS [0,1] (.d (L126 so14)) (by kernel_rfl) (by kernel_rfl) (by kernel_rfl) (by kernel_rfl))
theorem ct64 {fuel:Nat}  {from_:Int} {without:Int} {b0x0:Int} {b0x1:List S_api_EdSheet} {b0x2:List S_api_EdEdge} {b0x3:List Int} {m1:List ((List Int)×Int)} {res:(List Int)×(List S_edge_step)} (h:F64 fuel from_ without b0x0 b0x1 b0x2 b0x3 m1=some res):HCall Try.prog 64 [rf 0,vi from_,vi without] [sv b0x0 b0x1 b0x2 b0x3 1,mq m1] (.tup [.d (NL3 res.1),.d (NL126 res.2)]) [sv b0x0 b0x1 b0x2 b0x3 1,mq m1]:=by
 refine HCall.of_awpS tt_ok (N:=120) (fl:=2) Try.func64 rfl (by kernel_rfl) rfl rfl (Nat.le_of_ble_eq_true rfl) ?_
 unfold F64 at h
 let q3:O:=sv b0x0 b0x1 b0x2 b0x3 1
 let q9:Nat×V:=(7,.d dnil)
 let q25:Nat×V:=(1,vi from_)
 refine GA [(0,rf 0),q25,(2,vi without),(6,.d dnil),q9] [q3,mq m1] ?_
 refine awp_scope ?_
 obtain ⟨x1,hx1,h⟩:=ob h
 let q8:Nat×V:=(8,.d (L126 x1))
 refine GB [.no,.no,.hcall [(0,false),(1,false)] (.d (L126 x1)) [q3,mq m1]] [(0,rf 0),q25,q9,q8] [q3,mq m1] [HCall Try.prog 86 [rf 0,vi without] [q3,mq m1] (.d (L126 x1)) [q3,mq m1]] (ct86 hx1) ?_
 let q2:=(w64 ((b0x1.length:Int)+1))
 refine HA [q25,q9,q8,(9,vi q2)] ?_
 obtain ⟨x2,hx2,h⟩:=ob h
 let q5:=(List.replicate q2.toNat (0:Int))
 let q32:Nat×V:=(6,.sl 1 2 0 q5.length)
 refine GB [.no,.list q5.length (q5.flatMap cel3)] [q25,q32,q9,q8,(9,vi q2)] [q3,mq m1,.data (q5.flatMap cel3)] [MakeOk q2 q2 q5.length 8 [.int .i64 0] (q5.flatMap cel3)] (makeOk rfl (need_of hx2)) ?_
 obtain ⟨x3,hx3,h⟩:=ob h
 let q1:=(List.replicate q2.toNat ((⟨0,0,0,0,0⟩:S_edge_step):S_edge_step))
 let q11:Nat×V:=(10,.sl 5 3 0 q1.length)
 let q12:O:=.data (q1.flatMap cel126)
 refine GB [.no,.list q1.length (q1.flatMap cel126)] [q25,q32,q9,q8,(9,vi q2),q11] [q3,mq m1,.data (q5.flatMap cel3),q12] [MakeOk q2 q2 q1.length 40 [.int .i64 0,.int .i64 0,.int .i64 0,.int .i64 0,.int .i64 0] (q1.flatMap cel126)] (makeOk rfl (need_of hx3)) ?_
 let q21:Nat×V:=(33,vi (q5.length:Int))
 refine awp_seq (HA [q25,q32,q9,q8,(9,vi q2),q11,q21,(34,vi 0)] ?_)
 refine cuo h (fun (ro4:(List Int)×(List S_edge_step))=>[(6,.d (NL3 ro4.1)),(7,.d (NL126 ro4.2))]) (fun (ro4:(List Int)×(List S_edge_step))=>[q3,mq m1]) (fun (so4:(List Int))=>[q25,(6,.sl 1 2 0 so4.length),q9,q8,(9,vi q2),q11]) (fun (so4:(List Int))=>[q3,mq m1,.data (so4.flatMap cel3),q12]) (fun o4 h=>?_) (fun ro4 h=>?_) (fun so4 h=>?_)
 ·refine awp_selQ (WA 4 [q25,q32,q9,q8,(9,vi q2),q11,q21,(34,vi 0)] [q3,mq m1,.data (q5.flatMap cel3),q12] ?_)
  refine awp_block (awp_loop (n:=fuel) ?_)
  refine awpN_ind (fun n (c5:Int×(List Int))=>F64L1 b0x1 n c5) o4 (fun (c5:Int×(List Int))=>[q25,(6,.sl 1 2 0 c5.2.length),q9,q8,(9,vi q2),q11,q21,(34,vi c5.1)]) (fun (c5:Int×(List Int))=>[q3,mq m1,.data (c5.2.flatMap cel3),q12]) (fun _=>rfl) ?_ fuel (0,q5) h
  clear h
  intro n6 c5 h hrn6
  change F64L1 b0x1 (n6+1) c5=some o4 at h
  rw [F64L1] at h
  refine GA [q25,(6,.sl 1 2 0 c5.2.length),q9,q8,(9,vi q2),q11,q21,(34,vi c5.1),(35,vb (decide (c5.1<(q5.length:Int))))] [q3,mq m1,.data (c5.2.flatMap cel3),q12] ?_
  refine awp_seq (cd h (fun hb7 h=>?_) (fun hb7 h=>?_))
  ·refine awp_skip ?_
   show awp ..
   refine awp_seq (awp_block ?_)
   refine GA [q25,(6,.sl 1 2 0 c5.2.length),q9,q8,(9,vi q2),q11,(11,vi c5.1),q21,(34,vi c5.1)] [q3,mq m1,.data (c5.2.flatMap cel3),q12] ?_
   obtain ⟨x8,hx8,h⟩:=ob h
   let q24:=(c5.2.set c5.1.toNat 1048576)
   refine XB [.no,.no,.no,.cells (q24.flatMap cel3)] [q25,(6,.sl 1 2 0 c5.2.length),q9,q8,(9,vi q2),q11,q21,(34,vi c5.1)] [q3,mq m1,.data (q24.flatMap cel3),q12] [(0≤c5.1∧c5.1<(c5.2.length:Int)),StoreOk ((c5.2.flatMap cel3).map .d) (0+c5.1.toNat*1) (([(di 1048576)]:List D).map .d) ((q24.flatMap cel3).map .d)] (And.intro (idx_bounds hx8) (storeOk (j:=0) (us:=([(di 1048576)]:List D)) (y:=1048576) cel3_len hx8 rfl rfl (Nat.le_of_ble_eq_true rfl))) ?_
   refine q_eq (T':=[(1,vi from_),(6,.sl 1 2 0 (c5.2.set c5.1.toNat 1048576).length),(7,.d dnil),(8,.d (L126 x1)),(9,vi (w64 ((b0x1.length:Int)+1))),(10,.sl 5 3 0 (List.replicate (w64 ((b0x1.length:Int)+1)).toNat ((⟨0,0,0,0,0⟩:S_edge_step):S_edge_step)).length),(33,vi ((List.replicate (w64 ((b0x1.length:Int)+1)).toNat (0:Int)).length:Int)),(34,vi c5.1)]) (H':=[sv b0x0 b0x1 b0x2 b0x3 1,mq m1,.data ((c5.2.set c5.1.toNat 1048576).flatMap cel3),.data ((List.replicate (w64 ((b0x1.length:Int)+1)).toNat ((⟨0,0,0,0,0⟩:S_edge_step):S_edge_step)).flatMap cel126)]) (by first|(simp +zetaDelta only [List.length_set];done)|(simp +zetaDelta only [len_copy];done)|simp +zetaDelta only [List.length_set,len_copy]) rfl ?_
   show awp ..
   refine XA [q25,(6,.sl 1 2 0 q24.length),q9,q8,(9,vi q2),q11,q21,(34,vi (w64 (c5.1+1)))] [q3,mq m1,.data (q24.flatMap cel3),q12] ?_
   exact gn 4 [1,6,7,8,9,10,33,34] (hrn6 _ h)
  ·refine awp_exit ?_
   obtain rfl:=oi h
   exact gs [0,1,2,3] [1,6,7,8,9,10] OutQ.norm
 ·obtain rfl:=oi h
  exact (main_retS [0,1] (.tup [.d (NL3 ro4.1),.d (NL126 ro4.2)]) (by kernel_rfl) (by kernel_rfl) (by kernel_rfl) (by kernel_rfl))
 ·show awp ..
  obtain ⟨x9,hx9,h⟩:=ob h
  let q15:=(so4.set from_.toNat 0)
  let q31:O:=.data (q15.flatMap cel3)
  refine GB [.no,.no,.no,.cells (q15.flatMap cel3)] [(6,.sl 1 2 0 so4.length),q9,q8,(9,vi q2),q11] [q3,mq m1,q31,q12] [(0≤from_∧from_<(so4.length:Int)),StoreOk ((so4.flatMap cel3).map .d) (0+from_.toNat*1) (([(di 0)]:List D).map .d) ((q15.flatMap cel3).map .d)] (And.intro (idx_bounds hx9) (storeOk (j:=0) (us:=([(di 0)]:List D)) (y:=0) cel3_len hx9 rfl rfl (Nat.le_of_ble_eq_true rfl))) ?_
  refine awp_eq (T':=[(6,.sl 1 2 0 (so4.set from_.toNat 0).length),(7,.d dnil),(8,.d (L126 x1)),(9,vi (w64 ((b0x1.length:Int)+1))),(10,.sl 5 3 0 (List.replicate (w64 ((b0x1.length:Int)+1)).toNat ((⟨0,0,0,0,0⟩:S_edge_step):S_edge_step)).length)]) (H':=[sv b0x0 b0x1 b0x2 b0x3 1,mq m1,.data ((so4.set from_.toNat 0).flatMap cel3),.data ((List.replicate (w64 ((b0x1.length:Int)+1)).toNat ((⟨0,0,0,0,0⟩:S_edge_step):S_edge_step)).flatMap cel126)]) (by first|(simp +zetaDelta only [List.length_set];done)|(simp +zetaDelta only [len_copy];done)|simp +zetaDelta only [List.length_set,len_copy]) rfl ?_
  refine GA [(6,.sl 1 2 0 q15.length),q9,q8,(9,vi q2),q11,(12,vi (-1))] [q3,mq m1,q31,q12] ?_
  refine awp_seq (awp_label ?_)
  show awp ..
  let q10:Nat×V:=(45,vi (w64 (q2+1)))
  refine awp_seq (GA [(6,.sl 1 2 0 q15.length),q9,q8,(9,vi q2),q11,(12,vi (-1)),q10,(46,vi 0)] [q3,mq m1,q31,q12] ?_)
  refine cuo h (fun (ro10:(List Int)×(List S_edge_step))=>[(6,.d (NL3 ro10.1)),(7,.d (NL126 ro10.2))]) (fun (ro10:(List Int)×(List S_edge_step))=>[q3,mq m1]) (fun (so10:Int×(List Int)×(List S_edge_step))=>[(6,.sl 1 2 0 so10.2.1.length),q9,(9,vi q2),(10,.sl 5 3 0 so10.2.2.length),(12,vi so10.1)]) (fun (so10:Int×(List Int)×(List S_edge_step))=>[q3,mq m1,.data (so10.2.1.flatMap cel3),.data (so10.2.2.flatMap cel126)]) (fun o10 h=>?_) (fun ro10 h=>?_) (fun so10 h=>?_)
  ·refine awp_selQ (WA 4 [(6,.sl 1 2 0 q15.length),q9,q8,(9,vi q2),q11,(12,vi (-1)),q10,(46,vi 0)] [q3,mq m1,q31,q12] ?_)
   refine awp_block (awp_loop (n:=fuel) ?_)
   refine awpN_ind (fun n (c11:Int×Int×(List Int)×(List S_edge_step))=>F64L2 fuel b0x1 x1 n c11) o10 (fun (c11:Int×Int×(List Int)×(List S_edge_step))=>[(6,.sl 1 2 0 c11.2.2.1.length),q9,q8,(9,vi q2),(10,.sl 5 3 0 c11.2.2.2.length),(12,vi c11.1),q10,(46,vi c11.2.1)]) (fun (c11:Int×Int×(List Int)×(List S_edge_step))=>[q3,mq m1,.data (c11.2.2.1.flatMap cel3),.data (c11.2.2.2.flatMap cel126)]) (fun _=>rfl) ?_ fuel ((-1),0,q15,q1) h
   clear h
   intro n12 c11 h hrn12
   change F64L2 fuel b0x1 x1 (n12+1) c11=some o10 at h
   rw [F64L2] at h
   let q18:Nat×V:=(46,vi c11.2.1)
   let q28:Nat×V:=(10,.sl 5 3 0 c11.2.2.2.length)
   let q29:Nat×V:=(6,.sl 1 2 0 c11.2.2.1.length)
   let q34:O:=.data (c11.2.2.2.flatMap cel126)
   let q38:O:=.data (c11.2.2.1.flatMap cel3)
   refine GA [q29,q9,q8,(9,vi q2),q28,(12,vi c11.1),q10,q18,(47,vb (decide (c11.2.1<(w64 (q2+1)))))] [q3,mq m1,q38,q34] ?_
   refine awp_seq (cd h (fun hb13 h=>?_) (fun hb13 h=>?_))
   ·refine awp_skip ?_
    show awp ..
    refine awp_seq (awp_block ?_)
    refine GA [q29,q9,q8,(9,vi q2),q28,(12,vi (-1)),q10,q18] [q3,mq m1,q38,q34] ?_
    let q22:Nat×V:=(48,.d (L126 x1))
    let q37:Nat×V:=(49,vl x1)
    refine awp_seq (HA [q29,q9,q8,(9,vi q2),q28,(12,vi (-1)),q10,q18,q22,q37,(50,vi 0)] ?_)
    refine cuo h (fun (ro14:(List Int)×(List S_edge_step))=>[(6,.d (NL3 ro14.1)),(7,.d (NL126 ro14.2))]) (fun (ro14:(List Int)×(List S_edge_step))=>[q3,mq m1]) (fun (so14:Int×(List Int)×(List S_edge_step))=>[(6,.sl 1 2 0 so14.2.1.length),q9,q8,(9,vi q2),(10,.sl 5 3 0 so14.2.2.length),(12,vi so14.1),q10,q18]) (fun (so14:Int×(List Int)×(List S_edge_step))=>[q3,mq m1,.data (so14.2.1.flatMap cel3),.data (so14.2.2.flatMap cel126)]) (fun o14 h=>?_) (fun ro14 h=>?_) (fun so14 h=>?_)
    ·refine awp_selQ (WA 4 [q29,q9,q8,(9,vi q2),q28,(12,vi (-1)),q10,q18,q22,q37,(50,vi 0)] [q3,mq m1,q38,q34] ?_)
     refine awp_block (awp_loop (n:=fuel) ?_)
     refine awpN_ind (fun n (c15:Int×Int×(List Int)×(List S_edge_step))=>F64L3 x1 n c15) o14 (fun (c15:Int×Int×(List Int)×(List S_edge_step))=>[(6,.sl 1 2 0 c15.2.2.1.length),q9,q8,(9,vi q2),(10,.sl 5 3 0 c15.2.2.2.length),(12,vi c15.1),q10,q18,q22,q37,(50,vi c15.2.1)]) (fun (c15:Int×Int×(List Int)×(List S_edge_step))=>[q3,mq m1,.data (c15.2.2.1.flatMap cel3),.data (c15.2.2.2.flatMap cel126)]) (fun _=>rfl) ?_ fuel ((-1),0,c11.2.2.1,c11.2.2.2) h
     clear h
     intro n16 c15 h hrn16
     change F64L3 x1 (n16+1) c15=some o14 at h
     rw [F64L3] at h
     let q19:Nat×V:=(10,.sl 5 3 0 c15.2.2.2.length)
     let q20:Nat×V:=(6,.sl 1 2 0 c15.2.2.1.length)
     let q35:O:=.data (c15.2.2.2.flatMap cel126)
     let q39:O:=.data (c15.2.2.1.flatMap cel3)
     refine GA [q20,q9,q8,(9,vi q2),q19,(12,vi c15.1),q10,q18,q22,q37,(50,vi c15.2.1),(51,vb (decide (c15.2.1<(x1.length:Int))))] [q3,mq m1,q39,q35] ?_
     refine awp_seq (cd h (fun hb17 h=>?_) (fun hb17 h=>?_))
     ·refine awp_skip ?_
      show awp ..
      refine awp_seq (awp_block ?_)
      obtain ⟨x18,hx18,h⟩:=ob h
      let q13:O:=.cells [vi x18.from_,vi x18.to_,vi x18.most,vi x18.edge,vi x18.sign]
      refine GB [.cells (cel126 x18)] [q20,q9,q8,(9,vi q2),q19,(12,vi c15.1),(14,rf 4),q10,q18,q22,q37,(50,vi c15.2.1)] [q3,mq m1,q39,q35,q13] [IX126 x1 c15.2.1 x18] (idxOk cel126_len hx18) ?_
      obtain ⟨x19,hx19,h⟩:=ob h
      let q26:=(w64 (x19+x18.most))
      refine hd [6,7,8,9,10,12,14,15,45,46,48,49,50] [.no,.no,.no,.no,.vals (([(di x19)]:List D).map .d)] 7 [6,7,8,9,10,12,14,15,45,46,48,49,50,58,60,61] [q20,q9,q8,(9,vi q2),q19,(12,vi c15.1),(14,rf 4),(15,vi q26),q10,q18,q22,q37,(50,vi c15.2.1)] [(0≤x18.from_∧x18.from_<(c15.2.2.1.length:Int)),LoadOk ((c15.2.2.1.flatMap cel3).map .d) (0+x18.from_.toNat*1) 1 (([(di x19)]:List D).map .d)] (And.intro (idx_bounds hx19) (loadOk (j:=0) (es:=([(di x19)]:List D)) cel3_len hx19 rfl rfl rfl (Nat.le_of_ble_eq_true rfl))) ?_
      obtain ⟨x20,hx20,h⟩:=ob h
      refine HB [.no,.no,.no,.no,.no,.vals (([(di x20)]:List D).map .d)] [q20,q9,q8,(9,vi q2),q19,(12,vi c15.1),(14,rf 4),(15,vi q26),q10,q18,q22,q37,(50,vi c15.2.1),(68,vb (decide (q26<x20)))] [(0≤x18.to_∧x18.to_<(c15.2.2.1.length:Int)),LoadOk ((c15.2.2.1.flatMap cel3).map .d) (0+x18.to_.toNat*1) 1 (([(di x20)]:List D).map .d)] (And.intro (idx_bounds hx20) (loadOk (j:=0) (es:=([(di x20)]:List D)) cel3_len hx20 rfl rfl rfl (Nat.le_of_ble_eq_true rfl))) ?_
      refine cd h (fun hb21 h=>?_) (fun hb21 h=>?_)
      ·obtain ⟨x22,hx22,h⟩:=ob h
       obtain ⟨x23,hx23,h⟩:=ob h
       let q14:=(c15.2.2.1.set x18.to_.toNat q26)
       let q23:=(c15.2.2.2.set x18.to_.toNat x18)
       refine awp_any (T':=[q20,q9,q8,(9,vi q2),q19,(12,vi x18.to_),q10,q18,q22,q37,(50,vi c15.2.1)]) (H':=[q3,mq m1,.data (q14.flatMap cel3),.data (q23.flatMap cel126),q13]) (ps:=[(0≤x18.to_∧x18.to_<(c15.2.2.1.length:Int)),StoreOk ((c15.2.2.1.flatMap cel3).map .d) (0+x18.to_.toNat*1) (([(di q26)]:List D).map .d) ((q14.flatMap cel3).map .d),(0≤x18.to_∧x18.to_<(c15.2.2.2.length:Int)),StoreOk ((c15.2.2.2.flatMap cel126).map .d) (0+x18.to_.toNat*5) (([(di x18.from_),(di x18.to_),(di x18.most),(di x18.edge),(di x18.sign)]:List D).map .d) ((q23.flatMap cel126).map .d)]) tt_ok mixed (ks:=[6,7,8,9,10,12,45,46,48,49,50]) (hs:=[.no,.no,.no,.no,.no,.no,.no,.no,.no,.no,.no,.cells (q14.flatMap cel3),.no,.cells (q23.flatMap cel126)]) (m:=14) (mid:=[6,7,8,9,10,12,45,46,48,49,50,78]) (by kernel_rfl) (And.intro (idx_bounds hx22) (And.intro (storeOk (j:=0) (us:=([(di q26)]:List D)) (y:=q26) cel3_len hx22 rfl rfl (Nat.le_of_ble_eq_true rfl)) (And.intro (idx_bounds hx23) (storeOk (j:=0) (us:=([(di x18.from_),(di x18.to_),(di x18.most),(di x18.edge),(di x18.sign)]:List D)) (y:=x18) cel126_len hx23 rfl rfl (Nat.le_of_ble_eq_true rfl))))) ?_
       refine q_eq (T':=[(6,.sl 1 2 0 (c15.2.2.1.set x18.to_.toNat (w64 (x19+x18.most))).length),(7,.d dnil),(8,.d (L126 x1)),(9,vi (w64 ((b0x1.length:Int)+1))),(10,.sl 5 3 0 (c15.2.2.2.set x18.to_.toNat x18).length),(12,vi x18.to_),(45,vi (w64 ((w64 ((b0x1.length:Int)+1))+1))),(46,vi c11.2.1),(48,.d (L126 x1)),(49,vl x1),(50,vi c15.2.1)]) (H':=[sv b0x0 b0x1 b0x2 b0x3 1,mq m1,.data ((c15.2.2.1.set x18.to_.toNat (w64 (x19+x18.most))).flatMap cel3),.data ((c15.2.2.2.set x18.to_.toNat x18).flatMap cel126),.cells [vi x18.from_,vi x18.to_,vi x18.most,vi x18.edge,vi x18.sign]]) (by first|(simp +zetaDelta only [List.length_set];done)|(simp +zetaDelta only [len_copy];done)|simp +zetaDelta only [List.length_set,len_copy]) rfl ?_
       show awp ..
       refine XA [(6,.sl 1 2 0 q14.length),q9,q8,(9,vi q2),(10,.sl 5 3 0 q23.length),(12,vi x18.to_),q10,q18,q22,q37,(50,vi (w64 (c15.2.1+1)))] [q3,mq m1,.data (q14.flatMap cel3),.data (q23.flatMap cel126),q13] ?_
       exact gn 4 [6,7,8,9,10,12,45,46,48,49,50] (hrn16 _ h)
      ·refine awp_skip ?_
       show awp ..
       refine XA [q20,q9,q8,(9,vi q2),q19,(12,vi c15.1),q10,q18,q22,q37,(50,vi (w64 (c15.2.1+1)))] [q3,mq m1,q39,q35,q13] ?_
       exact gn 4 [6,7,8,9,10,12,45,46,48,49,50] (hrn16 _ h)
     ·refine awp_exit ?_
      obtain rfl:=oi h
      exact gs [0,1,2,3] [6,7,8,9,10,12,45,46] OutQ.norm
    ·obtain rfl:=oi h
     exact gs [0,1] [6,7] OutQ.ret
    ·show awp ..
     refine GA [(6,.sl 1 2 0 so14.2.1.length),q9,q8,(9,vi q2),(10,.sl 5 3 0 so14.2.2.length),(12,vi so14.1),q10,q18,(83,vb (decide (so14.1<0)))] [q3,mq m1,.data (so14.2.1.flatMap cel3),.data (so14.2.2.flatMap cel126)] ?_
     refine cd h (fun hb24 h=>?_) (fun hb24 h=>?_)
     ·refine awp_exit ?_
      obtain rfl:=oi h
      exact gs [0,1,2,3] [6,7,9,10,12] OutQ.norm
     ·refine awp_skip ?_
      show awp ..
      refine XA [(6,.sl 1 2 0 so14.2.1.length),q9,q8,(9,vi q2),(10,.sl 5 3 0 so14.2.2.length),(12,vi so14.1),q10,(46,vi (w64 (c11.2.1+1)))] [q3,mq m1,.data (so14.2.1.flatMap cel3),.data (so14.2.2.flatMap cel126)] ?_
      exact gn 4 [6,7,8,9,10,12,45,46] (hrn12 _ h)
   ·refine awp_exit ?_
    obtain rfl:=oi h
    exact gs [0,1,2,3] [6,7,9,10,12] OutQ.norm
  ·obtain rfl:=oi h
   exact (main_retS [0,1] (.tup [.d (NL3 ro10.1),.d (NL126 ro10.2)]) (by kernel_rfl) (by kernel_rfl) (by kernel_rfl) (by kernel_rfl))
  ·show awp ..
   let q4:O:=.data (so10.2.2.flatMap cel126)
   let q6:O:=.data (so10.2.1.flatMap cel3)
   let q7:Nat×V:=(10,.sl 5 3 0 so10.2.2.length)
   refine awp_seq (GA [(6,.sl 1 2 0 so10.2.1.length),q9,(9,vi q2),q7,(12,vi so10.1),(86,vb (decide (so10.1<0)))] [q3,mq m1,q6,q4] ?_)
   refine cd h (fun hb25 h=>?_) (fun hb25 h=>?_)
   ·refine GA [(6,.sl 1 2 0 so10.2.1.length),q9] [q3,mq m1,q6,q4] ?_
    obtain ⟨x26,hx26,h⟩:=ob h
    obtain rfl:=oi h
    refine WB 4 [(6,.sl 1 2 0 so10.2.1.length),q9] ?_
    refine awp_freeze 6 2 (so10.2.1.flatMap cel3) (.sl 1 2 0 so10.2.1.length) (.d (L3 so10.2.1)) _ _ (ps:=[(so10.2.1.flatMap cel3).length=so10.2.1.length*1]) (by kernel_rfl) (by kernel_rfl) (by kernel_rfl) (flatMap_len cel3 1 cel3_len so10.2.1) rfl rfl ?_
    let q33:O:=.data (([]:List Int).flatMap cel3)
    refine WA 4 [(6,.d (L3 so10.2.1)),q9] [q3,mq m1,q33,q4] ?_
    refine awp_laxT 6 _ (NL3 so10.2.1) _ (by kernel_rfl) (.tonl (need_of hx26)) rfl ?_
    refine WA 4 [(6,.d (NL3 so10.2.1)),q9] [q3,mq m1,q33,q4] ?_
    refine awp_laxT 7 _ (NL126 ([]:List S_edge_step)) _ (by kernel_rfl) (.nilnl) rfl ?_
    refine WA 4 [(6,.d (NL3 so10.2.1)),(7,.d (NL126 ([]:List S_edge_step)))] [q3,mq m1,q33,q4] ?_
    exact awp_ret (main_retS [0,1] (.tup [.d (NL3 so10.2.1),.d (NL126 ([]:List S_edge_step))]) (by kernel_rfl) (by kernel_rfl) (by kernel_rfl) (by kernel_rfl))
   ·refine awp_skip ?_
    show awp ..
    refine GA [q9,(9,vi q2),q7,(16,vi so10.1)] [q3,mq m1,q6,q4] ?_
    refine awp_seq (HA [q9,q7,(16,vi so10.1),(89,vi q2),(90,vi 0)] ?_)
    refine cuo h (fun (ro27:(List Int)×(List S_edge_step))=>[(6,.d (NL3 ro27.1)),(7,.d (NL126 ro27.2))]) (fun (ro27:(List Int)×(List S_edge_step))=>[q3,mq m1]) (fun (so27:Int)=>[q9,q7,(16,vi so27)]) (fun (so27:Int)=>[q3,mq m1,q6,q4]) (fun o27 h=>?_) (fun ro27 h=>?_) (fun so27 h=>?_)
    ·refine awp_selQ (WA 4 [q9,q7,(16,vi so10.1),(89,vi q2),(90,vi 0)] [q3,mq m1,q6,q4] ?_)
     refine awp_block (awp_loop (n:=fuel) ?_)
     refine awpN_ind (fun n (c28:Int×Int)=>F64L4 b0x1 so10 n c28) o27 (fun (c28:Int×Int)=>[q9,q7,(16,vi c28.1),(89,vi q2),(90,vi c28.2)]) (fun (c28:Int×Int)=>[q3,mq m1,q6,q4]) (fun _=>rfl) ?_ fuel (so10.1,0) h
     clear h
     intro n29 c28 h hrn29
     change F64L4 b0x1 so10 (n29+1) c28=some o27 at h
     rw [F64L4] at h
     refine GA [q9,q7,(16,vi c28.1),(89,vi q2),(90,vi c28.2),(91,vb (decide (c28.2<q2)))] [q3,mq m1,q6,q4] ?_
     refine awp_seq (cd h (fun hb30 h=>?_) (fun hb30 h=>?_))
     ·refine awp_skip ?_
      show awp ..
      refine awp_seq (awp_block ?_)
      obtain ⟨x31,hx31,h⟩:=ob h
      refine XB [.no,.no,.no,.no,.vals (([(di x31.from_)]:List D).map .d)] [q9,q7,(16,vi x31.from_),(89,vi q2),(90,vi c28.2)] [q3,mq m1,q6,q4] [(0≤c28.1∧c28.1<(so10.2.2.length:Int)),LoadOk ((so10.2.2.flatMap cel126).map .d) (0+c28.1.toNat*5+0) 1 (([(di x31.from_)]:List D).map .d)] (And.intro (idx_bounds hx31) (loadOk (j:=0) (es:=([(di x31.from_)]:List D)) cel126_len hx31 rfl rfl rfl (Nat.le_of_ble_eq_true rfl))) ?_
      show awp ..
      refine YA [q9,q7,(16,vi x31.from_),(89,vi q2),(90,vi (w64 (c28.2+1)))] ?_
      exact gn 4 [7,10,16,89,90] (hrn29 _ h)
     ·refine awp_exit ?_
      obtain rfl:=oi h
      exact gs [0,1,2,3] [7,10,16] OutQ.norm
    ·obtain rfl:=oi h
     exact (main_retS [0,1] (.tup [.d (NL3 ro27.1),.d (NL126 ro27.2)]) (by kernel_rfl) (by kernel_rfl) (by kernel_rfl) (by kernel_rfl))
    ·show awp ..
     let q36:Nat×V:=(17,vi so27)
     refine awp_seq (GA [q9,q7,(16,vi so27),q36] [q3,mq m1,q6,q4] ?_)
     refine awp_nil 7 5 (by kernel_rfl) ?_
     let q17:O:=.data (([]:List S_edge_step).flatMap cel126)
     let q30:Nat×V:=(7,.sl 5 4 0 ([]:List S_edge_step).length)
     refine awp_eq (T':=[q30,q7,(16,vi so27),q36]) (H':=[q3,mq m1,q6,q4,q17]) (by kernel_rfl) (by kernel_rfl) ?_
     refine WA 5 [q30,q7,(16,vi so27),q36] [q3,mq m1,q6,q4,q17] ?_
     refine cuo h (fun (ro33:(List Int)×(List S_edge_step))=>[(6,.d (NL3 ro33.1)),(7,.d (NL126 ro33.2))]) (fun (ro33:(List Int)×(List S_edge_step))=>[q3,mq m1]) (fun (so33:(List S_edge_step))=>[(7,.sl 5 4 0 so33.length)]) (fun (so33:(List S_edge_step))=>[q3,mq m1,q6,q4,.data (so33.flatMap cel126)]) (fun o33 h=>?_) (fun ro33 h=>?_) (fun so33 h=>?_)
     ·refine awp_selQ (WA 5 [q30,q7,(16,vi so27),q36] [q3,mq m1,q6,q4,q17] ?_)
      refine awp_block (awp_loop (n:=fuel) ?_)
      refine awpN_ind (fun n (c34:Int×(List S_edge_step))=>F64L5 so10 so27 n c34) o33 (fun (c34:Int×(List S_edge_step))=>[(7,.sl 5 4 0 c34.2.length),q7,(16,vi c34.1),q36]) (fun (c34:Int×(List S_edge_step))=>[q3,mq m1,q6,q4,.data (c34.2.flatMap cel126)]) (fun _=>rfl) ?_ fuel (so27,([]:List S_edge_step)) h
      clear h
      intro n35 c34 h hrn35
      change F64L5 so10 so27 (n35+1) c34=some o33 at h
      rw [F64L5] at h
      let q27:=(!((c34.2.length:Int)==0))
      refine awp_seq (GB [] [(7,.sl 5 4 0 c34.2.length),q7,(16,vi c34.1),q36,(106,vb (cond ((c34.2.length:Int)==0) true (c34.1 != so27)))] [q3,mq m1,q6,q4,.data (c34.2.flatMap cel126)] [(q27=true→q27=true),(q27=true→q27=true),(((c34.2.length:Int)==0)=false→q27=true)] (And.intro (id) (And.intro (id) (not_of))) ?_)
      refine cd h (fun hb36 h=>?_) (fun hb36 h=>?_)
      ·refine awp_skip ?_
       show awp ..
       refine awp_seq (awp_block ?_)
       obtain ⟨x37,hx37,h⟩:=ob h
       obtain ⟨x38,hx38,h⟩:=ob h
       let q16:=(c34.2++([x37]:List S_edge_step))
       refine XB [.no,.no,.no,.no,.vals (([(di x37.from_),(di x37.to_),(di x37.most),(di x37.edge),(di x37.sign)]:List D).map .d),.no,.list q16.length (q16.flatMap cel126)] [(7,.sl 5 4 0 q16.length),q7,(16,vi c34.1),q36] [q3,mq m1,q6,q4,.data (q16.flatMap cel126)] [(0≤c34.1∧c34.1<(so10.2.2.length:Int)),LoadOk ((so10.2.2.flatMap cel126).map .d) (0+c34.1.toNat*5) 5 (([(di x37.from_),(di x37.to_),(di x37.most),(di x37.edge),(di x37.sign)]:List D).map .d),AppendOk ((c34.2.flatMap cel126).map .d) c34.2.length ([x37]:List S_edge_step).length q16.length 5 40 (([x37]:List S_edge_step).flatMap cel126) (q16.flatMap cel126)] (And.intro (idx_bounds hx37) (And.intro (loadOk (j:=0) (es:=([(di x37.from_),(di x37.to_),(di x37.most),(di x37.edge),(di x37.sign)]:List D)) cel126_len hx37 rfl rfl rfl (Nat.le_of_ble_eq_true rfl)) (appendOk cel126_len (need_of hx38)))) ?_
       show awp ..
       obtain ⟨x39,hx39,h⟩:=ob h
       refine YB [.no,.no,.no,.no,.vals (([(di x39.from_)]:List D).map .d)] [(7,.sl 5 4 0 q16.length),q7,(16,vi x39.from_),q36] [(0≤c34.1∧c34.1<(so10.2.2.length:Int)),LoadOk ((so10.2.2.flatMap cel126).map .d) (0+c34.1.toNat*5+0) 1 (([(di x39.from_)]:List D).map .d)] (And.intro (idx_bounds hx39) (loadOk (j:=0) (es:=([(di x39.from_)]:List D)) cel126_len hx39 rfl rfl rfl (Nat.le_of_ble_eq_true rfl))) ?_
       exact gn 5 [7,10,16,17] (hrn35 _ h)
      ·refine awp_exit ?_
       obtain rfl:=oi h
       exact gs [0,1,2,3,4] [7] OutQ.norm
     ·obtain rfl:=oi h
      exact (main_retS [0,1] (.tup [.d (NL3 ro33.1),.d (NL126 ro33.2)]) (by kernel_rfl) (by kernel_rfl) (by kernel_rfl) (by kernel_rfl))
     ·show awp ..
      refine GA [(6,.d dnil),(7,.sl 5 4 0 so33.length)] [q3,mq m1,q6,q4,.data (so33.flatMap cel126)] ?_
      obtain ⟨x40,hx40,h⟩:=ob h
      obtain rfl:=oi h
      refine WB 5 [(6,.d dnil),(7,.sl 5 4 0 so33.length)] ?_
      refine awp_laxT 6 _ (NL3 ([]:List Int)) _ (by kernel_rfl) (.nilnl) rfl ?_
      refine WA 5 [(6,.d (NL3 ([]:List Int))),(7,.sl 5 4 0 so33.length)] [q3,mq m1,q6,q4,.data (so33.flatMap cel126)] ?_
      refine awp_freeze 7 4 (so33.flatMap cel126) (.sl 5 4 0 so33.length) (.d (L126 so33)) _ _ (ps:=[(so33.flatMap cel126).length=so33.length*5]) (by kernel_rfl) (by kernel_rfl) (by kernel_rfl) (flatMap_len cel126 5 cel126_len so33) rfl rfl ?_
      refine WA 5 [(6,.d (NL3 ([]:List Int))),(7,.d (L126 so33))] [q3,mq m1,q6,q4,q17] ?_
      refine awp_laxT 7 _ (NL126 so33) _ (by kernel_rfl) (.tonl (need_of hx40)) rfl ?_
      refine WA 5 [(6,.d (NL3 ([]:List Int))),(7,.d (NL126 so33))] [q3,mq m1,q6,q4,q17] ?_
      exact awp_ret (main_retS [0,1] (.tup [.d (NL3 ([]:List Int)),.d (NL126 so33)]) (by kernel_rfl) (by kernel_rfl) (by kernel_rfl) (by kernel_rfl))
theorem ct25 {fuel:Nat}  {p_c:S_api_EdCase} {at_:Int} {res:S_api_Span×Int} (h:F25 fuel p_c at_=some res):PCall Try.prog 25 [(ca p_c),(di at_)] (.tup [.d (.agg [(di res.1.Lo),(di res.1.Hi)]),vi res.2]):=by
 refine PCall.of_awp tt_ok (N:=60) Try.func25 rfl (by kernel_rfl) rfl (Nat.le_of_ble_eq_true rfl) rfl ?_
 unfold F25 at h
 let q3:List O:=[cs p_c,.cells [vi 0,vi 0]]
 let q4:Nat×V:=(1,vi at_)
 refine GA [q4,(2,rf 0),(4,rf 1)] q3 ?_
 obtain ⟨x1,hx1,h⟩:=ob h
 cases x1 with
 | inl y2 =>
  rw [outK_inl] at h
  let q1:List O:=[cs p_c,.cells [vi 0,vi 0],sv y2.2.1 y2.2.2.1 y2.2.2.2.1 y2.2.2.2.2.1 3,mq y2.2.2.2.2.2]
  let q2:List O:=[sv y2.2.1 y2.2.2.1 y2.2.2.2.1 y2.2.2.2.2.1 1,mq y2.2.2.2.2.2]
  refine GB [.no,.hcall [] (.tup [rf 0,vi y2.1]) q2] [q4,(2,rf 0),(4,rf 1),(6,rf 2),(7,vi y2.1)] q1 [HCall Try.prog 57 [.d (ca p_c)] [] (.tup [rf 0,vi y2.1]) q2] (ct57v1 hx1) ?_
  refine awp_seq (awp_block ?_)
  refine HA [q4,(2,rf 0),(4,rf 1),(6,rf 2),(7,vi y2.1),(17,vb (y2.1 != 0))] ?_
  refine cd h (fun hb3 h=>?_) (fun hb3 h=>?_)
  ·refine GA [(4,rf 1),(5,vi y2.1)] q1 ?_
   obtain rfl:=oi h
   refine WB 4 [(4,rf 1),(5,vi y2.1)] ?_
   exact awp_ret gm
  ·obtain ⟨x4,hx4,h⟩:=ob h
   refine GB [.no,.no,.no,.no,.no,.no,.call [(di 0),(di (w64 ((p_c.Sheets.length:Int)-1))),(L3 ([at_]:List Int))] (vb x4)] [q4,(2,rf 0),(4,rf 1),(6,rf 2),(22,vb x4)] q1 [PCall Try.prog 48 [(di 0),(di (w64 ((p_c.Sheets.length:Int)-1))),(L3 ([at_]:List Int))] (vb x4)] (ct48 hx4) ?_
   refine cd h (fun hb5 h=>?_) (fun hb5 h=>?_)
   ·refine GA [(4,rf 1),(5,vi 4)] q1 ?_
    obtain rfl:=oi h
    refine WB 4 [(4,rf 1),(5,vi 4)] ?_
    exact awp_ret gm
   ·refine awp_skip ?_
    show awp ..
    obtain ⟨x6,hx6,h⟩:=ob h
    refine GB [.no,.no,.no,.no,.hcall [(2,false),(3,false)] (.tup [.d (NL3 x6.1),.d (NL126 x6.2)]) q2] [q4,(2,rf 0),(4,rf 1),(6,rf 2),(8,.d (NL3 x6.1)),(9,.d (NL126 x6.2))] q1 [HCall Try.prog 64 [rf 0,vl p_c.Sheets,vi 0] q2 (.tup [.d (NL3 x6.1),.d (NL126 x6.2)]) q2] (ct64 hx6) ?_
    refine awp_seq (HB [.no,.nil (Nat.beq x6.2.length 0)] [q4,(2,rf 0),(4,rf 1),(6,rf 2),(8,.d (NL3 x6.1)),(40,vb (!(Nat.beq x6.2.length 0)))] [NilIs (NL126 x6.2) (Nat.beq x6.2.length 0)] (nilIs_nl) ?_)
    refine cd h (fun hb7 h=>?_) (fun hb7 h=>?_)
    ·refine GA [(4,rf 1),(5,vi 9)] q1 ?_
     obtain rfl:=oi h
     refine WB 4 [(4,rf 1),(5,vi 9)] ?_
     exact awp_ret gm
    ·refine awp_skip ?_
     show awp ..
     obtain ⟨x8,hx8,h⟩:=ob h
     refine GB [.no,.no,.hcall [(2,false),(3,false)] (.tup [.d (NL3 x8.1),.d (NL126 x8.2)]) q2] [q4,(2,rf 0),(4,rf 1),(8,.d (NL3 x6.1)),(10,.d (NL3 x8.1))] q1 [HCall Try.prog 64 [rf 0,vi at_,vi 0] q2 (.tup [.d (NL3 x8.1),.d (NL126 x8.2)]) q2] (ct64 hx8) ?_
     obtain ⟨x9,hx9,h⟩:=ob h
     obtain ⟨x10,hx10,h⟩:=ob h
     refine sd [4,5] [.no,.no,.no,.no,.cells (cel3 x9),.no,.no,.no,.no,.cells (cel3 x10)] 11 [4,5,54,58,59] [(4,rf 1),(5,vi 0)] [cs p_c,.cells [vi (w64 (0-x9)),vi x10],sv y2.2.1 y2.2.2.1 y2.2.2.2.1 y2.2.2.2.2.1 3,mq y2.2.2.2.2.2] [IX3 x8.1 (p_c.Sheets.length:Int) x9,IX3 x6.1 at_ x10] (And.intro (idxOk cel3_len hx9) (idxOk cel3_len hx10)) ?_
     obtain rfl:=oi h
     refine WB 4 [(4,rf 1),(5,vi 0)] ?_
     exact awp_ret gm
 | inr y11 =>
  rw [outK_inr] at h
  refine GB [.no,.hcall [] (.tup [.d (.v (.pointer none)),vi y11]) []] [q4,(2,rf 0),(4,rf 1),(6,.d (.v (.pointer none))),(7,vi y11)] q3 [HCall Try.prog 57 [.d (ca p_c)] [] (.tup [.d (.v (.pointer none)),vi y11]) []] (ct57v1 hx1) ?_
  refine awp_seq (awp_block ?_)
  refine HA [q4,(2,rf 0),(4,rf 1),(6,.d (.v (.pointer none))),(7,vi y11),(17,vb (y11 != 0))] ?_
  refine cd h (fun hb12 h=>?_) (fun hb12 h=>?_)
  ·refine GA [(4,rf 1),(5,vi y11)] q3 ?_
   obtain rfl:=oi h
   refine WB 2 [(4,rf 1),(5,vi y11)] ?_
   exact awp_ret gm
  ·obtain ⟨x13,hx13,h⟩:=ob h
   refine GB [.no,.no,.no,.no,.no,.no,.call [(di 0),(di (w64 ((p_c.Sheets.length:Int)-1))),(L3 ([at_]:List Int))] (vb x13)] [q4,(2,rf 0),(4,rf 1),(6,.d (.v (.pointer none))),(22,vb x13)] q3 [PCall Try.prog 48 [(di 0),(di (w64 ((p_c.Sheets.length:Int)-1))),(L3 ([at_]:List Int))] (vb x13)] (ct48 hx13) ?_
   refine cd h (fun hb14 h=>?_) (fun hb14 h=>?_)
   ·refine GA [(4,rf 1),(5,vi 4)] q3 ?_
    obtain rfl:=oi h
    refine WB 2 [(4,rf 1),(5,vi 4)] ?_
    exact awp_ret gm
   ·refine awp_skip ?_
    show awp ..
    exact absurd h (by simp)
end Go.Proofs.Ytallnifoeahpiaa
