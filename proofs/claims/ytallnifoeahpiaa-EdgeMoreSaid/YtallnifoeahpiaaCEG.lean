/- That functions of the seat compute this. Printed by a program of mine. -/
import Derived.Test.YtallnifoeahpiaaS
import Derived.Test.YtallnifoeahpiaaCEB
import Derived.Test.YtallnifoeahpiaaCEC
import Derived.Test.YtallnifoeahpiaaCED
import Derived.Test.YtallnifoeahpiaaDEG
namespace Go.Proofs.Ytallnifoeahpiaa
open Go Go.Sx
set_option maxRecDepth 100000
set_option linter.unusedVariables false
theorem ct89  {p_x:(List Int)} {b0x0:Int} {b0x1:List S_api_EdSheet} {b0x2:List S_api_EdEdge} {b0x3:List Int} {m1:List ((List Int)×Int)} {res:(List Int)} (h:F89 p_x b0x0 b0x1 b0x2 b0x3 m1=some res):HCall Try.prog 89 [rf 0,.d (.agg (p_x.map di0))] [sv b0x0 b0x1 b0x2 b0x3 1,mq m1] (.fn (.func 103) [] [rf 2,rf 3]) [sv b0x0 b0x1 b0x2 b0x3 1,mq m1,.cells [rf 0],vw res]:=by
 refine HCall.of_awpS tt_ok (N:=6) (fl:=2) Try.func89 rfl (by kernel_rfl) rfl rfl (Nat.le_of_ble_eq_true rfl) ?_
 unfold F89 at h
 refine GA [(2,rf 2),(3,rf 3)] [sv b0x0 b0x1 b0x2 b0x3 1,mq m1,.cells [rf 0],.cells ((p_x.map di0).map .d)] ?_
 refine awp_vec 3 ((p_x.map di0).map .d) [] p_x [] [sv b0x0 b0x1 b0x2 b0x3 1,mq m1,.cells [rf 0],vw p_x] (by kernel_rfl) (map_dd _) (by kernel_rfl) ?_
 refine GA [(4,.fn (.func 103) [] [rf 2,rf 3])] [sv b0x0 b0x1 b0x2 b0x3 1,mq m1,.cells [rf 0],vw p_x] ?_
 obtain rfl:=oi h
 refine WB 4 [(4,.fn (.func 103) [] [rf 2,rf 3])] ?_
 exact awp_ret (main_retS [0,1,2,3] (.fn (.func 103) [] [rf 2,rf 3]) (by kernel_rfl) (by kernel_rfl) (by kernel_rfl) (by kernel_rfl))
theorem ct88r {fuel:Nat}  {y1x0:List Int} {b1x0:List Int} {b3x0:Int} {b3x1:List S_api_EdSheet} {b3x2:List S_api_EdEdge} {b3x3:List Int} {m4:List ((List Int)×Int)} {b5x0:Int} {res:(List Int)×(List ((List Int)×Int))×Int} (h:F88r fuel y1x0 b1x0 b3x0 b3x1 b3x2 b3x3 m4 b5x0=some res):YCall Try.prog [.yld 0,.d (.agg (y1x0.map di0))] [.loop (some none) [15] asn88x0 bdy88x0 26 [(3,rf 1),(5,rf 2),(8,rf 5)],vw b1x0,.cells [.fn (.func 63) [rf 3] []],sv b3x0 b3x1 b3x2 b3x3 4,mq m4,.cells [vi b5x0]] (vb true) [.loop (some none) [15] asn88x0 bdy88x0 26 [(3,rf 1),(5,rf 2),(8,rf 5)],vw res.1,.cells [.fn (.func 63) [rf 3] []],sv b3x0 b3x1 b3x2 b3x3 4,mq res.2.1,.cells [vi res.2.2]]:=by
 let q4:St:=[(3,rf 1),(5,rf 2),(8,rf 5)]
 refine YCall.of_awp (N:=26) (k:=0) (ps:=[15]) (asg:=asn88x0) (bd:=bdy88x0) (Tl:=[(3,rf 1),(5,rf 2),(8,rf 5)]) rfl (by kernel_rfl) rfl ?_
 let q2:O:=.cells [.fn (.func 63) [rf 3] []]
 let q3:O:=sv b3x0 b3x1 b3x2 b3x3 4
 let q5:O:=.cells [vi b5x0]
 refine awp_eq (T':=[(15,.d (.agg (y1x0.map di0))),(3,rf 1),(5,rf 2),(8,rf 5)]) (H':=[.loop (some none) [15] asn88x0 bdy88x0 26 q4,vw b1x0,q2,q3,mq m4,q5]) (by kernel_rfl) rfl ?_
 change awp _ _ _ _ asn88x0 _ _ _
 unfold F88r at h
 obtain ⟨x1,hx1,h⟩:=ob h
 refine XB [.no,.vals (y1x0.map vi)] [(3,rf 1),(5,rf 2),(8,rf 5),(9,rf 6)] [.loop (some none) [15] asn88x0 bdy88x0 26 q4,vw b1x0,q2,q3,mq m4,q5,.cells (y1x0.map vi)] [((((y1x0.map di0).map V.d)).length=5),StoreOk ((List.replicate 5 (0:Int)).map vi) 0 ((y1x0.map di0).map V.d) (y1x0.map vi)] (And.intro ((by rw [map_dd];exact (List.length_map _).trans (need_of hx1))) ((by rw [map_dd];exact vecStores (n:=5) rfl (need_of hx1)))) ?_
 refine ⟨rfl,by kernel_rfl,?_⟩
 let q1:O:=.loop (none) [15] asn88x0 bdy88x0 26 q4
 refine awp_eq (T':=[(3,rf 1),(5,rf 2),(8,rf 5),(9,rf 6)]) (H':=[q1,vw b1x0,q2,q3,mq m4,q5,.cells (y1x0.map vi)]) rfl rfl ?_
 refine awp_vec 6 (y1x0.map vi) [] y1x0 [] [q1,vw b1x0,q2,q3,mq m4,q5,vw y1x0] (by kernel_rfl) rfl (by kernel_rfl) ?_
 refine awp_wkQ ?_
 refine awp_block ?_
 obtain ⟨x2,hx2,h⟩:=ob h
 obtain ⟨x3,hx3,h⟩:=ob h
 refine GB [.no,.cells (x2.map di0),.hcall [(3,false),(4,false)] (vi x3.1) [sv b3x0 b3x1 b3x2 b3x3 1,mq x3.2]] [(3,rf 1),(8,rf 5),(9,rf 6),(10,vi x3.1)] [q1,vw b1x0,q2,q3,mq x3.2,q5,vw y1x0] [LoadOk (([]:List V)++y1x0.map vi) 0 5 ((x2.map di0).map .d),HCall Try.prog 63 [rf 0,.d (.agg (x2.map di0))] [sv b3x0 b3x1 b3x2 b3x3 1,mq m4] (vi x3.1) [sv b3x0 b3x1 b3x2 b3x3 1,mq x3.2]] (And.intro ((by rw [map_dd];exact vecLoads (p:=0) (pre:=[]) rfl hx2 rfl)) (ct63 hx3)) ?_
 refine HA [(3,rf 1),(8,rf 5),(9,rf 6),(10,vi x3.1),(21,vb (decide (x3.1<b5x0)))] ?_
 refine cd h (fun hb4 h=>?_) (fun hb4 h=>?_)
 ·obtain ⟨x5,hx5,h⟩:=ob h
  obtain ⟨x6,hx6,h⟩:=ob h
  obtain ⟨x7,hx7,h⟩:=ob h
  refine XB [.cells (x5.map di0),.no,.nums x5] [] [q1,vw x5,q2,q3,mq x3.2,.cells [vi x3.1],vw y1x0] [LoadOk (([]:List V)++y1x0.map vi) 0 5 ((x5.map di0).map .d),((((x5.map di0).map V.d)).length=5),StoreOk (b1x0.map vi) 0 ((x5.map di0).map V.d) (x5.map vi)] (And.intro ((by rw [map_dd];exact vecLoads (p:=0) (pre:=[]) rfl hx5 rfl)) (And.intro ((by rw [map_dd];exact (List.length_map _).trans (need_of hx6))) ((by rw [map_dd];exact vecStores (n:=5) ((List.length_map _).trans (need_of hx7)) (need_of hx6))))) ?_
  obtain rfl:=oi h
  repeat (first|refine blockQ_ne (by decide) ?_|refine thenQ_exit ?_|refine noGotoA_exit ?_)
  try delta blockQ
  try delta thenQ
  try delta noGotoA
  show Wk _ _ _ _ _
  refine Wk.mk 6 [] (by kernel_rfl) (T':=[]) (H':=[q1,vw x5,q2,q3,mq x3.2,.cells [vi x3.1]]) (by kernel_rfl) (by kernel_rfl) ?_
  exact ⟨none,rfl,rfl,by kernel_rfl,by kernel_rfl⟩
 ·refine awp_skip ?_
  obtain rfl:=oi h
  repeat (first|refine blockQ_ne (by decide) ?_|refine thenQ_exit ?_|refine noGotoA_exit ?_)
  try delta blockQ
  try delta thenQ
  try delta noGotoA
  show Wk _ _ _ _ _
  refine Wk.mk 6 [] (by kernel_rfl) (T':=[]) (H':=[q1,vw b1x0,q2,q3,mq x3.2,q5]) (by kernel_rfl) (by kernel_rfl) ?_
  exact ⟨none,rfl,rfl,by kernel_rfl,by kernel_rfl⟩
theorem ct103 {fuel:Nat}  {b1x0:List Int} {b3x0:Int} {b3x1:List S_api_EdSheet} {b3x2:List S_api_EdEdge} {b3x3:List Int} {m4:List ((List Int)×Int)} {b5x0:Int} {b7x0:List Int} {res:(List Int)×(List ((List Int)×Int))×Int} (h:F103 fuel b1x0 b3x0 b3x1 b3x2 b3x3 m4 b5x0 b7x0=some res):HCall Try.prog 103 [.yld 0,rf 6,rf 7] [.loop (some none) [15] asn88x0 bdy88x0 26 [(3,rf 1),(5,rf 2),(8,rf 5)],vw b1x0,.cells [.fn (.func 63) [rf 3] []],sv b3x0 b3x1 b3x2 b3x3 4,mq m4,.cells [vi b5x0],.cells [rf 3],vw b7x0] (.tup []) [.loop (some none) [15] asn88x0 bdy88x0 26 [(3,rf 1),(5,rf 2),(8,rf 5)],vw res.1,.cells [.fn (.func 63) [rf 3] []],sv b3x0 b3x1 b3x2 b3x3 4,mq res.2.1,.cells [vi res.2.2],.cells [rf 3],vw b7x0]:=by
 refine HCall.of_awpS tt_ok (N:=59) (fl:=8) Try.func103 rfl (by kernel_rfl) rfl rfl (Nat.le_of_ble_eq_true rfl) ?_
 unfold F103 at h
 refine awp_scope ?_
 refine awp_seq (awp_label ?_)
 show awp ..
 let q1:O:=.loop (some none) [15] asn88x0 bdy88x0 26 [(3,rf 1),(5,rf 2),(8,rf 5)]
 let q2:O:=.cells [.fn (.func 63) [rf 3] []]
 let q3:O:=sv b3x0 b3x1 b3x2 b3x3 4
 let q4:O:=.cells [rf 3]
 let q11:Nat×V:=(0,.yld 0)
 refine GA [q11,(1,rf 6),(2,rf 7),(4,vi 1)] [q1,vw b1x0,q2,q3,mq m4,.cells [vi b5x0],q4,vw b7x0] ?_
 refine cuo h (fun (ro1:(List Int)×(List ((List Int)×Int))×Int)=>[]) (fun (ro1:(List Int)×(List ((List Int)×Int))×Int)=>[q1,vw ro1.1,q2,q3,mq ro1.2.1,.cells [vi ro1.2.2],q4,vw b7x0]) (fun (so1:(List Int)×(List ((List Int)×Int))×Int)=>[]) (fun (so1:(List Int)×(List ((List Int)×Int))×Int)=>[q1,vw so1.1,q2,q3,mq so1.2.1,.cells [vi so1.2.2],q4,vw b7x0]) (fun o1 h=>?_) (fun ro1 h=>?_) (fun so1 h=>?_)
 ·refine awp_selQ (WA 8 [q11,(1,rf 6),(2,rf 7),(4,vi 1)] [q1,vw b1x0,q2,q3,mq m4,.cells [vi b5x0],q4,vw b7x0] ?_)
  refine awp_block (awp_loop (n:=fuel) ?_)
  refine awpN_ind (fun n (c2:Int×(List Int)×(List ((List Int)×Int))×Int)=>F103L1 fuel b3x0 b3x1 b3x2 b3x3 b7x0 n c2) o1 (fun (c2:Int×(List Int)×(List ((List Int)×Int))×Int)=>[q11,(1,rf 6),(2,rf 7),(4,vi c2.1)]) (fun (c2:Int×(List Int)×(List ((List Int)×Int))×Int)=>[q1,vw c2.2.1,q2,q3,mq c2.2.2.1,.cells [vi c2.2.2.2],q4,vw b7x0]) (fun _=>rfl) ?_ fuel (1,b1x0,m4,b5x0) h
  clear h
  intro n3 c2 h hrn3
  change F103L1 fuel b3x0 b3x1 b3x2 b3x3 b7x0 (n3+1) c2=some o1 at h
  rw [F103L1] at h
  refine awp_seq ?_
  obtain ⟨x4,hx4,h⟩:=ob h
  let q5:O:=.cells [vi c2.2.2.2]
  let q12:Nat×V:=(4,vi c2.1)
  let q13:O:=mq c2.2.2.1
  refine GB [] [q11,(1,rf 6),(2,rf 7),q12,(16,vb (decide (c2.1<(w64 ((1:Int)*2^min (b3x1.length:Int).toNat 64)))))] [q1,vw c2.2.1,q2,q3,q13,q5,q4,vw b7x0] [(0≤(b3x1.length:Int))] ((need_of hx4:0≤(b3x1.length:Int))) ?_
  refine cd h (fun hb5 h=>?_) (fun hb5 h=>?_)
  ·refine awp_skip ?_
   show awp ..
   refine awp_seq (awp_block ?_)
   obtain ⟨x6,hx6,h⟩:=ob h
   obtain ⟨x7,hx7,h⟩:=ob h
   refine GB [.cells (x6.map di0),.no,.vals (x6.map vi)] [q11,(1,rf 6),(2,rf 7),q12,(5,rf 8)] [q1,vw c2.2.1,q2,q3,q13,q5,q4,vw b7x0,.cells (x6.map vi)] [LoadOk (([]:List V)++b7x0.map vi) 0 5 ((x6.map di0).map .d),((((x6.map di0).map V.d)).length=5),StoreOk ((List.replicate 5 (0:Int)).map vi) 0 ((x6.map di0).map V.d) (x6.map vi)] (And.intro ((by rw [map_dd];exact vecLoads (p:=0) (pre:=[]) rfl hx6 rfl)) (And.intro ((by rw [map_dd];exact (List.length_map _).trans (need_of hx7))) ((by rw [map_dd];exact vecStores (n:=5) rfl (need_of hx7))))) ?_
   refine awp_vec 8 (x6.map vi) [] x6 [] [q1,vw c2.2.1,q2,q3,q13,q5,q4,vw b7x0,vw x6] (by kernel_rfl) rfl (by kernel_rfl) ?_
   let q9:Nat×V:=(24,.d (L66 b3x1))
   let q14:Nat×V:=(25,vl b3x1)
   refine awp_seq (GA [q11,(1,rf 6),(2,rf 7),q12,(5,rf 8),q9,q14,(26,vi 0)] [q1,vw c2.2.1,q2,q3,q13,q5,q4,vw b7x0,vw x6] ?_)
   obtain ⟨o8,ho8,h⟩:=ob h
   refine awp_cut1 (OutX (fun (ro8:(List Int)×(List ((List Int)×Int))×Int)=>[]) (fun (ro8:(List Int)×(List ((List Int)×Int))×Int)=>[q1,vw ro8.1,q2,q3,mq ro8.2.1,.cells [vi ro8.2.2],q4,vw b7x0]) 1 (fun (qo8:(List Int))=>[q11,(1,rf 6),(2,rf 7),q12]) (fun (qo8:(List Int))=>[q1,vw c2.2.1,q2,q3,q13,q5,q4,vw b7x0,vw qo8]) (fun (so8:(List Int))=>[q11,(1,rf 6),(2,rf 7),q12,(5,rf 8)]) (fun (so8:(List Int))=>[q1,vw c2.2.1,q2,q3,q13,q5,q4,vw b7x0,vw so8]) o8) ?_ ?_
   ·clear h
    have h:=ho8
    clear ho8
    refine awp_selQ (WA 9 [q11,(1,rf 6),(2,rf 7),q12,(5,rf 8),q9,q14,(26,vi 0)] [q1,vw c2.2.1,q2,q3,q13,q5,q4,vw b7x0,vw x6] ?_)
    refine awp_block (awp_loop (n:=fuel) ?_)
    refine awpN_ind (fun n (c9:Int×(List Int))=>F103L2 b3x1 c2 n c9) o8 (fun (c9:Int×(List Int))=>[q11,(1,rf 6),(2,rf 7),q12,(5,rf 8),q9,q14,(26,vi c9.1)]) (fun (c9:Int×(List Int))=>[q1,vw c2.2.1,q2,q3,q13,q5,q4,vw b7x0,vw c9.2]) (fun _=>rfl) ?_ fuel (0,x6) h
    clear h
    intro n10 c9 h hrn10
    change F103L2 b3x1 c2 (n10+1) c9=some o8 at h
    rw [F103L2] at h
    refine GA [q11,(1,rf 6),(2,rf 7),q12,(5,rf 8),q9,q14,(26,vi c9.1),(27,vb (decide (c9.1<(b3x1.length:Int))))] [q1,vw c2.2.1,q2,q3,q13,q5,q4,vw b7x0,vw c9.2] ?_
    refine awp_seq (cd h (fun hb11 h=>?_) (fun hb11 h=>?_))
    ·refine awp_skip ?_
     show awp ..
     refine awp_seq (awp_block ?_)
     obtain ⟨x12,hx12,h⟩:=ob h
     let q6:O:=.cells [.d (.v (.string x12.Name)),vi x12.Weight,vi x12.Most]
     refine GB [.no,.cells (cel66 x12)] [q11,(1,rf 6),(2,rf 7),q12,(5,rf 8),(6,vi c9.1),(7,rf 9),q9,q14,(26,vi c9.1)] [q1,vw c2.2.1,q2,q3,q13,q5,q4,vw b7x0,vw c9.2,q6] [IX66 b3x1 c9.1 x12] (idxOk cel66_len hx12) ?_
     refine awp_seq ?_
     obtain ⟨x13,hx13,h⟩:=ob h
     refine HB [] [q11,(1,rf 6),(2,rf 7),q12,(5,rf 8),(6,vi c9.1),(7,rf 9),q9,q14,(26,vi c9.1),(35,vb ((Go.bits .and .i64 (c2.1 / 2^min c9.1.toNat 64) 1)==0))] [(0≤c9.1)] ((need_of hx13:0≤c9.1)) ?_
     refine cd h (fun hb14 h=>?_) (fun hb14 h=>?_)
     ·refine awp_exit ?_
      show awp ..
      refine XA [q11,(1,rf 6),(2,rf 7),q12,(5,rf 8),q9,q14,(26,vi (w64 (c9.1+1)))] [q1,vw c2.2.1,q2,q3,q13,q5,q4,vw b7x0,vw c9.2,q6] ?_
      exact gn 9 [0,1,2,4,5,24,25,26] (hrn10 _ h)
     ·refine awp_skip ?_
      show awp ..
      obtain ⟨x15,hx15,h⟩:=ob h
      obtain ⟨x16,hx16,h⟩:=ob h
      obtain ⟨x17,hx17,h⟩:=ob h
      obtain ⟨x18,hx18,h⟩:=ob h
      let q15:=(c9.2.set (0+c9.1.toNat*1) (w64 (x16-1)))
      refine GB [.no,.no,.vals [vi x16],.no,.no,.nums q15] [q11,(1,rf 6),(2,rf 7),q12,(5,rf 8),(6,vi c9.1),(7,rf 9),q9,q14,(26,vi c9.1)] [q1,vw c2.2.1,q2,q3,q13,q5,q4,vw b7x0,.vec [] q15 [],q6] [(0≤c9.1∧c9.1<((5:Nat):Int)),LoadOk (([]:List V)++c9.2.map vi) (0+c9.1.toNat*1) 1 [vi x16],(0≤c9.1∧c9.1<((5:Nat):Int)),(([vi (w64 (x16-1))]:List V).length=1),StoreOk (([]:List V)++c9.2.map vi) (0+c9.1.toNat*1) [vi (w64 (x16-1))] (([]:List V)++(c9.2.set (0+c9.1.toNat*1) (w64 (x16-1))).map vi)] (And.intro ((need_of hx15:0≤c9.1∧c9.1<((5:Nat):Int))) (And.intro (vecLoad (p:=0) (pre:=[]) (k:=0+c9.1.toNat*1) rfl hx16 (by omega)) (And.intro ((need_of hx17:0≤c9.1∧c9.1<((5:Nat):Int))) (And.intro ((rfl:([vi (w64 (x16-1))]:List V).length=1)) (vecStore (p:=0) (pre:=[]) (k:=0+c9.1.toNat*1) rfl hx18 (by omega)))))) ?_
      obtain ⟨x19,hx19,h⟩:=ob h
      obtain ⟨x20,hx20,h⟩:=ob h
      refine hd [0,1,2,4,5,24,25,26,47] [.no,.no,.vals [vi x20]] 6 [0,1,2,4,5,24,25,26,43,46,47] [q11,(1,rf 6),(2,rf 7),q12,(5,rf 8),q9,q14,(26,vi c9.1),(47,vb (decide (x20<(w64 (0-x12.Most)))))] [(0≤c9.1∧c9.1<((5:Nat):Int)),LoadOk (([]:List V)++(c9.2.set (0+c9.1.toNat*1) (w64 (x16-1))).map vi) (0+c9.1.toNat*1) 1 [vi x20]] (And.intro ((need_of hx19:0≤c9.1∧c9.1<((5:Nat):Int))) (vecLoad (p:=0) (pre:=[]) (k:=0+c9.1.toNat*1) rfl hx20 (by omega))) ?_
      refine cd h (fun hb21 h=>?_) (fun hb21 h=>?_)
      ·refine awp_exit ?_
       obtain rfl:=oi h
       exact gs [0,1,2,3,4,5,6,7,8] [0,1,2,4] OutX.ex
      ·refine awp_skip ?_
       show awp ..
       refine XA [q11,(1,rf 6),(2,rf 7),q12,(5,rf 8),q9,q14,(26,vi (w64 (c9.1+1)))] [q1,vw c2.2.1,q2,q3,q13,q5,q4,vw b7x0,.vec [] q15 [],q6] ?_
       exact gn 9 [0,1,2,4,5,24,25,26] (hrn10 _ h)
    ·refine awp_exit ?_
     obtain rfl:=oi h
     exact gs [0,1,2,3,4,5,6,7,8] [0,1,2,4,5] OutX.norm
   ·intro e T H hq
    cases o8 with
    | inl ro8 =>
     obtain ⟨rfl,rfl,rfl⟩:=hq
     rw [outK_inl] at h
     obtain rfl:=oi h
     exact gs [0,1,2,3,4,5,6,7] [] OutQ.ret
    | inr yo8 =>
     rw [outK_inr] at h
     cases yo8 with
     | inl qo8 =>
      obtain ⟨rfl,rfl,rfl⟩:=hq
      rw [outK_inl] at h
      show awp ..
      refine XA [q11,(1,rf 6),(2,rf 7),(4,vi (w64 (c2.1+1)))] [q1,vw c2.2.1,q2,q3,q13,q5,q4,vw b7x0,vw qo8] ?_
      exact gn 8 [0,1,2,4] (hrn3 _ h)
     | inr so8 =>
      obtain ⟨rfl,rfl,rfl⟩:=hq
      rw [outK_inr] at h
      show awp ..
      obtain ⟨x22,hx22,h⟩:=ob h
      obtain ⟨x23,hx23,h⟩:=ob h
      obtain ⟨x24,hx24,h⟩:=ob h
      obtain ⟨x25,hx25,h⟩:=ob h
      let q7:O:=.map (mpo101x3 (cond (decide (x23<0)) x25.2.1 c2.2.2.1))
      let q8:O:=.cells [vi (cond (decide (x23<0)) x25.2.2 c2.2.2.2)]
      let q10:O:=.vec [] (cond (decide (x23<0)) x25.1 c2.2.1) []
      refine GB [.no,.cells (x22.map di0),.hcall [(3,false),(4,false)] (vi x23) [sv b3x0 b3x1 b3x2 b3x3 1,q13],.no,.no,.no,.cells (x24.map di0),.gcall [(0,false),(1,false),(2,false),(3,false),(4,false),(5,false)] (vb true) [q1,vw x25.1,q2,q3,mq x25.2.1,.cells [vi x25.2.2]] [q1,q10,q2,q3,q7,q8,q4,vw b7x0,vw so8]] [q11,(1,rf 6),(2,rf 7),q12,(58,vb (cond (decide (x23<0)) false false))] [q1,q10,q2,q3,q7,q8,q4,vw b7x0,vw so8] [LoadOk (([]:List V)++so8.map vi) 0 5 ((x22.map di0).map .d),HCall Try.prog 60 [rf 0,.d (.agg (x22.map di0))] [sv b3x0 b3x1 b3x2 b3x3 1,mq c2.2.2.1] (vi x23) [sv b3x0 b3x1 b3x2 b3x3 1,mq c2.2.2.1],((decide (x23<0))=true→LoadOk (([]:List V)++so8.map vi) 0 5 ((x24.map di0).map .d)),((decide (x23<0))=true→(decide (x23<0))=true),((decide (x23<0))=true→(decide (x23<0))=true),((decide (x23<0))=true→([.loop (some none) [15] asn88x0 bdy88x0 26 [(3,rf 1),(5,rf 2),(8,rf 5)],vw x25.1,.cells [.fn (.func 63) [rf 3] []],sv b3x0 b3x1 b3x2 b3x3 4,mq x25.2.1,.cells [vi x25.2.2],.cells [rf 3],vw b7x0,vw so8]:List O)=[.loop (some none) [15] asn88x0 bdy88x0 26 [(3,rf 1),(5,rf 2),(8,rf 5)],.vec [] (cond (decide (x23<0)) x25.1 c2.2.1) [],.cells [.fn (.func 63) [rf 3] []],sv b3x0 b3x1 b3x2 b3x3 4,.map (mpo101x3 (cond (decide (x23<0)) x25.2.1 c2.2.2.1)),.cells [vi (cond (decide (x23<0)) x25.2.2 c2.2.2.2)],.cells [rf 3],vw b7x0,vw so8]),((decide (x23<0))=false→([.loop (some none) [15] asn88x0 bdy88x0 26 [(3,rf 1),(5,rf 2),(8,rf 5)],vw c2.2.1,.cells [.fn (.func 63) [rf 3] []],sv b3x0 b3x1 b3x2 b3x3 4,mq c2.2.2.1,.cells [vi c2.2.2.2],.cells [rf 3],vw b7x0,vw so8]:List O)=[.loop (some none) [15] asn88x0 bdy88x0 26 [(3,rf 1),(5,rf 2),(8,rf 5)],.vec [] (cond (decide (x23<0)) x25.1 c2.2.1) [],.cells [.fn (.func 63) [rf 3] []],sv b3x0 b3x1 b3x2 b3x3 4,.map (mpo101x3 (cond (decide (x23<0)) x25.2.1 c2.2.2.1)),.cells [vi (cond (decide (x23<0)) x25.2.2 c2.2.2.2)],.cells [rf 3],vw b7x0,vw so8]),((decide (x23<0))=true→YCall Try.prog [.yld 0,.d (.agg (x24.map di0))] [.loop (some none) [15] asn88x0 bdy88x0 26 [(3,rf 1),(5,rf 2),(8,rf 5)],vw c2.2.1,.cells [.fn (.func 63) [rf 3] []],sv b3x0 b3x1 b3x2 b3x3 4,mq c2.2.2.1,.cells [vi c2.2.2.2]] (vb true) [.loop (some none) [15] asn88x0 bdy88x0 26 [(3,rf 1),(5,rf 2),(8,rf 5)],vw x25.1,.cells [.fn (.func 63) [rf 3] []],sv b3x0 b3x1 b3x2 b3x3 4,mq x25.2.1,.cells [vi x25.2.2]]),((decide (x23<0))=true→(decide (x23<0))=true),((decide (x23<0))=true→(decide (x23<0))=true)] (And.intro ((by rw [map_dd];exact vecLoads (p:=0) (pre:=[]) rfl hx22 rfl)) (And.intro (ct60 hx23) (And.intro ((fun hg=>(by rw [map_dd];exact vecLoads (p:=0) (pre:=[]) rfl (optG_of hx24 hg) rfl))) (And.intro (id) (And.intro (id) (And.intro ((fun hg=>by first|rfl|(rw [hg];done)|(rw [hg];rfl)|simp only [hg,cond_true])) (And.intro ((fun hg=>by first|rfl|(rw [hg];done)|(rw [hg];rfl)|simp only [hg,cond_false])) (And.intro ((fun hg=>ct88r (optG_of hx25 hg))) (And.intro (id) (id)))))))))) ?_
      refine cd h (fun hb26 h=>?_) (fun hb26 h=>?_)
      ·obtain rfl:=oi h
       refine WA 9 [] [q1,q10,q2,q3,q7,q8,q4,vw b7x0,vw so8] ?_
       exact awp_ret (gs [0,1,2,3,4,5,6,7] [] OutQ.ret)
      ·refine awp_skip ?_
       show awp ..
       refine XA [q11,(1,rf 6),(2,rf 7),(4,vi (w64 (c2.1+1)))] [q1,q10,q2,q3,q7,q8,q4,vw b7x0,vw so8] ?_
       exact gn 8 [0,1,2,4] (hrn3 _ h)
  ·refine awp_exit ?_
   obtain rfl:=oi h
   exact gs [0,1,2,3,4,5,6,7] [] OutQ.norm
 ·obtain rfl:=oi h
  exact (main_retS [0,1,2,3,4,5,6,7] (.tup []) (by kernel_rfl) (by kernel_rfl) (by kernel_rfl) (by kernel_rfl))
 ·obtain rfl:=oi h
  exact (main_retN [0,1,2,3,4,5,6,7] (.tup []) (by kernel_rfl) (by kernel_rfl) (by kernel_rfl) (by kernel_rfl))
theorem ct88 {fuel:Nat}  {first:(List Int)} {b1x0:Int} {b1x1:List S_api_EdSheet} {b1x2:List S_api_EdEdge} {b1x3:List Int} {m2:List ((List Int)×Int)} {b3x0:List Int} {res:(List Int)×Int×(List ((List Int)×Int))} (h:F88 fuel first b1x0 b1x1 b1x2 b1x3 m2 b3x0=some res):HCall Try.prog 88 [.d (.agg (first.map di0)),.fn (.func 103) [] [rf 0,rf 3],.fn (.func 63) [rf 1] []] [.cells [rf 1],sv b1x0 b1x1 b1x2 b1x3 2,mq m2,vw b3x0] (.tup [.d (.agg (res.1.map di0)),vi res.2.1]) [.cells [rf 1],sv b1x0 b1x1 b1x2 b1x3 2,mq res.2.2,vw b3x0]:=by
 refine HCall.of_awpS tt_ok (N:=26) (fl:=4) Try.func88 rfl (by kernel_rfl) rfl rfl (Nat.le_of_ble_eq_true rfl) ?_
 unfold F88 at h
 let q1:O:=.cells [.fn (.func 63) [rf 1] []]
 let q2:=(List.replicate 5 (0:Int))
 let q3:O:=sv b1x0 b1x1 b1x2 b1x3 2
 refine GA [(1,.fn (.func 103) [] [rf 0,rf 3]),(3,rf 4),(5,rf 5),(6,rf 6)] [.cells [rf 1],q3,mq m2,vw b3x0,.cells ((first.map di0).map .d),q1,.cells (q2.map vi)] ?_
 refine awp_vec 4 ((first.map di0).map .d) [] first [] [.cells [rf 1],q3,mq m2,vw b3x0,vw first,q1,.cells (q2.map vi)] (by kernel_rfl) (map_dd _) (by kernel_rfl) ?_
 refine awp_vec 6 (q2.map vi) [] q2 [] [.cells [rf 1],q3,mq m2,vw b3x0,vw first,q1,.vec [] q2 []] (by kernel_rfl) rfl (by kernel_rfl) ?_
 obtain ⟨x1,hx1,h⟩:=ob h
 obtain ⟨x2,hx2,h⟩:=ob h
 refine GB [.no,.cells (x1.map di0),.hcall [(1,false),(2,false)] (vi x2.1) [sv b1x0 b1x1 b1x2 b1x3 1,mq x2.2]] [(1,.fn (.func 103) [] [rf 0,rf 3]),(3,rf 4),(5,rf 5),(6,rf 6),(8,rf 7)] [.cells [rf 1],q3,mq x2.2,vw b3x0,vw first,q1,.vec [] q2 [],.cells [vi x2.1]] [LoadOk (([]:List V)++first.map vi) 0 5 ((x1.map di0).map .d),HCall Try.prog 63 [rf 0,.d (.agg (x1.map di0))] [sv b1x0 b1x1 b1x2 b1x3 1,mq m2] (vi x2.1) [sv b1x0 b1x1 b1x2 b1x3 1,mq x2.2]] (And.intro ((by rw [map_dd];exact vecLoads (p:=0) (pre:=[]) rfl hx1 rfl)) (ct63 hx2)) ?_
 refine awp_seq (HA [(3,rf 4),(5,rf 5),(6,rf 6),(8,rf 7),(14,.fn (.func 103) [] [rf 0,rf 3])] ?_)
 refine awp_block ?_
 obtain ⟨x3,hx3,h⟩:=ob h
 refine awp_range (ks:=[3,5,8]) (ids:=[(8,false),(4,false),(5,false),(1,false),(2,false),(7,false),(0,false),(3,false)]) (r := .tup []) (Hc:=[.loop (some none) [15] asn88x0 bdy88x0 26 [(3,rf 1),(5,rf 2),(8,rf 5)],vw x3.1,.cells [.fn (.func 63) [rf 3] []],sv b1x0 b1x1 b1x2 b1x3 4,mq x3.2.1,.cells [vi x3.2.2],.cells [rf 3],vw b3x0]) none [(3,rf 4),(5,rf 5),(6,rf 6),(8,rf 7),(14,.fn (.func 103) [] [rf 0,rf 3])] [.cells [rf 1],sv b1x0 b1x1 b1x2 b1x3 2,mq x3.2.1,vw b3x0,vw x3.1,.cells [.fn (.func 63) [rf 1] []],.vec [] (List.replicate 5 (0:Int)) [],.cells [vi x3.2.2],.data []] [HCall Try.prog 103 [.yld 0,rf 6,rf 7] [.loop (some none) [15] asn88x0 bdy88x0 26 [(3,rf 1),(5,rf 2),(8,rf 5)],vw first,.cells [.fn (.func 63) [rf 3] []],sv b1x0 b1x1 b1x2 b1x3 4,mq x2.2,.cells [vi x2.1],.cells [rf 3],vw b3x0] (.tup []) [.loop (some none) [15] asn88x0 bdy88x0 26 [(3,rf 1),(5,rf 2),(8,rf 5)],vw x3.1,.cells [.fn (.func 63) [rf 3] []],sv b1x0 b1x1 b1x2 b1x3 4,mq x3.2.1,.cells [vi x3.2.2],.cells [rf 3],vw b3x0]] rfl (by kernel_rfl) (ct103 hx3) (fun _=>?_) (fun c hc=>absurd hc (by simp))
 show awp ..
 obtain ⟨x4,hx4,h⟩:=ob h
 obtain ⟨x5,hx5,h⟩:=ob h
 refine awp_seq (awp_any (T':=[(6,rf 6),(7,vi x3.2.2)]) (H':=[.cells [rf 1],sv b1x0 b1x1 b1x2 b1x3 2,mq x3.2.1,vw b3x0,vw x3.1,.cells [.fn (.func 63) [rf 1] []],vw x4,.cells [vi x3.2.2],.data []]) (ps:=[LoadOk (([]:List V)++x3.1.map vi) 0 5 ((x4.map di0).map .d),((((x4.map di0).map V.d)).length=5),StoreOk ((List.replicate 5 (0:Int)).map vi) 0 ((x4.map di0).map V.d) (x4.map vi)]) tt_ok mixed (ks:=[6,7]) (hs:=[.cells (x4.map di0),.no,.nums x4]) (m:=3) (mid:=[6,7,25]) (by kernel_rfl) (And.intro ((by rw [map_dd];exact vecLoads (p:=0) (pre:=[]) rfl hx4 rfl)) (And.intro ((by rw [map_dd];exact (List.length_map _).trans (need_of hx5))) ((by rw [map_dd];exact vecStores (n:=5) rfl (need_of hx5))))) ?_)
 show awp ..
 obtain ⟨x6,hx6,h⟩:=ob h
 obtain rfl:=oi h
 refine WA 9 [(6,rf 6),(7,vi x3.2.2)] [.cells [rf 1],q3,mq x3.2.1,vw b3x0,vw x3.1,q1,vw x4,.cells [vi x3.2.2],.data []] ?_
 exact awp_ret (main_retS [0,1,2,3] (.tup [.d (.agg (x4.map di0)),vi x3.2.2]) (by have hq:=need_of hx6;revert hq;(try dsimp only);generalize x4=xs1;intro hq;exact match xs1,hq with|[a1_0,a1_1,a1_2,a1_3,a1_4],_=>rfl) (by kernel_rfl) (by kernel_rfl) (by kernel_rfl))
theorem ct66r {fuel:Nat}  {y1x0:List Int} {b2x0:Int} {b2x1:List S_api_EdSheet} {b2x2:List S_api_EdEdge} {b2x3:List Int} {m3:List ((List Int)×Int)} {b4x0:List Int} {b5x0:Bool} {res:Bool×(List ((List Int)×Int))×(List Int)×Bool} (h:F66r fuel y1x0 b2x0 b2x1 b2x2 b2x3 m3 b4x0 b5x0=some res):YCall Try.prog [.yld 0,.d (.agg (y1x0.map di0))] [.loop (some none) [63] asn66x0 bdy66x0 74 [(1,rf 1),(2,rf 4),(8,rf 5)],.cells [rf 2],sv b2x0 b2x1 b2x2 b2x3 3,mq m3,vw b4x0,.cells [vb b5x0]] (vb res.1) [.loop (some (cond res.1 none (some (.exit 4)))) [63] asn66x0 bdy66x0 74 [(1,rf 1),(2,rf 4),(8,rf 5)],.cells [rf 2],sv b2x0 b2x1 b2x2 b2x3 3,mq res.2.1,vw res.2.2.1,.cells [vb res.2.2.2]]:=by
 let q3:St:=[(1,rf 1),(2,rf 4),(8,rf 5)]
 refine YCall.of_awp (N:=74) (k:=0) (ps:=[63]) (asg:=asn66x0) (bd:=bdy66x0) (Tl:=[(1,rf 1),(2,rf 4),(8,rf 5)]) rfl (by kernel_rfl) rfl ?_
 let q2:O:=sv b2x0 b2x1 b2x2 b2x3 3
 let q4:O:=.cells [rf 2]
 let q5:O:=.cells [vb b5x0]
 refine awp_eq (T':=[(63,.d (.agg (y1x0.map di0))),(1,rf 1),(2,rf 4),(8,rf 5)]) (H':=[.loop (some none) [63] asn66x0 bdy66x0 74 q3,q4,q2,mq m3,vw b4x0,q5]) (by kernel_rfl) rfl ?_
 change awp _ _ _ _ asn66x0 _ _ _
 unfold F66r at h
 obtain ⟨x1,hx1,h⟩:=ob h
 refine XB [.no,.vals (y1x0.map vi)] [(1,rf 1),(2,rf 4),(8,rf 5),(9,rf 6)] [.loop (some none) [63] asn66x0 bdy66x0 74 q3,q4,q2,mq m3,vw b4x0,q5,.cells (y1x0.map vi)] [((((y1x0.map di0).map V.d)).length=5),StoreOk ((List.replicate 5 (0:Int)).map vi) 0 ((y1x0.map di0).map V.d) (y1x0.map vi)] (And.intro ((by rw [map_dd];exact (List.length_map _).trans (need_of hx1))) ((by rw [map_dd];exact vecStores (n:=5) rfl (need_of hx1)))) ?_
 refine ⟨rfl,by kernel_rfl,?_⟩
 let q1:O:=.loop (none) [63] asn66x0 bdy66x0 74 q3
 refine awp_eq (T':=[(1,rf 1),(2,rf 4),(8,rf 5),(9,rf 6)]) (H':=[q1,q4,q2,mq m3,vw b4x0,q5,.cells (y1x0.map vi)]) rfl rfl ?_
 refine awp_vec 6 (y1x0.map vi) [] y1x0 [] [q1,q4,q2,mq m3,vw b4x0,q5,vw y1x0] (by kernel_rfl) rfl (by kernel_rfl) ?_
 refine awp_wkQ ?_
 refine awp_block ?_
 obtain ⟨x2,hx2,h⟩:=ob h
 obtain ⟨x3,hx3,h⟩:=ob h
 obtain ⟨x4,hx4,h⟩:=ob h
 obtain ⟨x5,hx5,h⟩:=ob h
 refine awp_seq (awp_any (T':=[(2,rf 4),(8,rf 5),(9,rf 6),(70,vb (x3.1==x5.1))]) (H':=[.loop (none) [63] asn66x0 bdy66x0 74 [(1,rf 1),(2,rf 4),(8,rf 5)],.cells [rf 2],sv b2x0 b2x1 b2x2 b2x3 3,mq x5.2,vw b4x0,.cells [vb b5x0],vw y1x0]) (ps:=[LoadOk (([]:List V)++y1x0.map vi) 0 5 ((x2.map di0).map .d),HCall Try.prog 63 [rf 0,.d (.agg (x2.map di0))] [sv b2x0 b2x1 b2x2 b2x3 1,mq m3] (vi x3.1) [sv b2x0 b2x1 b2x2 b2x3 1,mq x3.2],LoadOk (([]:List V)++b4x0.map vi) 0 5 ((x4.map di0).map .d),HCall Try.prog 63 [rf 0,.d (.agg (x4.map di0))] [sv b2x0 b2x1 b2x2 b2x3 1,mq x3.2] (vi x5.1) [sv b2x0 b2x1 b2x2 b2x3 1,mq x5.2]]) tt_ok mixed (ks:=[2,8,9,70]) (hs:=[.no,.cells (x2.map di0),.hcall [(2,false),(3,false)] (vi x3.1) [sv b2x0 b2x1 b2x2 b2x3 1,mq x3.2],.no,.cells (x4.map di0),.hcall [(2,false),(3,false)] (vi x5.1) [sv b2x0 b2x1 b2x2 b2x3 1,mq x5.2]]) (m:=5) (mid:=[2,8,9,66,67,68,69,70]) (by kernel_rfl) (And.intro ((by rw [map_dd];exact vecLoads (p:=0) (pre:=[]) rfl hx2 rfl)) (And.intro (ct63 hx3) (And.intro ((by rw [map_dd];exact vecLoads (p:=0) (pre:=[]) rfl hx4 rfl)) (ct63 hx5)))) ?_)
 show awp ..
 refine cd h (fun hb6 h=>?_) (fun hb6 h=>?_)
 ·obtain ⟨x7,hx7,h⟩:=ob h
  obtain ⟨x8,hx8,h⟩:=ob h
  obtain ⟨x9,hx9,h⟩:=ob h
  refine GB [.cells (x7.map di0),.nums x7] [] [q1,q4,q2,mq x5.2,vw x7,.cells [vb true],vw y1x0] [LoadOk (([]:List V)++y1x0.map vi) 0 5 ((x7.map di0).map .d),((((x7.map di0).map V.d)).length=5),StoreOk (b4x0.map vi) 0 ((x7.map di0).map V.d) (x7.map vi)] (And.intro ((by rw [map_dd];exact vecLoads (p:=0) (pre:=[]) rfl hx7 rfl)) (And.intro ((by rw [map_dd];exact (List.length_map _).trans (need_of hx8))) ((by rw [map_dd];exact vecStores (n:=5) ((List.length_map _).trans (need_of hx9)) (need_of hx8))))) ?_
  refine awp_exit ?_
  obtain rfl:=oi h
  repeat (first|refine blockQ_ne (by decide) ?_|refine thenQ_exit ?_|refine noGotoA_exit ?_)
  try delta blockQ
  try delta thenQ
  try delta noGotoA
  show Wk _ _ _ _ _
  refine Wk.mk 6 [] (by kernel_rfl) (T':=[]) (H':=[q1,q4,q2,mq x5.2,vw x7,.cells [vb true]]) (by kernel_rfl) (by kernel_rfl) ?_
  exact ⟨some (.exit 4),rfl,rfl,by kernel_rfl,by kernel_rfl⟩
 ·refine awp_skip ?_
  obtain rfl:=oi h
  repeat (first|refine blockQ_ne (by decide) ?_|refine thenQ_exit ?_|refine noGotoA_exit ?_)
  try delta blockQ
  try delta thenQ
  try delta noGotoA
  show Wk _ _ _ _ _
  refine Wk.mk 6 [] (by kernel_rfl) (T':=[]) (H':=[q1,q4,q2,mq x5.2,vw b4x0,q5]) (by kernel_rfl) (by kernel_rfl) ?_
  exact ⟨none,rfl,rfl,by kernel_rfl,by kernel_rfl⟩
theorem ct103v1 {fuel:Nat}  {b2x0:Int} {b2x1:List S_api_EdSheet} {b2x2:List S_api_EdEdge} {b2x3:List Int} {m3:List ((List Int)×Int)} {b4x0:List Int} {b5x0:Bool} {b7x0:List Int} {res:Bool×(List ((List Int)×Int))×(List Int)×Bool} (h:F103v1 fuel b2x0 b2x1 b2x2 b2x3 m3 b4x0 b5x0 b7x0=some res):HCall Try.prog 103 [.yld 0,rf 6,rf 7] [.loop (some none) [63] asn66x0 bdy66x0 74 [(1,rf 1),(2,rf 4),(8,rf 5)],.cells [rf 2],sv b2x0 b2x1 b2x2 b2x3 3,mq m3,vw b4x0,.cells [vb b5x0],.cells [rf 2],vw b7x0] (.tup []) [.loop (some (cond res.1 none (some (.exit 4)))) [63] asn66x0 bdy66x0 74 [(1,rf 1),(2,rf 4),(8,rf 5)],.cells [rf 2],sv b2x0 b2x1 b2x2 b2x3 3,mq res.2.1,vw res.2.2.1,.cells [vb res.2.2.2],.cells [rf 2],vw b7x0]:=by
 refine HCall.of_awpS tt_ok (N:=59) (fl:=8) Try.func103 rfl (by kernel_rfl) rfl rfl (Nat.le_of_ble_eq_true rfl) ?_
 unfold F103v1 at h
 refine awp_scope ?_
 refine awp_seq (awp_label ?_)
 show awp ..
 let q10:St:=[(1,rf 1),(2,rf 4),(8,rf 5)]
 let q1:O:=.loop (some none) [63] asn66x0 bdy66x0 74 q10
 let q3:O:=sv b2x0 b2x1 b2x2 b2x3 3
 let q4:O:=.cells [rf 2]
 let q8:Nat×V:=(0,.yld 0)
 refine GA [q8,(1,rf 6),(2,rf 7),(4,vi 1)] [q1,q4,q3,mq m3,vw b4x0,.cells [vb b5x0],q4,vw b7x0] ?_
 refine cuo h (fun (ro1:Bool×(List ((List Int)×Int))×(List Int)×Bool)=>[]) (fun (ro1:Bool×(List ((List Int)×Int))×(List Int)×Bool)=>[.loop (some (cond ro1.1 none (some (.exit 4)))) [63] asn66x0 bdy66x0 74 q10,q4,q3,mq ro1.2.1,vw ro1.2.2.1,.cells [vb ro1.2.2.2],q4,vw b7x0]) (fun (so1:(List ((List Int)×Int))×(List Int)×Bool)=>[]) (fun (so1:(List ((List Int)×Int))×(List Int)×Bool)=>[q1,q4,q3,mq so1.1,vw so1.2.1,.cells [vb so1.2.2],q4,vw b7x0]) (fun o1 h=>?_) (fun ro1 h=>?_) (fun so1 h=>?_)
 ·refine awp_selQ (WA 8 [q8,(1,rf 6),(2,rf 7),(4,vi 1)] [q1,q4,q3,mq m3,vw b4x0,.cells [vb b5x0],q4,vw b7x0] ?_)
  refine awp_block (awp_loop (n:=fuel) ?_)
  refine awpN_ind (fun n (c2:Int×(List ((List Int)×Int))×(List Int)×Bool)=>F103v1L1 fuel b2x0 b2x1 b2x2 b2x3 b7x0 n c2) o1 (fun (c2:Int×(List ((List Int)×Int))×(List Int)×Bool)=>[q8,(1,rf 6),(2,rf 7),(4,vi c2.1)]) (fun (c2:Int×(List ((List Int)×Int))×(List Int)×Bool)=>[q1,q4,q3,mq c2.2.1,vw c2.2.2.1,.cells [vb c2.2.2.2],q4,vw b7x0]) (fun _=>rfl) ?_ fuel (1,m3,b4x0,b5x0) h
  clear h
  intro n3 c2 h hrn3
  change F103v1L1 fuel b2x0 b2x1 b2x2 b2x3 b7x0 (n3+1) c2=some o1 at h
  rw [F103v1L1] at h
  refine awp_seq ?_
  obtain ⟨x4,hx4,h⟩:=ob h
  let q5:O:=.cells [vb c2.2.2.2]
  let q9:Nat×V:=(4,vi c2.1)
  let q11:O:=vw c2.2.2.1
  refine GB [] [q8,(1,rf 6),(2,rf 7),q9,(16,vb (decide (c2.1<(w64 ((1:Int)*2^min (b2x1.length:Int).toNat 64)))))] [q1,q4,q3,mq c2.2.1,q11,q5,q4,vw b7x0] [(0≤(b2x1.length:Int))] ((need_of hx4:0≤(b2x1.length:Int))) ?_
  refine cd h (fun hb5 h=>?_) (fun hb5 h=>?_)
  ·refine awp_skip ?_
   show awp ..
   refine awp_seq (awp_block ?_)
   obtain ⟨x6,hx6,h⟩:=ob h
   obtain ⟨x7,hx7,h⟩:=ob h
   refine GB [.cells (x6.map di0),.no,.vals (x6.map vi)] [q8,(1,rf 6),(2,rf 7),q9,(5,rf 8)] [q1,q4,q3,mq c2.2.1,q11,q5,q4,vw b7x0,.cells (x6.map vi)] [LoadOk (([]:List V)++b7x0.map vi) 0 5 ((x6.map di0).map .d),((((x6.map di0).map V.d)).length=5),StoreOk ((List.replicate 5 (0:Int)).map vi) 0 ((x6.map di0).map V.d) (x6.map vi)] (And.intro ((by rw [map_dd];exact vecLoads (p:=0) (pre:=[]) rfl hx6 rfl)) (And.intro ((by rw [map_dd];exact (List.length_map _).trans (need_of hx7))) ((by rw [map_dd];exact vecStores (n:=5) rfl (need_of hx7))))) ?_
   refine awp_vec 8 (x6.map vi) [] x6 [] [q1,q4,q3,mq c2.2.1,q11,q5,q4,vw b7x0,vw x6] (by kernel_rfl) rfl (by kernel_rfl) ?_
   let q7:Nat×V:=(24,.d (L66 b2x1))
   let q13:Nat×V:=(25,vl b2x1)
   refine awp_seq (GA [q8,(1,rf 6),(2,rf 7),q9,(5,rf 8),q7,q13,(26,vi 0)] [q1,q4,q3,mq c2.2.1,q11,q5,q4,vw b7x0,vw x6] ?_)
   obtain ⟨o8,ho8,h⟩:=ob h
   refine awp_cut1 (OutX (fun (ro8:Bool×(List ((List Int)×Int))×(List Int)×Bool)=>[]) (fun (ro8:Bool×(List ((List Int)×Int))×(List Int)×Bool)=>[.loop (some (cond ro8.1 none (some (.exit 4)))) [63] asn66x0 bdy66x0 74 q10,q4,q3,mq ro8.2.1,vw ro8.2.2.1,.cells [vb ro8.2.2.2],q4,vw b7x0]) 1 (fun (qo8:(List Int))=>[q8,(1,rf 6),(2,rf 7),q9]) (fun (qo8:(List Int))=>[q1,q4,q3,mq c2.2.1,q11,q5,q4,vw b7x0,vw qo8]) (fun (so8:(List Int))=>[q8,(1,rf 6),(2,rf 7),q9,(5,rf 8)]) (fun (so8:(List Int))=>[q1,q4,q3,mq c2.2.1,q11,q5,q4,vw b7x0,vw so8]) o8) ?_ ?_
   ·clear h
    have h:=ho8
    clear ho8
    refine awp_selQ (WA 9 [q8,(1,rf 6),(2,rf 7),q9,(5,rf 8),q7,q13,(26,vi 0)] [q1,q4,q3,mq c2.2.1,q11,q5,q4,vw b7x0,vw x6] ?_)
    refine awp_block (awp_loop (n:=fuel) ?_)
    refine awpN_ind (fun n (c9:Int×(List Int))=>F103v1L2 b2x1 c2 n c9) o8 (fun (c9:Int×(List Int))=>[q8,(1,rf 6),(2,rf 7),q9,(5,rf 8),q7,q13,(26,vi c9.1)]) (fun (c9:Int×(List Int))=>[q1,q4,q3,mq c2.2.1,q11,q5,q4,vw b7x0,vw c9.2]) (fun _=>rfl) ?_ fuel (0,x6) h
    clear h
    intro n10 c9 h hrn10
    change F103v1L2 b2x1 c2 (n10+1) c9=some o8 at h
    rw [F103v1L2] at h
    refine GA [q8,(1,rf 6),(2,rf 7),q9,(5,rf 8),q7,q13,(26,vi c9.1),(27,vb (decide (c9.1<(b2x1.length:Int))))] [q1,q4,q3,mq c2.2.1,q11,q5,q4,vw b7x0,vw c9.2] ?_
    refine awp_seq (cd h (fun hb11 h=>?_) (fun hb11 h=>?_))
    ·refine awp_skip ?_
     show awp ..
     refine awp_seq (awp_block ?_)
     obtain ⟨x12,hx12,h⟩:=ob h
     let q6:O:=.cells [.d (.v (.string x12.Name)),vi x12.Weight,vi x12.Most]
     refine GB [.no,.cells (cel66 x12)] [q8,(1,rf 6),(2,rf 7),q9,(5,rf 8),(6,vi c9.1),(7,rf 9),q7,q13,(26,vi c9.1)] [q1,q4,q3,mq c2.2.1,q11,q5,q4,vw b7x0,vw c9.2,q6] [IX66 b2x1 c9.1 x12] (idxOk cel66_len hx12) ?_
     refine awp_seq ?_
     obtain ⟨x13,hx13,h⟩:=ob h
     refine HB [] [q8,(1,rf 6),(2,rf 7),q9,(5,rf 8),(6,vi c9.1),(7,rf 9),q7,q13,(26,vi c9.1),(35,vb ((Go.bits .and .i64 (c2.1 / 2^min c9.1.toNat 64) 1)==0))] [(0≤c9.1)] ((need_of hx13:0≤c9.1)) ?_
     refine cd h (fun hb14 h=>?_) (fun hb14 h=>?_)
     ·refine awp_exit ?_
      show awp ..
      refine XA [q8,(1,rf 6),(2,rf 7),q9,(5,rf 8),q7,q13,(26,vi (w64 (c9.1+1)))] [q1,q4,q3,mq c2.2.1,q11,q5,q4,vw b7x0,vw c9.2,q6] ?_
      exact gn 9 [0,1,2,4,5,24,25,26] (hrn10 _ h)
     ·refine awp_skip ?_
      show awp ..
      obtain ⟨x15,hx15,h⟩:=ob h
      obtain ⟨x16,hx16,h⟩:=ob h
      obtain ⟨x17,hx17,h⟩:=ob h
      obtain ⟨x18,hx18,h⟩:=ob h
      let q14:=(c9.2.set (0+c9.1.toNat*1) (w64 (x16-1)))
      refine GB [.no,.no,.vals [vi x16],.no,.no,.nums q14] [q8,(1,rf 6),(2,rf 7),q9,(5,rf 8),(6,vi c9.1),(7,rf 9),q7,q13,(26,vi c9.1)] [q1,q4,q3,mq c2.2.1,q11,q5,q4,vw b7x0,.vec [] q14 [],q6] [(0≤c9.1∧c9.1<((5:Nat):Int)),LoadOk (([]:List V)++c9.2.map vi) (0+c9.1.toNat*1) 1 [vi x16],(0≤c9.1∧c9.1<((5:Nat):Int)),(([vi (w64 (x16-1))]:List V).length=1),StoreOk (([]:List V)++c9.2.map vi) (0+c9.1.toNat*1) [vi (w64 (x16-1))] (([]:List V)++(c9.2.set (0+c9.1.toNat*1) (w64 (x16-1))).map vi)] (And.intro ((need_of hx15:0≤c9.1∧c9.1<((5:Nat):Int))) (And.intro (vecLoad (p:=0) (pre:=[]) (k:=0+c9.1.toNat*1) rfl hx16 (by omega)) (And.intro ((need_of hx17:0≤c9.1∧c9.1<((5:Nat):Int))) (And.intro ((rfl:([vi (w64 (x16-1))]:List V).length=1)) (vecStore (p:=0) (pre:=[]) (k:=0+c9.1.toNat*1) rfl hx18 (by omega)))))) ?_
      obtain ⟨x19,hx19,h⟩:=ob h
      obtain ⟨x20,hx20,h⟩:=ob h
      refine hd [0,1,2,4,5,24,25,26,47] [.no,.no,.vals [vi x20]] 6 [0,1,2,4,5,24,25,26,43,46,47] [q8,(1,rf 6),(2,rf 7),q9,(5,rf 8),q7,q13,(26,vi c9.1),(47,vb (decide (x20<(w64 (0-x12.Most)))))] [(0≤c9.1∧c9.1<((5:Nat):Int)),LoadOk (([]:List V)++(c9.2.set (0+c9.1.toNat*1) (w64 (x16-1))).map vi) (0+c9.1.toNat*1) 1 [vi x20]] (And.intro ((need_of hx19:0≤c9.1∧c9.1<((5:Nat):Int))) (vecLoad (p:=0) (pre:=[]) (k:=0+c9.1.toNat*1) rfl hx20 (by omega))) ?_
      refine cd h (fun hb21 h=>?_) (fun hb21 h=>?_)
      ·refine awp_exit ?_
       obtain rfl:=oi h
       exact gs [0,1,2,3,4,5,6,7,8] [0,1,2,4] OutX.ex
      ·refine awp_skip ?_
       show awp ..
       refine XA [q8,(1,rf 6),(2,rf 7),q9,(5,rf 8),q7,q13,(26,vi (w64 (c9.1+1)))] [q1,q4,q3,mq c2.2.1,q11,q5,q4,vw b7x0,.vec [] q14 [],q6] ?_
       exact gn 9 [0,1,2,4,5,24,25,26] (hrn10 _ h)
    ·refine awp_exit ?_
     obtain rfl:=oi h
     exact gs [0,1,2,3,4,5,6,7,8] [0,1,2,4,5] OutX.norm
   ·intro e T H hq
    cases o8 with
    | inl ro8 =>
     obtain ⟨rfl,rfl,rfl⟩:=hq
     rw [outK_inl] at h
     obtain rfl:=oi h
     exact gs [0,1,2,3,4,5,6,7] [] OutQ.ret
    | inr yo8 =>
     rw [outK_inr] at h
     cases yo8 with
     | inl qo8 =>
      obtain ⟨rfl,rfl,rfl⟩:=hq
      rw [outK_inl] at h
      show awp ..
      refine XA [q8,(1,rf 6),(2,rf 7),(4,vi (w64 (c2.1+1)))] [q1,q4,q3,mq c2.2.1,q11,q5,q4,vw b7x0,vw qo8] ?_
      exact gn 8 [0,1,2,4] (hrn3 _ h)
     | inr so8 =>
      obtain ⟨rfl,rfl,rfl⟩:=hq
      rw [outK_inr] at h
      show awp ..
      obtain ⟨x22,hx22,h⟩:=ob h
      obtain ⟨x23,hx23,h⟩:=ob h
      obtain ⟨x24,hx24,h⟩:=ob h
      obtain ⟨x25,hx25,h⟩:=ob h
      let q12:=(decide (x23<0))
      let q2:List O:=[.loop (some (cond (cond q12 x25.1 true) none (some (.exit 4)))) [63] asn66x0 bdy66x0 74 q10,q4,q3,.map (mpo101x3 (cond q12 x25.2.1 c2.2.1)),.vec [] (cond q12 x25.2.2.1 c2.2.2.1) [],.cells [vb (cond q12 x25.2.2.2 c2.2.2.2)],q4,vw b7x0,vw so8]
      refine GB [.no,.cells (x22.map di0),.hcall [(2,false),(3,false)] (vi x23) [sv b2x0 b2x1 b2x2 b2x3 1,mq c2.2.1],.no,.no,.no,.cells (x24.map di0),.gcall [(0,false),(1,false),(2,false),(3,false),(4,false),(5,false)] (vb x25.1) [.loop (some (cond x25.1 none (some (.exit 4)))) [63] asn66x0 bdy66x0 74 q10,q4,q3,mq x25.2.1,vw x25.2.2.1,.cells [vb x25.2.2.2]] q2] [q8,(1,rf 6),(2,rf 7),q9,(58,vb (cond q12 (!x25.1) false))] q2 [LoadOk (([]:List V)++so8.map vi) 0 5 ((x22.map di0).map .d),HCall Try.prog 60 [rf 0,.d (.agg (x22.map di0))] [sv b2x0 b2x1 b2x2 b2x3 1,mq c2.2.1] (vi x23) [sv b2x0 b2x1 b2x2 b2x3 1,mq c2.2.1],((decide (x23<0))=true→LoadOk (([]:List V)++so8.map vi) 0 5 ((x24.map di0).map .d)),((decide (x23<0))=true→(decide (x23<0))=true),((decide (x23<0))=true→(decide (x23<0))=true),((decide (x23<0))=true→([.loop (some (cond x25.1 none (some (.exit 4)))) [63] asn66x0 bdy66x0 74 [(1,rf 1),(2,rf 4),(8,rf 5)],.cells [rf 2],sv b2x0 b2x1 b2x2 b2x3 3,mq x25.2.1,vw x25.2.2.1,.cells [vb x25.2.2.2],.cells [rf 2],vw b7x0,vw so8]:List O)=[.loop (some (cond (cond (decide (x23<0)) x25.1 true) none (some (.exit 4)))) [63] asn66x0 bdy66x0 74 [(1,rf 1),(2,rf 4),(8,rf 5)],.cells [rf 2],sv b2x0 b2x1 b2x2 b2x3 3,.map (mpo101x3 (cond (decide (x23<0)) x25.2.1 c2.2.1)),.vec [] (cond (decide (x23<0)) x25.2.2.1 c2.2.2.1) [],.cells [vb (cond (decide (x23<0)) x25.2.2.2 c2.2.2.2)],.cells [rf 2],vw b7x0,vw so8]),((decide (x23<0))=false→([.loop (some none) [63] asn66x0 bdy66x0 74 [(1,rf 1),(2,rf 4),(8,rf 5)],.cells [rf 2],sv b2x0 b2x1 b2x2 b2x3 3,mq c2.2.1,vw c2.2.2.1,.cells [vb c2.2.2.2],.cells [rf 2],vw b7x0,vw so8]:List O)=[.loop (some (cond (cond (decide (x23<0)) x25.1 true) none (some (.exit 4)))) [63] asn66x0 bdy66x0 74 [(1,rf 1),(2,rf 4),(8,rf 5)],.cells [rf 2],sv b2x0 b2x1 b2x2 b2x3 3,.map (mpo101x3 (cond (decide (x23<0)) x25.2.1 c2.2.1)),.vec [] (cond (decide (x23<0)) x25.2.2.1 c2.2.2.1) [],.cells [vb (cond (decide (x23<0)) x25.2.2.2 c2.2.2.2)],.cells [rf 2],vw b7x0,vw so8]),((decide (x23<0))=true→YCall Try.prog [.yld 0,.d (.agg (x24.map di0))] [.loop (some none) [63] asn66x0 bdy66x0 74 [(1,rf 1),(2,rf 4),(8,rf 5)],.cells [rf 2],sv b2x0 b2x1 b2x2 b2x3 3,mq c2.2.1,vw c2.2.2.1,.cells [vb c2.2.2.2]] (vb x25.1) [.loop (some (cond x25.1 none (some (.exit 4)))) [63] asn66x0 bdy66x0 74 [(1,rf 1),(2,rf 4),(8,rf 5)],.cells [rf 2],sv b2x0 b2x1 b2x2 b2x3 3,mq x25.2.1,vw x25.2.2.1,.cells [vb x25.2.2.2]]),((decide (x23<0))=true→(decide (x23<0))=true),((decide (x23<0))=true→(decide (x23<0))=true)] (And.intro ((by rw [map_dd];exact vecLoads (p:=0) (pre:=[]) rfl hx22 rfl)) (And.intro (ct60 hx23) (And.intro ((fun hg=>(by rw [map_dd];exact vecLoads (p:=0) (pre:=[]) rfl (optG_of hx24 hg) rfl))) (And.intro (id) (And.intro (id) (And.intro ((fun hg=>by first|rfl|(rw [hg];done)|(rw [hg];rfl)|simp only [hg,cond_true])) (And.intro ((fun hg=>by first|rfl|(rw [hg];done)|(rw [hg];rfl)|simp only [hg,cond_false])) (And.intro ((fun hg=>ct66r (optG_of hx25 hg))) (And.intro (id) (id)))))))))) ?_
      refine cd h (fun hb26 h=>?_) (fun hb26 h=>?_)
      ·obtain rfl:=oi h
       refine WA 9 [] q2 ?_
       exact awp_ret (gs [0,1,2,3,4,5,6,7] [] OutQ.ret)
      ·refine awp_eq (T':=[(0,.yld 0),(1,rf 6),(2,rf 7),(4,vi c2.1),(58,vb (cond (decide (x23<0)) (!x25.1) false))]) (H':=[.loop (some none) [63] asn66x0 bdy66x0 74 [(1,rf 1),(2,rf 4),(8,rf 5)],.cells [rf 2],sv b2x0 b2x1 b2x2 b2x3 3,.map (mpo101x3 (cond (decide (x23<0)) x25.2.1 c2.2.1)),.vec [] (cond (decide (x23<0)) x25.2.2.1 c2.2.2.1) [],.cells [vb (cond (decide (x23<0)) x25.2.2.2 c2.2.2.2)],.cells [rf 2],vw b7x0,vw so8]) rfl (by simp +zetaDelta only [loop_on2 hb26,cond_true]) ?_
       refine awp_skip ?_
       show awp ..
       refine XA [q8,(1,rf 6),(2,rf 7),(4,vi (w64 (c2.1+1)))] [q1,q4,q3,.map (mpo101x3 (cond q12 x25.2.1 c2.2.1)),.vec [] (cond q12 x25.2.2.1 c2.2.2.1) [],.cells [vb (cond q12 x25.2.2.2 c2.2.2.2)],q4,vw b7x0,vw so8] ?_
       exact gn 8 [0,1,2,4] (hrn3 _ h)
  ·refine awp_exit ?_
   obtain rfl:=oi h
   exact gs [0,1,2,3,4,5,6,7] [] OutQ.norm
 ·obtain rfl:=oi h
  exact (main_retS [0,1,2,3,4,5,6,7] (.tup []) (by kernel_rfl) (by kernel_rfl) (by kernel_rfl) (by kernel_rfl))
 ·obtain rfl:=oi h
  exact (main_retN [0,1,2,3,4,5,6,7] (.tup []) (by kernel_rfl) (by kernel_rfl) (by kernel_rfl) (by kernel_rfl))
theorem ct66 {fuel:Nat}  {b0x0:Int} {b0x1:List S_api_EdSheet} {b0x2:List S_api_EdEdge} {b0x3:List Int} {m1:List ((List Int)×Int)} {res:(List Int)×Bool×(List ((List Int)×Int))} (h:F66 fuel b0x0 b0x1 b0x2 b0x3 m1=some res):HCall Try.prog 66 [rf 0] [sv b0x0 b0x1 b0x2 b0x3 1,mq m1] (.tup [.d (.agg (res.1.map di0)),vb res.2.1]) [sv b0x0 b0x1 b0x2 b0x3 1,mq res.2.2]:=by
 refine HCall.of_awpS tt_ok (N:=74) (fl:=2) Try.func66 rfl (by kernel_rfl) rfl rfl (Nat.le_of_ble_eq_true rfl) ?_
 unfold F66 at h
 let q1:O:=sv b0x0 b0x1 b0x2 b0x3 1
 let q2:=(List.replicate 5 (0:Int))
 let q3:O:=.cells [rf 0]
 refine GA [(1,rf 2),(2,rf 3)] [q1,mq m1,q3,.cells (q2.map vi)] ?_
 refine awp_vec 3 (q2.map vi) [] q2 [] [q1,mq m1,q3,.vec [] q2 []] (by kernel_rfl) rfl (by kernel_rfl) ?_
 obtain ⟨x1,hx1,h⟩:=ob h
 refine awp_seq (awp_any (T':=[(1,rf 2),(2,rf 3),(4,.d (NL3 x1.1)),(5,.d (NL126 x1.2))]) (H':=[q1,mq m1,q3,.vec [] q2 []]) (ps:=[(([(0,q1),(1,mq m1)]:List (Nat×O))=[(0,q1),(1,mq m1)]),HCall Try.prog 64 [rf 0,vl b0x1,vi 0] [q1,mq m1] (.tup [.d (NL3 x1.1),.d (NL126 x1.2)]) [q1,mq m1]]) tt_ok mixed (ks:=[1,2,4,5]) (hs:=[.no,.no,.no,.no,.no,.no,.no,.rcall [(0,false),(1,false)] (.tup [.d (NL3 x1.1),.d (NL126 x1.2)])]) (m:=12) (mid:=[1,2,4,5,20]) (by kernel_rfl) (And.intro (rfl) (ct64 hx1)) ?_)
 show awp ..
 let q7:Nat×V:=(22,vb (!(Nat.beq x1.2.length 0)))
 refine awp_seq (GB [.no,.nil (Nat.beq x1.2.length 0)] [(1,rf 2),(2,rf 3),(4,.d (NL3 x1.1)),q7] [q1,mq m1,q3,.vec [] q2 []] [NilIs (NL126 x1.2) (Nat.beq x1.2.length 0)] (nilIs_nl) ?_)
 refine cd h (fun hb2 h=>?_) (fun hb2 h=>?_)
 ·obtain ⟨x3,hx3,h⟩:=ob h
  obtain ⟨x4,hx4,h⟩:=ob h
  refine GB [.cells (x3.map di0),.nums x3] [(2,rf 3),(3,vb false)] [q1,mq m1,q3,vw x3] [LoadOk (([]:List V)++(List.replicate 5 (0:Int)).map vi) 0 5 ((x3.map di0).map .d),((((x3.map di0).map V.d)).length=5),StoreOk ((List.replicate 5 (0:Int)).map vi) 0 ((x3.map di0).map V.d) (x3.map vi)] (And.intro ((by rw [map_dd];exact vecLoads (p:=0) (pre:=[]) rfl hx3 rfl)) (And.intro ((by rw [map_dd];exact (List.length_map _).trans (need_of hx4))) ((by rw [map_dd];exact vecStores (n:=5) rfl (need_of hx4))))) ?_
  obtain ⟨x5,hx5,h⟩:=ob h
  obtain rfl:=oi h
  refine WB 4 [(2,rf 3),(3,vb false)] ?_
  exact awp_ret (main_retS [0,1] (.tup [.d (.agg (x3.map di0)),vb false]) (by have hq:=need_of hx5;revert hq;(try dsimp only);generalize x3=xs1;intro hq;exact match xs1,hq with|[a1_0,a1_1,a1_2,a1_3,a1_4],_=>rfl) (by kernel_rfl) (by kernel_rfl) (by kernel_rfl))
 ·refine awp_skip ?_
  show awp ..
  refine awp_laxT 4 _ (L3 x1.1) [(4,.d (L3 x1.1)),(1,rf 2),(2,rf 3),q7] (by kernel_rfl) (.onl nl_nil) (by kernel_rfl) ?_
  refine WA 4 [(1,rf 2),(2,rf 3),(4,.d (L3 x1.1)),q7] [q1,mq m1,q3,.vec [] q2 []] ?_
  obtain ⟨x6,hx6,h⟩:=ob h
  obtain ⟨x7,hx7,h⟩:=ob h
  refine sd [1,2] [.no,.no,.no,.no,.no,.no,.no,.no,.list x7.length (x7.flatMap cel3),.vals ((x7.take q2.length++q2.drop x7.length:List Int).map vi)] 9 [1,2,24,32] [(1,rf 2),(2,rf 3)] [q1,mq m1,q3,.cells ((x7.take q2.length++q2.drop x7.length:List Int).map vi)] [((0:Int)≤(0:Int)∧(0:Int)≤((5:Nat):Int)∧((5:Nat):Int)≤((5:Nat):Int)∧((0:Int)=0∨(0:Int)<((5:Nat):Int))∧0+5*1≤(([]:List V)++(List.replicate 5 (0:Int)).map vi).length∧5≤9223372036854775807),SliceOk (x1.1.flatMap cel3) 1 x1.1.length 0 (b0x1.length:Int) x7.length (x7.flatMap cel3),(0<(vecV [] (List.replicate 5 (0:Int)) []).length∧(x7.flatMap cel3).length=x7.length*1∧0+5*1≤(vecV [] (List.replicate 5 (0:Int)) []).length∧putAt (vecV [] (List.replicate 5 (0:Int)) []) 0 (((x7.flatMap cel3).take (min x7.length 5*1)).map .d)=((x7.take (List.replicate 5 (0:Int)).length++(List.replicate 5 (0:Int)).drop x7.length:List Int).map vi))] (And.intro (⟨by decide,(by decide),(by decide),.inl rfl,(by have h0:=need_of hx6;simp only [List.length_append,List.length_map,List.length_cons,List.length_nil];omega),by decide⟩) (And.intro (sliceOk cel3_len hx7) (copyVec (cel:=cel3) (fun _=>rfl) (need_of hx6) (by decide)))) ?_
  let q4:O:=.vec [] (x7.take q2.length++q2.drop x7.length:List Int) []
  refine awp_vec 3 ((x7.take q2.length++q2.drop x7.length:List Int).map vi) [] (x7.take q2.length++q2.drop x7.length:List Int) [] [q1,mq m1,q3,q4] (by kernel_rfl) rfl (by kernel_rfl) ?_
  refine awp_seq (awp_res [q1,mq m1,q3,q4,.data []] (by kernel_rfl) ?_)
  refine awp_res [q1,mq m1,q3,q4,.data [],.data []] (by kernel_rfl) ?_
  refine awp_res [q1,mq m1,q3,q4,.data [],.data [],.data []] (by kernel_rfl) ?_
  obtain ⟨x8,hx8,h⟩:=ob h
  obtain ⟨x9,hx9,h⟩:=ob h
  obtain ⟨x10,hx10,h⟩:=ob h
  obtain ⟨x11,hx11,h⟩:=ob h
  obtain ⟨x12,hx12,h⟩:=ob h
  refine awp_seq (awp_any (T':=[(1,rf 2),(2,rf 3),(6,rf 6)]) (H':=[sv b0x0 b0x1 b0x2 b0x3 1,mq x11.2.2,.cells [rf 0],.vec [] (x7.take (List.replicate 5 (0:Int)).length++(List.replicate 5 (0:Int)).drop x7.length:List Int) [],.cells [rf 0],vw x10,.cells (x11.1.map vi)]) (ps:=[LoadOk (([]:List V)++(x7.take (List.replicate 5 (0:Int)).length++(List.replicate 5 (0:Int)).drop x7.length:List Int).map vi) 0 5 ((x8.map di0).map .d),LoadOk (([]:List V)++(x7.take (List.replicate 5 (0:Int)).length++(List.replicate 5 (0:Int)).drop x7.length:List Int).map vi) 0 5 ((x9.map di0).map .d),HCall Try.prog 89 [rf 0,.d (.agg (x9.map di0))] [sv b0x0 b0x1 b0x2 b0x3 1,mq m1] (.fn (.func 103) [] [rf 2,rf 3]) [sv b0x0 b0x1 b0x2 b0x3 1,mq m1,.cells [rf 0],vw x10],HCall Try.prog 88 [.d (.agg (x8.map di0)),.fn (.func 103) [] [rf 0,rf 3],.fn (.func 63) [rf 1] []] [.cells [rf 1],sv b0x0 b0x1 b0x2 b0x3 2,mq m1,vw x10] (.tup [.d (.agg (x11.1.map di0)),vi x11.2.1]) [.cells [rf 1],sv b0x0 b0x1 b0x2 b0x3 2,mq x11.2.2,vw x10],((((x11.1.map di0).map V.d)).length=5),StoreOk ((List.replicate 5 (0:Int)).map vi) 0 ((x11.1.map di0).map V.d) (x11.1.map vi)]) tt_ok mixed (ks:=[1,2,6]) (hs:=[.cells (x8.map di0),.no,.cells (x9.map di0),.hcall [(0,false),(1,false),(4,true),(5,true),(7,true),(8,true)] (.fn (.func 103) [] [rf 2,rf 3]) [sv b0x0 b0x1 b0x2 b0x3 1,mq m1,.cells [rf 0],vw x10],.no,.no,.hcall [(4,false),(0,false),(1,false),(5,false)] (.tup [.d (.agg (x11.1.map di0)),vi x11.2.1]) [.cells [rf 1],sv b0x0 b0x1 b0x2 b0x3 2,mq x11.2.2,vw x10],.no,.no,.no,.res 6,.vals (x11.1.map vi)]) (m:=12) (mid:=[1,2,6,43]) (by kernel_rfl) (And.intro ((by rw [map_dd];exact vecLoads (p:=0) (pre:=[]) rfl hx8 rfl)) (And.intro ((by rw [map_dd];exact vecLoads (p:=0) (pre:=[]) rfl hx9 rfl)) (And.intro (ct89 hx10) (And.intro (ct88 hx11) (And.intro ((by rw [map_dd];exact (List.length_map _).trans (need_of hx12))) ((by rw [map_dd];exact vecStores (n:=5) rfl (need_of hx12)))))))) ?_)
  show awp ..
  refine awp_vec 6 (x11.1.map vi) [] x11.1 [] [q1,mq x11.2.2,q3,q4,q3,vw x10,vw x11.1] (by kernel_rfl) rfl (by kernel_rfl) ?_
  refine cuo h (fun (ro13:(List Int)×Bool×(List ((List Int)×Int)))=>[(2,rf 2),(3,vb ro13.2.1)]) (fun (ro13:(List Int)×Bool×(List ((List Int)×Int)))=>[q1,mq ro13.2.2,vw ro13.1]) (fun (so13:(List ((List Int)×Int))×(List Int)×(List Int))=>[(1,rf 2),(2,rf 3)]) (fun (so13:(List ((List Int)×Int))×(List Int)×(List Int))=>[q1,mq so13.1,q3,vw so13.2.1,q3,vw x10,vw so13.2.2]) (fun o13 h=>?_) (fun ro13 h=>?_) (fun so13 h=>?_)
  ·refine awp_selQ (WA 7 [(1,rf 2),(2,rf 3),(6,rf 6)] [q1,mq x11.2.2,q3,q4,q3,vw x10,vw x11.1] ?_)
   refine awp_block (awp_loop (n:=fuel) ?_)
   refine awpN_ind (fun n (c14:(List ((List Int)×Int))×(List Int)×(List Int))=>F66L1 fuel b0x0 b0x1 b0x2 b0x3 n c14) o13 (fun (c14:(List ((List Int)×Int))×(List Int)×(List Int))=>[(1,rf 2),(2,rf 3),(6,rf 6)]) (fun (c14:(List ((List Int)×Int))×(List Int)×(List Int))=>[q1,mq c14.1,q3,vw c14.2.1,q3,vw x10,vw c14.2.2]) (fun _=>rfl) ?_ fuel (x11.2.2,(x7.take q2.length++q2.drop x7.length:List Int),x11.1) h
   clear h
   intro n15 c14 h hrn15
   change F66L1 fuel b0x0 b0x1 b0x2 b0x3 (n15+1) c14=some o13 at h
   rw [F66L1] at h
   refine awp_seq ?_
   obtain ⟨x16,hx16,h⟩:=ob h
   obtain ⟨x17,hx17,h⟩:=ob h
   obtain ⟨x18,hx18,h⟩:=ob h
   obtain ⟨x19,hx19,h⟩:=ob h
   refine GB [.cells (x16.map di0),.cells (x17.map di0),.eqs (x16==x17)] [(1,rf 2),(2,rf 3),(6,rf 6),(46,vb (!(x16==x17)))] [q1,mq c14.1,q3,vw c14.2.1,q3,vw x10,vw c14.2.2] [LoadOk (([]:List V)++c14.2.2.map vi) 0 5 ((x16.map di0).map .d),LoadOk (([]:List V)++c14.2.1.map vi) 0 5 ((x17.map di0).map .d),(eqB Try.prog 101 (.agg (x16.map di0))=true),(eqD (.agg (x16.map di0)) (.agg (x17.map di0))=some (x16==x17))] (And.intro ((by rw [map_dd];exact vecLoads (p:=0) (pre:=[]) rfl hx16 rfl)) (And.intro ((by rw [map_dd];exact vecLoads (p:=0) (pre:=[]) rfl hx17 rfl)) (And.intro (arrk101 (need_of hx18)) (arre101 (need_of hx18) (need_of hx19))))) ?_
   refine cd h (fun hb20 h=>?_) (fun hb20 h=>?_)
   ·refine awp_skip ?_
    show awp ..
    refine awp_seq (awp_block ?_)
    obtain ⟨x21,hx21,h⟩:=ob h
    obtain ⟨x22,hx22,h⟩:=ob h
    obtain ⟨x23,hx23,h⟩:=ob h
    refine XB [.cells (x21.map di0),.nums x21] [(1,rf 2),(2,rf 3),(6,rf 6)] [q1,mq c14.1,q3,vw x21,q3,vw x10,vw c14.2.2] [LoadOk (([]:List V)++c14.2.2.map vi) 0 5 ((x21.map di0).map .d),((((x21.map di0).map V.d)).length=5),StoreOk (c14.2.1.map vi) 0 ((x21.map di0).map V.d) (x21.map vi)] (And.intro ((by rw [map_dd];exact vecLoads (p:=0) (pre:=[]) rfl hx21 rfl)) (And.intro ((by rw [map_dd];exact (List.length_map _).trans (need_of hx22))) ((by rw [map_dd];exact vecStores (n:=5) ((List.length_map _).trans (need_of hx23)) (need_of hx22))))) ?_
    show awp ..
    refine awp_seq ?_
    obtain ⟨x24,hx24,h⟩:=ob h
    refine HB [.cells (x24.map di0)] [(1,rf 2),(2,rf 3),(58,.d (.agg (x24.map di0)))] [LoadOk (([]:List V)++c14.2.2.map vi) 0 5 ((x24.map di0).map .d)] ((by rw [map_dd];exact vecLoads (p:=0) (pre:=[]) rfl hx24 rfl)) ?_
    obtain ⟨x25,hx25,h⟩:=ob h
    refine XB [.no,.vals (x24.map vi)] [(1,rf 2),(2,rf 3),(6,rf 7)] [q1,mq c14.1,q3,vw x21,q3,vw x10,vw c14.2.2,.cells (x24.map vi)] [((((x24.map di0).map V.d)).length=5),StoreOk ((List.replicate 5 (0:Int)).map vi) 0 ((x24.map di0).map V.d) (x24.map vi)] (And.intro ((by rw [map_dd];exact (List.length_map _).trans (need_of hx25))) ((by rw [map_dd];exact vecStores (n:=5) rfl (need_of hx25)))) ?_
    refine awp_vec 7 (x24.map vi) [] x24 [] [q1,mq c14.1,q3,vw x21,q3,vw x10,vw c14.2.2,vw x24] (by kernel_rfl) rfl (by kernel_rfl) ?_
    show awp ..
    refine awp_res [q1,mq c14.1,q3,vw x21,q3,vw x10,vw c14.2.2,vw x24,.data []] (by kernel_rfl) ?_
    refine awp_res [q1,mq c14.1,q3,vw x21,q3,vw x10,vw c14.2.2,vw x24,.data [],.data []] (by kernel_rfl) ?_
    obtain ⟨x26,hx26,h⟩:=ob h
    obtain ⟨x27,hx27,h⟩:=ob h
    obtain ⟨x28,hx28,h⟩:=ob h
    obtain ⟨x29,hx29,h⟩:=ob h
    obtain ⟨x30,hx30,h⟩:=ob h
    obtain ⟨x31,hx31,h⟩:=ob h
    refine awp_any (T':=[(1,rf 2),(2,rf 3),(6,rf 7)]) (H':=[sv b0x0 b0x1 b0x2 b0x3 1,mq x29.2.2,.cells [rf 0],vw x21,.cells [rf 0],vw x10,vw c14.2.2,vw x29.1,.cells [rf 0],vw x28]) (ps:=[LoadOk (([]:List V)++x21.map vi) 0 5 ((x26.map di0).map .d),LoadOk (([]:List V)++x21.map vi) 0 5 ((x27.map di0).map .d),HCall Try.prog 89 [rf 0,.d (.agg (x27.map di0))] [sv b0x0 b0x1 b0x2 b0x3 1,mq c14.1] (.fn (.func 103) [] [rf 2,rf 3]) [sv b0x0 b0x1 b0x2 b0x3 1,mq c14.1,.cells [rf 0],vw x28],HCall Try.prog 88 [.d (.agg (x26.map di0)),.fn (.func 103) [] [rf 0,rf 3],.fn (.func 63) [rf 1] []] [.cells [rf 1],sv b0x0 b0x1 b0x2 b0x3 2,mq c14.1,vw x28] (.tup [.d (.agg (x29.1.map di0)),vi x29.2.1]) [.cells [rf 1],sv b0x0 b0x1 b0x2 b0x3 2,mq x29.2.2,vw x28],((((x29.1.map di0).map V.d)).length=5),StoreOk (x24.map vi) 0 ((x29.1.map di0).map V.d) (x29.1.map vi)]) tt_ok mixed (ks:=[1,2,6]) (hs:=[.cells (x26.map di0),.no,.cells (x27.map di0),.hcall [(0,false),(1,false),(8,true),(9,true),(10,true),(11,true)] (.fn (.func 103) [] [rf 2,rf 3]) [sv b0x0 b0x1 b0x2 b0x3 1,mq c14.1,.cells [rf 0],vw x28],.no,.no,.hcall [(8,false),(0,false),(1,false),(9,false)] (.tup [.d (.agg (x29.1.map di0)),vi x29.2.1]) [.cells [rf 1],sv b0x0 b0x1 b0x2 b0x3 2,mq x29.2.2,vw x28],.no,.no,.no,.nums x29.1]) (m:=11) (mid:=[1,2,6]) (by kernel_rfl) (And.intro ((by rw [map_dd];exact vecLoads (p:=0) (pre:=[]) rfl hx26 rfl)) (And.intro ((by rw [map_dd];exact vecLoads (p:=0) (pre:=[]) rfl hx27 rfl)) (And.intro (ct89 hx28) (And.intro (ct88 hx29) (And.intro ((by rw [map_dd];exact (List.length_map _).trans (need_of hx30))) ((by rw [map_dd];exact vecStores (n:=5) ((List.length_map _).trans (need_of hx31)) (need_of hx30)))))))) ?_
    exact awpN_sel [0,1,2,3,4,5,7] [1,2,6] _ _ (by kernel_rfl) (by kernel_rfl) (by kernel_rfl) (hrn15 (x29.2.2,x21,x29.1) h)
   ·refine awp_exit ?_
    obtain rfl:=oi h
    exact gs [0,1,2,3,4,5,6] [1,2] OutQ.norm
  ·obtain ⟨x45,hx45,h⟩:=ob h
   obtain rfl:=oi h
   exact (main_retS [0,1] (.tup [.d (.agg (ro13.1.map di0)),vb ro13.2.1]) (by have hq:=need_of hx45;revert hq;(try dsimp only);generalize ro13.1=xs1;intro hq;exact match xs1,hq with|[a1_0,a1_1,a1_2,a1_3,a1_4],_=>rfl) (by kernel_rfl) (by kernel_rfl) (by kernel_rfl))
  ·show awp ..
   let q5:O:=vw so13.2.2
   let q6:St:=[(1,rf 2),(2,rf 3),(8,rf 7)]
   refine awp_seq (GA q6 [q1,mq so13.1,q3,vw so13.2.1,q3,vw x10,q5,.cells [vb true]] ?_)
   refine cuo h (fun (ro32:(List Int)×Bool×(List ((List Int)×Int)))=>[(2,rf 2),(3,vb ro32.2.1)]) (fun (ro32:(List Int)×Bool×(List ((List Int)×Int)))=>[q1,mq ro32.2.2,vw ro32.1]) (fun (so32:(List ((List Int)×Int))×(List Int)×Bool)=>[(2,rf 3)]) (fun (so32:(List ((List Int)×Int))×(List Int)×Bool)=>[q1,mq so32.1,q3,vw so32.2.1,q3,vw x10,q5,.cells [vb so32.2.2]]) (fun o32 h=>?_) (fun ro32 h=>?_) (fun so32 h=>?_)
   ·refine awp_selQ (WA 8 q6 [q1,mq so13.1,q3,vw so13.2.1,q3,vw x10,q5,.cells [vb true]] ?_)
    refine awp_block (awp_loop (n:=fuel) ?_)
    refine awpN_ind (fun n (c33:(List ((List Int)×Int))×(List Int)×Bool)=>F66L2 fuel b0x0 b0x1 b0x2 b0x3 n c33) o32 (fun (c33:(List ((List Int)×Int))×(List Int)×Bool)=>[(1,rf 2),(2,rf 3),(8,rf 7)]) (fun (c33:(List ((List Int)×Int))×(List Int)×Bool)=>[q1,mq c33.1,q3,vw c33.2.1,q3,vw x10,q5,.cells [vb c33.2.2]]) (fun _=>rfl) ?_ fuel (so13.1,so13.2.1,true) h
    clear h
    intro n34 c33 h hrn34
    change F66L2 fuel b0x0 b0x1 b0x2 b0x3 (n34+1) c33=some o32 at h
    rw [F66L2] at h
    refine awp_seq (GA [(1,rf 2),(2,rf 3),(8,rf 7),(59,vb c33.2.2)] [q1,mq c33.1,q3,vw c33.2.1,q3,vw x10,q5,.cells [vb c33.2.2]] ?_)
    refine cd h (fun hb35 h=>?_) (fun hb35 h=>?_)
    ·refine awp_skip ?_
     show awp ..
     refine awp_seq (awp_block ?_)
     refine GA q6 [q1,mq c33.1,q3,vw c33.2.1,q3,vw x10,q5,.cells [vb false]] ?_
     obtain ⟨x36,hx36,h⟩:=ob h
     obtain ⟨x37,hx37,h⟩:=ob h
     refine GB [.no,.cells (x36.map di0),.hcall [(0,false),(1,false)] (.fn (.func 103) [] [rf 2,rf 3]) [q1,mq c33.1,q3,vw x37]] [(1,rf 2),(2,rf 3),(8,rf 7),(62,.fn (.func 103) [] [rf 8,rf 9])] [q1,mq c33.1,q3,vw c33.2.1,q3,vw x10,q5,.cells [vb false],q3,vw x37] [LoadOk (([]:List V)++c33.2.1.map vi) 0 5 ((x36.map di0).map .d),HCall Try.prog 89 [rf 0,.d (.agg (x36.map di0))] [sv b0x0 b0x1 b0x2 b0x3 1,mq c33.1] (.fn (.func 103) [] [rf 2,rf 3]) [sv b0x0 b0x1 b0x2 b0x3 1,mq c33.1,.cells [rf 0],vw x37]] (And.intro ((by rw [map_dd];exact vecLoads (p:=0) (pre:=[]) rfl hx36 rfl)) (ct89 hx37)) ?_
     refine awp_block ?_
     obtain ⟨x38,hx38,h⟩:=ob h
     by_cases hb39:x38.1=true
     ·rw [if_pos hb39] at h
      refine awp_range (ks:=[1,2,8]) (ids:=[(10,false),(2,false),(0,false),(1,false),(3,false),(7,false),(8,false),(9,false)]) (r := .tup []) (Hc:=[.loop (some none) [63] asn66x0 bdy66x0 74 [(1,rf 1),(2,rf 4),(8,rf 5)],.cells [rf 2],sv b0x0 b0x1 b0x2 b0x3 3,mq x38.2.1,vw x38.2.2.1,.cells [vb x38.2.2.2],.cells [rf 2],vw x37]) none [(1,rf 2),(2,rf 3),(8,rf 7),(62,.fn (.func 103) [] [rf 8,rf 9])] [sv b0x0 b0x1 b0x2 b0x3 1,mq x38.2.1,.cells [rf 0],vw x38.2.2.1,.cells [rf 0],vw x10,vw so13.2.2,.cells [vb x38.2.2.2],.cells [rf 0],vw x37,.data []] [HCall Try.prog 103 [.yld 0,rf 6,rf 7] [.loop (some none) [63] asn66x0 bdy66x0 74 [(1,rf 1),(2,rf 4),(8,rf 5)],.cells [rf 2],sv b0x0 b0x1 b0x2 b0x3 3,mq c33.1,vw c33.2.1,.cells [vb false],.cells [rf 2],vw x37] (.tup []) [.loop (some none) [63] asn66x0 bdy66x0 74 [(1,rf 1),(2,rf 4),(8,rf 5)],.cells [rf 2],sv b0x0 b0x1 b0x2 b0x3 3,mq x38.2.1,vw x38.2.2.1,.cells [vb x38.2.2.2],.cells [rf 2],vw x37]] rfl (by kernel_rfl) (by have h0:=ct103v1 hx38;rw [hb39] at h0;exact h0) (fun _=>?_) (fun c hc=>absurd hc (by simp))
      show awp ..
      refine GA [(1,rf 2),(2,rf 3),(72,vb x38.2.2.2)] [q1,mq x38.2.1,q3,vw x38.2.2.1,q3,vw x10,q5,.cells [vb x38.2.2.2],q3,vw x37,.data []] ?_
      refine XA [(1,rf 2),(2,rf 3),(8,rf 11)] [q1,mq x38.2.1,q3,vw x38.2.2.1,q3,vw x10,q5,.cells [vb x38.2.2.2],q3,vw x37,.data [],.cells [vb x38.2.2.2]] ?_
      exact awpN_sel [0,1,2,3,4,5,6,11] [1,2,8] _ _ (by kernel_rfl) (by kernel_rfl) (by kernel_rfl) (hrn34 (x38.2.1,x38.2.2.1,x38.2.2.2) h)
     ·rw [if_neg hb39] at h
      have hb39:=Bool.eq_false_iff.2 hb39
      refine awp_range (ks:=[1,2,8]) (ids:=[(10,false),(2,false),(0,false),(1,false),(3,false),(7,false),(8,false),(9,false)]) (r := .tup []) (Hc:=[.loop (some (some (.exit 4))) [63] asn66x0 bdy66x0 74 [(1,rf 1),(2,rf 4),(8,rf 5)],.cells [rf 2],sv b0x0 b0x1 b0x2 b0x3 3,mq x38.2.1,vw x38.2.2.1,.cells [vb x38.2.2.2],.cells [rf 2],vw x37]) (some (.exit 4)) [(1,rf 2),(2,rf 3),(8,rf 7),(62,.fn (.func 103) [] [rf 8,rf 9])] [sv b0x0 b0x1 b0x2 b0x3 1,mq x38.2.1,.cells [rf 0],vw x38.2.2.1,.cells [rf 0],vw x10,vw so13.2.2,.cells [vb x38.2.2.2],.cells [rf 0],vw x37,.data []] [HCall Try.prog 103 [.yld 0,rf 6,rf 7] [.loop (some none) [63] asn66x0 bdy66x0 74 [(1,rf 1),(2,rf 4),(8,rf 5)],.cells [rf 2],sv b0x0 b0x1 b0x2 b0x3 3,mq c33.1,vw c33.2.1,.cells [vb false],.cells [rf 2],vw x37] (.tup []) [.loop (some (some (.exit 4))) [63] asn66x0 bdy66x0 74 [(1,rf 1),(2,rf 4),(8,rf 5)],.cells [rf 2],sv b0x0 b0x1 b0x2 b0x3 3,mq x38.2.1,vw x38.2.2.1,.cells [vb x38.2.2.2],.cells [rf 2],vw x37]] rfl (by kernel_rfl) (by have h0:=ct103v1 hx38;rw [hb39] at h0;exact h0) (fun hc=>absurd hc (by simp)) (fun c hc=>?_)
      obtain rfl:=Option.some.inj hc
      refine awp_exit ?_
      show awp ..
      refine GA [(1,rf 2),(2,rf 3),(72,vb x38.2.2.2)] [q1,mq x38.2.1,q3,vw x38.2.2.1,q3,vw x10,q5,.cells [vb x38.2.2.2],q3,vw x37,.data []] ?_
      refine XA [(1,rf 2),(2,rf 3),(8,rf 11)] [q1,mq x38.2.1,q3,vw x38.2.2.1,q3,vw x10,q5,.cells [vb x38.2.2.2],q3,vw x37,.data [],.cells [vb x38.2.2.2]] ?_
      exact awpN_sel [0,1,2,3,4,5,6,11] [1,2,8] _ _ (by kernel_rfl) (by kernel_rfl) (by kernel_rfl) (hrn34 (x38.2.1,x38.2.2.1,x38.2.2.2) h)
    ·refine awp_exit ?_
     obtain rfl:=oi h
     exact gs [0,1,2,3,4,5,6,7] [2] OutQ.norm
   ·obtain ⟨x44,hx44,h⟩:=ob h
    obtain rfl:=oi h
    exact (main_retS [0,1] (.tup [.d (.agg (ro32.1.map di0)),vb ro32.2.1]) (by have hq:=need_of hx44;revert hq;(try dsimp only);generalize ro32.1=xs1;intro hq;exact match xs1,hq with|[a1_0,a1_1,a1_2,a1_3,a1_4],_=>rfl) (by kernel_rfl) (by kernel_rfl) (by kernel_rfl))
   ·show awp ..
    obtain ⟨x40,hx40,h⟩:=ob h
    obtain ⟨x41,hx41,h⟩:=ob h
    obtain ⟨x42,hx42,h⟩:=ob h
    refine GB [.cells (x40.map di0),.nums x40] [(2,rf 3),(3,vb true)] [q1,mq so32.1,q3,vw x40,q3,vw x10,q5,.cells [vb so32.2.2]] [LoadOk (([]:List V)++so32.2.1.map vi) 0 5 ((x40.map di0).map .d),((((x40.map di0).map V.d)).length=5),StoreOk (so32.2.1.map vi) 0 ((x40.map di0).map V.d) (x40.map vi)] (And.intro ((by rw [map_dd];exact vecLoads (p:=0) (pre:=[]) rfl hx40 rfl)) (And.intro ((by rw [map_dd];exact (List.length_map _).trans (need_of hx41))) ((by rw [map_dd];exact vecStores (n:=5) ((List.length_map _).trans (need_of hx42)) (need_of hx41))))) ?_
    obtain ⟨x43,hx43,h⟩:=ob h
    obtain rfl:=oi h
    refine WB 8 [(2,rf 3),(3,vb true)] ?_
    exact awp_ret (main_retS [0,1] (.tup [.d (.agg (x40.map di0)),vb true]) (by have hq:=need_of hx43;revert hq;(try dsimp only);generalize x40=xs1;intro hq;exact match xs1,hq with|[a1_0,a1_1,a1_2,a1_3,a1_4],_=>rfl) (by kernel_rfl) (by kernel_rfl) (by kernel_rfl))
theorem ct67  {p_s:(List Int)} {res:(List Int)} (h:F67 p_s=some res):PCall Try.prog 67 [(L3 p_s)] (.d (L3 res)):=by
 refine PCall.of_awp tt_ok (N:=8) Try.func67 rfl (by kernel_rfl) rfl (Nat.le_of_ble_eq_true rfl) rfl ?_
 unfold F67 at h
 refine GA [(0,.d (L3 p_s))] [] ?_
 refine awp_seq ?_
 obtain ⟨x1,hx1,h⟩:=ob h
 refine HB [.no,.nil false] [(0,.d (L3 p_s)),(4,vb false)] [NilIs (L3 p_s) false] (nilIs_pos (need_of hx1)) ?_
 refine awp_cond (b:=false) (by kernel_rfl) (fun hb=>absurd hb (by decide)) (fun hb=>?_)
 refine awp_skip ?_
 show awp ..
 obtain ⟨x2,hx2,h⟩:=ob h
 let q1:=(([]:List Int)++p_s)
 refine HB [.cells [],.no,.listT q1.length (q1.flatMap cel3)] [(2,.d (L3 q1))] [AppendOk ((([]:List Int).flatMap cel3).map .d) ([]:List Int).length p_s.length q1.length 1 8 (p_s.flatMap cel3) (q1.flatMap cel3)] (appendOk cel3_len (need_of hx2)) ?_
 obtain rfl:=oi h
 refine WB 0 [(2,.d (L3 q1))] ?_
 exact awp_ret gm
theorem ct27 {fuel:Nat}  {p_c:S_api_EdCase} {res:(List Int)×Int×Int} (h:F27 fuel p_c=some res):PCall Try.prog 27 [(ca p_c)] (.tup [.d (L3 res.1),vi res.2.1,vi res.2.2]):=by
 refine PCall.of_awp tt_ok (N:=32) Try.func27 rfl (by kernel_rfl) rfl (Nat.le_of_ble_eq_true rfl) rfl ?_
 unfold F27 at h
 refine GA [(1,rf 0)] [cs p_c] ?_
 obtain ⟨x1,hx1,h⟩:=ob h
 cases x1 with
 | inl y2 =>
  rw [outK_inl] at h
  let q1:O:=sv y2.2.1 y2.2.2.1 y2.2.2.2.1 y2.2.2.2.2.1 2
  let q2:O:=sv y2.2.1 y2.2.2.1 y2.2.2.2.1 y2.2.2.2.2.1 1
  let q3:O:=mq y2.2.2.2.2.2
  refine GB [.no,.hcall [] (.tup [rf 0,vi y2.1]) [q2,q3]] [(1,rf 0),(5,rf 1),(6,vi y2.1)] [cs p_c,q1,q3] [HCall Try.prog 57 [.d (ca p_c)] [] (.tup [rf 0,vi y2.1]) [q2,q3]] (ct57v1 hx1) ?_
  refine awp_seq (HA [(1,rf 0),(5,rf 1),(6,vi y2.1),(15,vb (y2.1 != 0))] ?_)
  refine cd h (fun hb3 h=>?_) (fun hb3 h=>?_)
  ·refine GA [(2,.d dnil),(3,vi 0),(4,vi y2.1)] [cs p_c,q1,q3] ?_
   obtain rfl:=oi h
   refine WB 3 [(2,.d dnil),(3,vi 0),(4,vi y2.1)] ?_
   refine awp_laxT 2 _ (L3 ([]:List Int)) _ (by kernel_rfl) (.nil (e:=1)) rfl ?_
   refine WA 3 [(2,.d (L3 ([]:List Int))),(3,vi 0),(4,vi y2.1)] [cs p_c,q1,q3] ?_
   exact awp_ret gm
  ·refine awp_skip ?_
   show awp ..
   obtain ⟨x4,hx4,h⟩:=ob h
   obtain ⟨x5,hx5,h⟩:=ob h
   refine GB [.no,.hcall [(1,false),(2,false)] (.tup [.d (.agg (x4.1.map di0)),vb x4.2.1]) [q2,mq x4.2.2],.no,.no,.no,.no,.vals (x4.1.map vi)] [(1,rf 0),(5,rf 1),(7,rf 3),(8,vb x4.2.1)] [cs p_c,q1,mq x4.2.2,.cells (x4.1.map vi)] [HCall Try.prog 66 [rf 0] [sv y2.2.1 y2.2.2.1 y2.2.2.2.1 y2.2.2.2.2.1 1,mq y2.2.2.2.2.2] (.tup [.d (.agg (x4.1.map di0)),vb x4.2.1]) [sv y2.2.1 y2.2.2.1 y2.2.2.2.1 y2.2.2.2.2.1 1,mq x4.2.2],((((x4.1.map di0).map V.d)).length=5),StoreOk ((List.replicate 5 (0:Int)).map vi) 0 ((x4.1.map di0).map V.d) (x4.1.map vi)] (And.intro (ct66 hx4) (And.intro ((by rw [map_dd];exact (List.length_map _).trans (need_of hx5))) ((by rw [map_dd];exact vecStores (n:=5) rfl (need_of hx5))))) ?_
   refine awp_vec 3 (x4.1.map vi) [] x4.1 [] [cs p_c,q1,mq x4.2.2,vw x4.1] (by kernel_rfl) rfl (by kernel_rfl) ?_
   refine awp_seq (GA [(1,rf 0),(5,rf 1),(7,rf 3),(23,vb (!x4.2.1))] [cs p_c,q1,mq x4.2.2,vw x4.1] ?_)
   refine cd h (fun hb6 h=>?_) (fun hb6 h=>?_)
   ·refine GA [(2,.d dnil),(3,vi 0),(4,vi 9)] [cs p_c,q1,mq x4.2.2,vw x4.1] ?_
    obtain rfl:=oi h
    refine WB 4 [(2,.d dnil),(3,vi 0),(4,vi 9)] ?_
    refine awp_laxT 2 _ (L3 ([]:List Int)) _ (by kernel_rfl) (.nil (e:=1)) rfl ?_
    refine WA 4 [(2,.d (L3 ([]:List Int))),(3,vi 0),(4,vi 9)] [cs p_c,q1,mq x4.2.2,vw x4.1] ?_
    exact awp_ret gm
   ·refine awp_skip ?_
    show awp ..
    refine awp_unvec 3 [] x4.1 [] _ (by kernel_rfl) rfl ?_
    refine awp_data 3 (x4.1.map vi) (x4.1.map di0) _ (by kernel_rfl) (by kernel_rfl) (map_d [] x4.1) rfl ?_
    refine awp_freeze 7 3 (x4.1.map di0) (rf 3) (.d (.optr true (x4.1.map di0))) _ _ (ps:=[]) (by kernel_rfl) (by kernel_rfl) (by kernel_rfl) trivial rfl rfl ?_
    refine awp_reV 7 _ (.rop (x4.1.map di0)) _ rfl (re_rop _) rfl ?_
    refine WA 4 [(1,rf 0),(5,rf 1),(7,.rop (x4.1.map di0)),(23,vb (!x4.2.1))] [cs p_c,q1,mq x4.2.2,.data []] ?_
    obtain ⟨x7,hx7,h⟩:=ob h
    obtain ⟨x8,hx8,h⟩:=ob h
    obtain ⟨x9,hx9,h⟩:=ob h
    obtain ⟨x10,hx10,h⟩:=ob h
    obtain ⟨x11,hx11,h⟩:=ob h
    refine sd [2,3,4] [.no,.no,.no,.list x7.length (x7.flatMap cel3),.call [(L3 x7)] (.d (L3 x9)),.no,.cells (x10.map di0),.hcall [(1,false),(2,false)] (vi x11.1) [q2,mq x11.2]] 7 [2,3,4,28,29,30,31] [(2,.d (L3 x9)),(3,vi x11.1),(4,vi 0)] [cs p_c,q1,mq x11.2,.data []] [(SliceOk (x4.1.map di0) 1 5 0 (p_c.Sheets.length:Int) x7.length (x7.flatMap cel3)∧(x4.1.map di0).length=5*1),PCall Try.prog 67 [(L3 x7)] (.d (L3 x9)),((((x4.1.map di0).drop 0).take 5=x10.map di0)∧(x10.map di0).length=5),HCall Try.prog 63 [rf 0,.d (.agg (x10.map di0))] [q2,mq x4.2.2] (vi x11.1) [q2,mq x11.2]] (And.intro (ropSlice1 (cel:=cel3) (fun _=>rfl) (need_of hx8) hx7) (And.intro (ct67 hx9) (And.intro (ropLoads hx10) (ct63 hx11)))) ?_
    obtain rfl:=oi h
    refine WB 4 [(2,.d (L3 x9)),(3,vi x11.1),(4,vi 0)] ?_
    exact awp_ret gm
 | inr y12 =>
  rw [outK_inr] at h
  refine GB [.no,.hcall [] (.tup [.d (.v (.pointer none)),vi y12]) []] [(1,rf 0),(5,.d (.v (.pointer none))),(6,vi y12)] [cs p_c] [HCall Try.prog 57 [.d (ca p_c)] [] (.tup [.d (.v (.pointer none)),vi y12]) []] (ct57v1 hx1) ?_
  refine awp_seq (HA [(1,rf 0),(5,.d (.v (.pointer none))),(6,vi y12),(15,vb (y12 != 0))] ?_)
  refine cd h (fun hb13 h=>?_) (fun hb13 h=>?_)
  ·refine GA [(2,.d dnil),(3,vi 0),(4,vi y12)] [cs p_c] ?_
   obtain rfl:=oi h
   refine WB 1 [(2,.d dnil),(3,vi 0),(4,vi y12)] ?_
   refine awp_laxT 2 _ (L3 ([]:List Int)) _ (by kernel_rfl) (.nil (e:=1)) rfl ?_
   refine WA 1 [(2,.d (L3 ([]:List Int))),(3,vi 0),(4,vi y12)] [cs p_c] ?_
   exact awp_ret gm
  ·refine awp_skip ?_
   show awp ..
   exact absurd h (by simp)
end Go.Proofs.Ytallnifoeahpiaa
