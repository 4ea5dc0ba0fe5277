/- That functions of the seat compute this. Printed by a program of mine. -/
import Derived.Test.YtallnifoeahpiaaS
import Derived.Test.YtallnifoeahpiaaCED
import Derived.Test.YtallnifoeahpiaaCEE
import Derived.Test.YtallnifoeahpiaaCEG
import Derived.Test.YtallnifoeahpiaaDEH
namespace Go.Proofs.Ytallnifoeahpiaa
open Go Go.Sx
set_option maxRecDepth 100000
set_option linter.unusedVariables false
theorem ct97  {p_s:S_api_EdSheet} {change:Int} {res:S_api_Span} (h:F97 p_s change=some res):PCall Try.prog 97 [(.agg [(.v (.string p_s.Name)),(di p_s.Weight),(di p_s.Most)]),(di change)] (.d (.agg [(di res.Lo),(di res.Hi)])):=by
 refine PCall.of_awp tt_ok (N:=42) Try.func97 rfl (by kernel_rfl) rfl (Nat.le_of_ble_eq_true rfl) rfl ?_
 unfold F97 at h
 let q1:O:=.cells [.d (.v (.string p_s.Name)),vi p_s.Weight,vi p_s.Most]
 let q3:O:=.cells [vi 0,vi 0]
 let q5:Nat×V:=(1,vi change)
 refine GA [q5,(2,rf 0),(4,rf 1)] [q1,q3] ?_
 let q2:St:=[q5,(2,rf 0),(4,rf 1),(5,rf 2)]
 let q4:O:=.cells [vi (w64 (0-p_s.Weight)),vi p_s.Weight]
 refine GA q2 [q1,q3,q4] ?_
 refine awp_seq ?_
 refine cuo h (fun (ro1:S_api_Span)=>[(4,rf 0)]) (fun (ro1:S_api_Span)=>[.cells [vi ro1.Lo,vi ro1.Hi]]) (fun (so1:Int×Int)=>[q5,(2,rf 0),(4,rf 1),(5,rf 2)]) (fun (so1:Int×Int)=>[q1,q3,.cells [vi so1.1,vi so1.2]]) (fun o1 h=>?_) (fun ro1 h=>?_) (fun so1 h=>?_)
 ·refine awp_selQ (awp_block ?_)
  refine GA [q5,(2,rf 0),(4,rf 1),(5,rf 2),(12,vb (p_s.Most==0))] [q1,q3,q4] ?_
  refine cd h (fun hb2 h=>?_) (fun hb2 h=>?_)
  ·refine GA [(4,rf 1)] [q1,.cells [vi (-1048576),vi 1048576],q4] ?_
   obtain rfl:=oi h
   refine WB 3 [(4,rf 1)] ?_
   exact awp_ret (gs [1] [4] OutQ.ret)
  ·refine GA [q5,(2,rf 0),(4,rf 1),(5,rf 2),(17,vb (decide (change>0)))] [q1,q3,q4] ?_
   refine cd h (fun hb3 h=>?_) (fun hb3 h=>?_)
   ·refine XA q2 [q1,q3,.cells [vi p_s.Weight,vi p_s.Weight]] ?_
    obtain rfl:=oi h
    exact gs [0,1,2] [1,2,4,5] OutQ.norm
   ·refine GA [q5,(2,rf 0),(4,rf 1),(5,rf 2),(23,vb (decide (change<0)))] [q1,q3,q4] ?_
    refine cd h (fun hb4 h=>?_) (fun hb4 h=>?_)
    ·refine XA q2 [q1,q3,.cells [vi (w64 (0-p_s.Weight)),vi (w64 (0-p_s.Weight))]] ?_
     obtain rfl:=oi h
     exact gs [0,1,2] [1,2,4,5] OutQ.norm
    ·refine awp_skip ?_
     obtain rfl:=oi h
     exact gs [0,1,2] [1,2,4,5] OutQ.norm
 ·obtain rfl:=oi h
  exact gm
 ·show awp ..
  refine awp_seq (GA [q5,(2,rf 0),(4,rf 1),(5,rf 2),(33,vb (change==p_s.Most))] [q1,q3,.cells [vi so1.1,vi so1.2]] ?_)
  refine cuo h (fun (ro5:S_api_Span)=>[(4,rf 0)]) (fun (ro5:S_api_Span)=>[.cells [vi ro5.Lo,vi ro5.Hi]]) (fun (so5:Int)=>[q5,(2,rf 0),(4,rf 1),(5,rf 2)]) (fun (so5:Int)=>[q1,q3,.cells [vi so1.1,vi so5]]) (fun o5 h=>?_) (fun ro5 h=>?_) (fun so5 h=>?_)
  ·refine awp_selQ (cd h (fun hb6 h=>?_) (fun hb6 h=>?_))
   ·refine XA q2 [q1,q3,.cells [vi so1.1,vi 1048576]] ?_
    obtain rfl:=oi h
    exact gs [0,1,2] [1,2,4,5] OutQ.norm
   ·refine awp_skip ?_
    obtain rfl:=oi h
    exact gs [0,1,2] [1,2,4,5] OutQ.norm
  ·obtain rfl:=oi h
   exact gm
  ·show awp ..
   refine awp_seq (GA [(4,rf 1),(5,rf 2),(39,vb (change==(w64 (0-p_s.Most))))] [q1,q3,.cells [vi so1.1,vi so5]] ?_)
   refine cd h (fun hb7 h=>?_) (fun hb7 h=>?_)
   ·refine XA [(4,rf 1),(5,rf 2)] [q1,q3,.cells [vi (-1048576),vi so5]] ?_
    show awp ..
    refine GA [(4,rf 1)] [q1,.cells [vi (-1048576),vi so5],.cells [vi (-1048576),vi so5]] ?_
    obtain rfl:=oi h
    refine WB 3 [(4,rf 1)] ?_
    exact awp_ret gm
   ·refine awp_skip ?_
    show awp ..
    refine GA [(4,rf 1)] [q1,.cells [vi so1.1,vi so5],.cells [vi so1.1,vi so5]] ?_
    obtain rfl:=oi h
    refine WB 3 [(4,rf 1)] ?_
    exact awp_ret gm
theorem ct98  {k:Int} {b0x0:List Int} {b2x0:Int} {b2x1:List S_api_EdSheet} {b2x2:List S_api_EdEdge} {b2x3:List Int} {m3:List ((List Int)×Int)} {b4x0:List Int} {res:Bool} (h:F98 k b0x0 b2x0 b2x1 b2x2 b2x3 m3 b4x0=some res):HCall Try.prog 98 [vi k,rf 0,rf 1,rf 4] [vw b0x0,.cells [rf 2],sv b2x0 b2x1 b2x2 b2x3 3,mq m3,vw b4x0] (vb res) [vw b0x0,.cells [rf 2],sv b2x0 b2x1 b2x2 b2x3 3,mq m3,vw b4x0]:=by
 refine HCall.of_awpS tt_ok (N:=23) (fl:=5) Try.func98 rfl (by kernel_rfl) rfl rfl (Nat.le_of_ble_eq_true rfl) ?_
 unfold F98 at h
 refine GA [(0,vi k),(1,rf 0),(2,rf 1),(3,rf 4)] [vw b0x0,.cells [rf 2],sv b2x0 b2x1 b2x2 b2x3 3,mq m3,vw b4x0] ?_
 obtain ⟨x1,hx1,h⟩:=ob h
 obtain ⟨x2,hx2,h⟩:=ob h
 obtain ⟨x3,hx3,h⟩:=ob h
 obtain ⟨x4,hx4,h⟩:=ob h
 obtain ⟨x5,hx5,h⟩:=ob h
 obtain ⟨x6,hx6,h⟩:=ob h
 refine hd [5] [.no,.no,.vals [vi x2],.no,.no,.no,.no,.no,.no,.cells (cel66 x3),.no,.no,.no,.vals [vi x5],.call [(.agg [(.v (.string x3.Name)),(di x3.Weight),(di x3.Most)]),(di x5)] (.d (.agg [(di x6.Lo),(di x6.Hi)]))] 16 [5,8,21,22] [(5,vb (decide (x2>x6.Lo)))] [(0≤k∧k<((5:Nat):Int)),LoadOk (([]:List V)++b0x0.map vi) (0+k.toNat*1) 1 [vi x2],IX66 b2x1 k x3,(0≤k∧k<((5:Nat):Int)),LoadOk (([]:List V)++b4x0.map vi) (0+k.toNat*1) 1 [vi x5],PCall Try.prog 97 [(.agg [(.v (.string x3.Name)),(di x3.Weight),(di x3.Most)]),(di x5)] (.d (.agg [(di x6.Lo),(di x6.Hi)]))] (And.intro ((need_of hx1:0≤k∧k<((5:Nat):Int))) (And.intro (vecLoad (p:=0) (pre:=[]) (k:=0+k.toNat*1) rfl hx2 (by omega)) (And.intro (idxOk cel66_len hx3) (And.intro ((need_of hx4:0≤k∧k<((5:Nat):Int))) (And.intro (vecLoad (p:=0) (pre:=[]) (k:=0+k.toNat*1) rfl hx5 (by omega)) (ct97 hx6)))))) ?_
 obtain rfl:=oi h
 refine WB 5 [(5,vb (decide (x2>x6.Lo)))] ?_
 exact awp_ret (main_retS [0,1,2,3,4] (vb (decide (x2>x6.Lo))) (by kernel_rfl) (by kernel_rfl) (by kernel_rfl) (by kernel_rfl))
theorem ct96B {fuel:Nat} {rec95:Int→(List Int)→Int→(List S_api_EdSheet)→(List S_api_EdEdge)→(List Int)→(List ((List Int)×Int))→(List Int)→(List Int)→(List Int)→Option (Bool×(List Int)×(List Int)×(List Int))} (hrec95:∀(to_:Int) (b0x0:List Int) (b2x0:Int) (b2x1:List S_api_EdSheet) (b2x2:List S_api_EdEdge) (b2x3:List Int) (m3:List ((List Int)×Int)) (b4x0:List Int) (b5x0:List Int) (a7:List Int) (res:Bool×(List Int)×(List Int)×(List Int)),rec95 to_ b0x0 b2x0 b2x1 b2x2 b2x3 m3 b4x0 b5x0 a7=some res→HCall Try.prog 96 [vi to_,.fn (.func 98) [] [rf 0,rf 1,rf 4],rf 5,rf 1,rf 4,rf 6,rf 0,rf 8] [vw b0x0,.cells [rf 2],sv b2x0 b2x1 b2x2 b2x3 3,mq m3,vw b4x0,vw b5x0,.cells [.sl 1 7 0 a7.length],.fixed (a7.flatMap cel3),.cells [.fn (.func 96) [] [rf 5,rf 1,rf 4,rf 6,rf 0,rf 8]]] (vb res.1) [vw res.2.1,.cells [rf 2],sv b2x0 b2x1 b2x2 b2x3 3,mq m3,vw b4x0,vw res.2.2.1,.cells [.sl 1 7 0 res.2.2.2.length],.fixed (res.2.2.2.flatMap cel3),.cells [.fn (.func 96) [] [rf 5,rf 1,rf 4,rf 6,rf 0,rf 8]]]) {to_:Int} {b0x0:List Int} {b2x0:Int} {b2x1:List S_api_EdSheet} {b2x2:List S_api_EdEdge} {b2x3:List Int} {m3:List ((List Int)×Int)} {b4x0:List Int} {b5x0:List Int} {a7:List Int} {res:Bool×(List Int)×(List Int)×(List Int)} (h:B96 fuel rec95 to_ b0x0 b2x0 b2x1 b2x2 b2x3 m3 b4x0 b5x0 a7=some res):HCall Try.prog 96 [vi to_,.fn (.func 98) [] [rf 0,rf 1,rf 4],rf 5,rf 1,rf 4,rf 6,rf 0,rf 8] [vw b0x0,.cells [rf 2],sv b2x0 b2x1 b2x2 b2x3 3,mq m3,vw b4x0,vw b5x0,.cells [.sl 1 7 0 a7.length],.fixed (a7.flatMap cel3),.cells [.fn (.func 96) [] [rf 5,rf 1,rf 4,rf 6,rf 0,rf 8]]] (vb res.1) [vw res.2.1,.cells [rf 2],sv b2x0 b2x1 b2x2 b2x3 3,mq m3,vw b4x0,vw res.2.2.1,.cells [.sl 1 7 0 res.2.2.2.length],.fixed (res.2.2.2.flatMap cel3),.cells [.fn (.func 96) [] [rf 5,rf 1,rf 4,rf 6,rf 0,rf 8]]]:=by
 refine HCall.of_awpS tt_ok (N:=133) (fl:=9) Try.func96 rfl (by kernel_rfl) rfl rfl (Nat.le_of_ble_eq_true rfl) ?_
 unfold B96 at h
 let q1:O:=.cells [.fn (.func 96) [] [rf 5,rf 1,rf 4,rf 6,rf 0,rf 8]]
 let q2:Nat×V:=(1,.fn (.func 98) [] [rf 0,rf 1,rf 4])
 let q3:O:=sv b2x0 b2x1 b2x2 b2x3 3
 let q6:O:=.cells [rf 2]
 let q14:Nat×V:=(0,vi to_)
 refine GA [q14,q2,(2,rf 5),(3,rf 1),(4,rf 4),(5,rf 6),(6,rf 0),(7,rf 8)] [vw b0x0,q6,q3,mq m3,vw b4x0,vw b5x0,.cells [.sl 1 7 0 a7.length],.fixed (a7.flatMap cel3),q1] ?_
 obtain ⟨x1,hx1,h⟩:=ob h
 obtain ⟨x2,hx2,h⟩:=ob h
 let q18:=(b5x0.set (0+to_.toNat*1) 1)
 refine GB [.no,.no,.nums q18] [q14,q2,(2,rf 5),(3,rf 1),(4,rf 4),(5,rf 6),(6,rf 0),(7,rf 8)] [vw b0x0,q6,q3,mq m3,vw b4x0,.vec [] q18 [],.cells [.sl 1 7 0 a7.length],.fixed (a7.flatMap cel3),q1] [(0≤to_∧to_<((5:Nat):Int)),(([vi 1]:List V).length=1),StoreOk (([]:List V)++b5x0.map vi) (0+to_.toNat*1) [vi 1] (([]:List V)++(b5x0.set (0+to_.toNat*1) 1).map vi)] (And.intro ((need_of hx1:0≤to_∧to_<((5:Nat):Int))) (And.intro ((rfl:([vi 1]:List V).length=1)) (vecStore (p:=0) (pre:=[]) (k:=0+to_.toNat*1) rfl hx2 (by omega)))) ?_
 let q7:Nat×V:=(24,.d (L71 b2x2))
 let q11:Nat×V:=(25,vl b2x2)
 refine awp_seq (HA [q14,q2,(2,rf 5),(3,rf 1),(4,rf 4),(5,rf 6),(6,rf 0),(7,rf 8),q7,q11,(26,vi 0)] ?_)
 refine cuo h (fun (ro3:Bool×(List Int)×(List Int)×(List Int))=>[(10,vb ro3.1)]) (fun (ro3:Bool×(List Int)×(List Int)×(List Int))=>[vw ro3.2.1,q6,q3,mq m3,vw b4x0,vw ro3.2.2.1,.cells [.sl 1 7 0 ro3.2.2.2.length],.fixed (ro3.2.2.2.flatMap cel3),q1]) (fun (so3:(List Int)×(List Int)×(List Int))=>[]) (fun (so3:(List Int)×(List Int)×(List Int))=>[vw so3.1,q6,q3,mq m3,vw b4x0,vw so3.2.1,.cells [.sl 1 7 0 so3.2.2.length],.fixed (so3.2.2.flatMap cel3),q1]) (fun o3 h=>?_) (fun ro3 h=>?_) (fun so3 h=>?_)
 ·refine awp_selQ (WA 9 [q14,q2,(2,rf 5),(3,rf 1),(4,rf 4),(5,rf 6),(6,rf 0),(7,rf 8),q7,q11,(26,vi 0)] [vw b0x0,q6,q3,mq m3,vw b4x0,.vec [] q18 [],.cells [.sl 1 7 0 a7.length],.fixed (a7.flatMap cel3),q1] ?_)
  refine awp_block (awp_loop (n:=fuel) ?_)
  refine awpN_ind (fun n (c4:Int×(List Int)×(List Int)×(List Int))=>F96L1 rec95 to_ b2x0 b2x1 b2x2 b2x3 m3 b4x0 n c4) o3 (fun (c4:Int×(List Int)×(List Int)×(List Int))=>[q14,q2,(2,rf 5),(3,rf 1),(4,rf 4),(5,rf 6),(6,rf 0),(7,rf 8),q7,q11,(26,vi c4.1)]) (fun (c4:Int×(List Int)×(List Int)×(List Int))=>[vw c4.2.1,q6,q3,mq m3,vw b4x0,vw c4.2.2.1,.cells [.sl 1 7 0 c4.2.2.2.length],.fixed (c4.2.2.2.flatMap cel3),q1]) (fun _=>rfl) ?_ fuel (0,b0x0,q18,a7) h
  clear h
  intro n5 c4 h hrn5
  change F96L1 rec95 to_ b2x0 b2x1 b2x2 b2x3 m3 b4x0 (n5+1) c4=some o3 at h
  rw [F96L1] at h
  let q5:O:=.cells [.sl 1 7 0 c4.2.2.2.length]
  let q8:O:=.fixed (c4.2.2.2.flatMap cel3)
  let q15:Nat×V:=(26,vi c4.1)
  let q20:O:=vw c4.2.2.1
  refine GA [q14,q2,(2,rf 5),(3,rf 1),(4,rf 4),(5,rf 6),(6,rf 0),(7,rf 8),q7,q11,q15,(27,vb (decide (c4.1<(b2x2.length:Int))))] [vw c4.2.1,q6,q3,mq m3,vw b4x0,q20,q5,q8,q1] ?_
  refine awp_seq (cd h (fun hb6 h=>?_) (fun hb6 h=>?_))
  ·refine awp_skip ?_
   show awp ..
   refine awp_seq (awp_block ?_)
   obtain ⟨x7,hx7,h⟩:=ob h
   let q4:O:=.cells [vi x7.A,vi x7.B,.d (L74 x7.Points)]
   let q16:Nat×V:=(11,vi c4.1)
   refine GB [.no,.cells (cel71 x7)] [q14,q2,(2,rf 5),(3,rf 1),(4,rf 4),(5,rf 6),(6,rf 0),(7,rf 8),q16,(12,rf 9),q7,q11,q15] [vw c4.2.1,q6,q3,mq m3,vw b4x0,q20,q5,q8,q1,q4] [IX71 b2x2 c4.1 x7] (idxOk cel71_len hx7) ?_
   obtain ⟨x8,hx8,h⟩:=ob h
   obtain ⟨x9,hx9,h⟩:=ob h
   obtain ⟨x10,hx10,h⟩:=ob h
   obtain ⟨x11,hx11,h⟩:=ob h
   let q19:Nat×V:=(13,vi (w64 (x9-x11)))
   refine hd [0,1,2,3,4,5,6,7,11,12,13,24,25,26] [.no,.no,.no,.vals [vi x9],.no,.no,.no,.vals [vi x11]] 8 [0,1,2,3,4,5,6,7,11,12,13,24,25,26,34,38,39] [q14,q2,(2,rf 5),(3,rf 1),(4,rf 4),(5,rf 6),(6,rf 0),(7,rf 8),q16,(12,rf 9),q19,q7,q11,q15] [(0≤x7.A∧x7.A<((5:Nat):Int)),LoadOk (([]:List V)++b4x0.map vi) (0+x7.A.toNat*1) 1 [vi x9],(0≤x7.B∧x7.B<((5:Nat):Int)),LoadOk (([]:List V)++b4x0.map vi) (0+x7.B.toNat*1) 1 [vi x11]] (And.intro ((need_of hx8:0≤x7.A∧x7.A<((5:Nat):Int))) (And.intro (vecLoad (p:=0) (pre:=[]) (k:=0+x7.A.toNat*1) rfl hx9 (by omega)) (And.intro ((need_of hx10:0≤x7.B∧x7.B<((5:Nat):Int))) (vecLoad (p:=0) (pre:=[]) (k:=0+x7.B.toNat*1) rfl hx11 (by omega))))) ?_
   refine HA [q14,q2,(2,rf 5),(3,rf 1),(4,rf 4),(5,rf 6),(6,rf 0),(7,rf 8),q16,(12,rf 9),q19,(14,vi x7.B),(15,vi 1),q7,q11,q15] ?_
   refine awp_seq (HA [q14,q2,(2,rf 5),(3,rf 1),(4,rf 4),(5,rf 6),(6,rf 0),(7,rf 8),q16,(12,rf 9),q19,(14,vi x7.B),(15,vi 1),q7,q11,q15,(45,vb (x7.A != to_))] ?_)
   refine cuo h (fun (ro12:Bool×(List Int)×(List Int)×(List Int))=>[(10,vb ro12.1)]) (fun (ro12:Bool×(List Int)×(List Int)×(List Int))=>[vw ro12.2.1,q6,q3,mq m3,vw b4x0,vw ro12.2.2.1,.cells [.sl 1 7 0 ro12.2.2.2.length],.fixed (ro12.2.2.2.flatMap cel3),q1]) (fun (so12:Int×Int)=>[q14,q2,(2,rf 5),(3,rf 1),(4,rf 4),(5,rf 6),(6,rf 0),(7,rf 8),q16,(12,rf 9),q19,(14,vi so12.1),(15,vi so12.2),q7,q11,q15]) (fun (so12:Int×Int)=>[vw c4.2.1,q6,q3,mq m3,vw b4x0,q20,q5,q8,q1,q4]) (fun o12 h=>?_) (fun ro12 h=>?_) (fun so12 h=>?_)
   ·refine awp_selQ (cd h (fun hb13 h=>?_) (fun hb13 h=>?_))
    ·refine XA [q14,q2,(2,rf 5),(3,rf 1),(4,rf 4),(5,rf 6),(6,rf 0),(7,rf 8),q16,(12,rf 9),q19,(14,vi x7.A),(15,vi (-1)),q7,q11,q15] [vw c4.2.1,q6,q3,mq m3,vw b4x0,q20,q5,q8,q1,q4] ?_
     obtain rfl:=oi h
     exact gs [0,1,2,3,4,5,6,7,8,9] [0,1,2,3,4,5,6,7,11,12,13,14,15,24,25,26] OutQ.norm
    ·refine awp_skip ?_
     obtain rfl:=oi h
     exact gs [0,1,2,3,4,5,6,7,8,9] [0,1,2,3,4,5,6,7,11,12,13,14,15,24,25,26] OutQ.norm
   ·obtain rfl:=oi h
    exact gs [0,1,2,3,4,5,6,7,8] [10] OutQ.ret
   ·show awp ..
    obtain ⟨x14,hx14,h⟩:=ob h
    obtain ⟨x15,hx15,h⟩:=ob h
    obtain ⟨x16,hx16,h⟩:=ob h
    obtain ⟨x17,hx17,h⟩:=ob h
    refine sd [0,1,2,3,4,5,6,7,11,12,14,15,16,17,24,25,26] [.no,.no,.no,.no,.no,.no,.no,.vals [vi x15],.no,.no,.no,.no,.no,.no,.no,.no,.vals [vi x17]] 19 [0,1,2,3,4,5,6,7,11,12,14,15,16,17,24,25,26,65] [q14,q2,(2,rf 5),(3,rf 1),(4,rf 4),(5,rf 6),(6,rf 0),(7,rf 8),q16,(12,rf 9),(14,vi so12.1),(15,vi so12.2),(16,vb ((w64 (x9-x11))==x15)),(17,vb ((w64 (x9-x11))==x17)),q7,q11,q15] [vw c4.2.1,q6,q3,mq m3,vw b4x0,q20,q5,q8,q1,q4] [(0≤c4.1∧c4.1<((8:Nat):Int)),LoadOk (([vi b2x0,.d (L66 b2x1),.d (L71 b2x2)]:List V)++(b2x3.map vi++([.mp 3]:List V))) (3+c4.1.toNat*2) 1 [vi x15],(0≤c4.1∧c4.1<((8:Nat):Int)),LoadOk (([vi b2x0,.d (L66 b2x1),.d (L71 b2x2)]:List V)++(b2x3.map vi++([.mp 3]:List V))) (3+c4.1.toNat*2+1) 1 [vi x17]] (And.intro ((need_of hx14:0≤c4.1∧c4.1<((8:Nat):Int))) (And.intro (vecLoadT (p:=3) (pre:=[vi b2x0,.d (L66 b2x1),.d (L71 b2x2)]) (k:=0+c4.1.toNat*2) rfl hx15 (by omega)) (And.intro ((need_of hx16:0≤c4.1∧c4.1<((8:Nat):Int))) (vecLoadT (p:=3) (pre:=[vi b2x0,.d (L66 b2x1),.d (L71 b2x2)]) (k:=0+c4.1.toNat*2+1) rfl hx17 (by omega))))) ?_
    refine awp_seq ?_
    obtain ⟨x18,hx18,h⟩:=ob h
    obtain ⟨x19,hx19,h⟩:=ob h
    obtain ⟨x20,hx20,h⟩:=ob h
    obtain ⟨x21,hx21,h⟩:=ob h
    refine HB [.no,.no,.no,.no,.no,.no,.no,.no,.no,.no,.no,.no,.no,.vals [vi x19],.no,.no,.no,.no,.no,.no,.no,.no,.own,.no,.no,.no,.no,.vals (([(di x20)]:List D).map .d),.no,.own,.no,.no,.no,.no,.no,.no,.no,.own,.no,.no,.no,.no,.vals (([(di x21)]:List D).map .d),.no,.own] [q14,q2,(2,rf 5),(3,rf 1),(4,rf 4),(5,rf 6),(6,rf 0),(7,rf 8),q16,(14,vi so12.1),(15,vi so12.2),q7,q11,q15,(111,vb (F96e2 x7 to_ x19 so12 x9 x11 x15 x20 x17 x21))] [((x7.A != to_)=true→(x7.A != to_)=true),((x7.A != to_)=true→(x7.A != to_)=true),((x7.A != to_)=true→(x7.A != to_)=true),((x7.A != to_)=true→(x7.A != to_)=true),((!(cond (x7.A != to_) (x7.B != to_) false))=true→(!(cond (x7.A != to_) (x7.B != to_) false))=true),((!(cond (x7.A != to_) (x7.B != to_) false))=true→(0≤so12.1∧so12.1<((5:Nat):Int))),((!(cond (x7.A != to_) (x7.B != to_) false))=true→(!(cond (x7.A != to_) (x7.B != to_) false))=true),((!(cond (x7.A != to_) (x7.B != to_) false))=true→LoadOk (([]:List V)++c4.2.2.1.map vi) (0+so12.1.toNat*1) 1 [vi x19]),((!(cond (x7.A != to_) (x7.B != to_) false))=true→(!(cond (x7.A != to_) (x7.B != to_) false))=true),((cond (x7.A != to_) (x7.B != to_) false)=false→(!(cond (x7.A != to_) (x7.B != to_) false))=true),((!(cond (cond (x7.A != to_) (x7.B != to_) false) true (decide (x19>0))))=true→(!(cond (cond (x7.A != to_) (x7.B != to_) false) true (decide (x19>0))))=true),((!(cond (cond (x7.A != to_) (x7.B != to_) false) true (decide (x19>0))))=true→(!(cond (cond (x7.A != to_) (x7.B != to_) false) true (decide (x19>0))))=true),(((!(cond (cond (x7.A != to_) (x7.B != to_) false) true (decide (x19>0))))&&(decide (so12.2>0)))=true→((!(cond (cond (x7.A != to_) (x7.B != to_) false) true (decide (x19>0))))&&(decide (so12.2>0)))=true),((!(cond (cond (x7.A != to_) (x7.B != to_) false) true (decide (x19>0))))=true→(!(cond (cond (x7.A != to_) (x7.B != to_) false) true (decide (x19>0))))=true),((!(cond (cond (x7.A != to_) (x7.B != to_) false) true (decide (x19>0))))=true→(decide (so12.2>0))=true→((!(cond (cond (x7.A != to_) (x7.B != to_) false) true (decide (x19>0))))&&(decide (so12.2>0)))=true),((!(cond (cond (x7.A != to_) (x7.B != to_) false) true (decide (x19>0))))=true→(!(cond (cond (x7.A != to_) (x7.B != to_) false) true (decide (x19>0))))=true),(((!(cond (cond (x7.A != to_) (x7.B != to_) false) true (decide (x19>0))))&&(cond (decide (so12.2>0)) (!((w64 (x9-x11))==x15)) false))=true→((!(cond (cond (x7.A != to_) (x7.B != to_) false) true (decide (x19>0))))&&(cond (decide (so12.2>0)) (!((w64 (x9-x11))==x15)) false))=true),(((!(cond (cond (x7.A != to_) (x7.B != to_) false) true (decide (x19>0))))&&(cond (decide (so12.2>0)) (!((w64 (x9-x11))==x15)) false))=true→((!(cond (cond (x7.A != to_) (x7.B != to_) false) true (decide (x19>0))))&&(cond (decide (so12.2>0)) (!((w64 (x9-x11))==x15)) false))=true),(((!(cond (cond (x7.A != to_) (x7.B != to_) false) true (decide (x19>0))))&&(cond (decide (so12.2>0)) (!((w64 (x9-x11))==x15)) false))=true→(0≤c4.1∧c4.1<(c4.2.2.2.length:Int))),(((!(cond (cond (x7.A != to_) (x7.B != to_) false) true (decide (x19>0))))&&(cond (decide (so12.2>0)) (!((w64 (x9-x11))==x15)) false))=true→((!(cond (cond (x7.A != to_) (x7.B != to_) false) true (decide (x19>0))))&&(cond (decide (so12.2>0)) (!((w64 (x9-x11))==x15)) false))=true),(((!(cond (cond (x7.A != to_) (x7.B != to_) false) true (decide (x19>0))))&&(cond (decide (so12.2>0)) (!((w64 (x9-x11))==x15)) false))=true→LoadOk ((c4.2.2.2.flatMap cel3).map .d) (0+c4.1.toNat*1) 1 (([(di x20)]:List D).map .d)),(((!(cond (cond (x7.A != to_) (x7.B != to_) false) true (decide (x19>0))))&&(cond (decide (so12.2>0)) (!((w64 (x9-x11))==x15)) false))=true→((!(cond (cond (x7.A != to_) (x7.B != to_) false) true (decide (x19>0))))&&(cond (decide (so12.2>0)) (!((w64 (x9-x11))==x15)) false))=true),((!(cond (cond (x7.A != to_) (x7.B != to_) false) true (decide (x19>0))))=true→(!(cond (cond (x7.A != to_) (x7.B != to_) false) true (decide (x19>0))))=true),((!(cond (cond (x7.A != to_) (x7.B != to_) false) true (decide (x19>0))))=true→(cond (decide (so12.2>0)) (!((w64 (x9-x11))==x15)) false)=true→((!(cond (cond (x7.A != to_) (x7.B != to_) false) true (decide (x19>0))))&&(cond (decide (so12.2>0)) (!((w64 (x9-x11))==x15)) false))=true),((cond (cond (x7.A != to_) (x7.B != to_) false) true (decide (x19>0)))=false→(!(cond (cond (x7.A != to_) (x7.B != to_) false) true (decide (x19>0))))=true),((!(cond (cond (cond (x7.A != to_) (x7.B != to_) false) true (decide (x19>0))) true (cond (cond (decide (so12.2>0)) (!((w64 (x9-x11))==x15)) false) (decide (x20≥0)) false)))=true→(!(cond (cond (cond (x7.A != to_) (x7.B != to_) false) true (decide (x19>0))) true (cond (cond (decide (so12.2>0)) (!((w64 (x9-x11))==x15)) false) (decide (x20≥0)) false)))=true),((!(cond (cond (cond (x7.A != to_) (x7.B != to_) false) true (decide (x19>0))) true (cond (cond (decide (so12.2>0)) (!((w64 (x9-x11))==x15)) false) (decide (x20≥0)) false)))=true→(!(cond (cond (cond (x7.A != to_) (x7.B != to_) false) true (decide (x19>0))) true (cond (cond (decide (so12.2>0)) (!((w64 (x9-x11))==x15)) false) (decide (x20≥0)) false)))=true),(((!(cond (cond (cond (x7.A != to_) (x7.B != to_) false) true (decide (x19>0))) true (cond (cond (decide (so12.2>0)) (!((w64 (x9-x11))==x15)) false) (decide (x20≥0)) false)))&&(decide (so12.2<0)))=true→((!(cond (cond (cond (x7.A != to_) (x7.B != to_) false) true (decide (x19>0))) true (cond (cond (decide (so12.2>0)) (!((w64 (x9-x11))==x15)) false) (decide (x20≥0)) false)))&&(decide (so12.2<0)))=true),((!(cond (cond (cond (x7.A != to_) (x7.B != to_) false) true (decide (x19>0))) true (cond (cond (decide (so12.2>0)) (!((w64 (x9-x11))==x15)) false) (decide (x20≥0)) false)))=true→(!(cond (cond (cond (x7.A != to_) (x7.B != to_) false) true (decide (x19>0))) true (cond (cond (decide (so12.2>0)) (!((w64 (x9-x11))==x15)) false) (decide (x20≥0)) false)))=true),((!(cond (cond (cond (x7.A != to_) (x7.B != to_) false) true (decide (x19>0))) true (cond (cond (decide (so12.2>0)) (!((w64 (x9-x11))==x15)) false) (decide (x20≥0)) false)))=true→(decide (so12.2<0))=true→((!(cond (cond (cond (x7.A != to_) (x7.B != to_) false) true (decide (x19>0))) true (cond (cond (decide (so12.2>0)) (!((w64 (x9-x11))==x15)) false) (decide (x20≥0)) false)))&&(decide (so12.2<0)))=true),((!(cond (cond (cond (x7.A != to_) (x7.B != to_) false) true (decide (x19>0))) true (cond (cond (decide (so12.2>0)) (!((w64 (x9-x11))==x15)) false) (decide (x20≥0)) false)))=true→(!(cond (cond (cond (x7.A != to_) (x7.B != to_) false) true (decide (x19>0))) true (cond (cond (decide (so12.2>0)) (!((w64 (x9-x11))==x15)) false) (decide (x20≥0)) false)))=true),(((!(cond (cond (cond (x7.A != to_) (x7.B != to_) false) true (decide (x19>0))) true (cond (cond (decide (so12.2>0)) (!((w64 (x9-x11))==x15)) false) (decide (x20≥0)) false)))&&(cond (decide (so12.2<0)) (!((w64 (x9-x11))==x17)) false))=true→((!(cond (cond (cond (x7.A != to_) (x7.B != to_) false) true (decide (x19>0))) true (cond (cond (decide (so12.2>0)) (!((w64 (x9-x11))==x15)) false) (decide (x20≥0)) false)))&&(cond (decide (so12.2<0)) (!((w64 (x9-x11))==x17)) false))=true),(((!(cond (cond (cond (x7.A != to_) (x7.B != to_) false) true (decide (x19>0))) true (cond (cond (decide (so12.2>0)) (!((w64 (x9-x11))==x15)) false) (decide (x20≥0)) false)))&&(cond (decide (so12.2<0)) (!((w64 (x9-x11))==x17)) false))=true→((!(cond (cond (cond (x7.A != to_) (x7.B != to_) false) true (decide (x19>0))) true (cond (cond (decide (so12.2>0)) (!((w64 (x9-x11))==x15)) false) (decide (x20≥0)) false)))&&(cond (decide (so12.2<0)) (!((w64 (x9-x11))==x17)) false))=true),(((!(cond (cond (cond (x7.A != to_) (x7.B != to_) false) true (decide (x19>0))) true (cond (cond (decide (so12.2>0)) (!((w64 (x9-x11))==x15)) false) (decide (x20≥0)) false)))&&(cond (decide (so12.2<0)) (!((w64 (x9-x11))==x17)) false))=true→(0≤c4.1∧c4.1<(c4.2.2.2.length:Int))),(((!(cond (cond (cond (x7.A != to_) (x7.B != to_) false) true (decide (x19>0))) true (cond (cond (decide (so12.2>0)) (!((w64 (x9-x11))==x15)) false) (decide (x20≥0)) false)))&&(cond (decide (so12.2<0)) (!((w64 (x9-x11))==x17)) false))=true→((!(cond (cond (cond (x7.A != to_) (x7.B != to_) false) true (decide (x19>0))) true (cond (cond (decide (so12.2>0)) (!((w64 (x9-x11))==x15)) false) (decide (x20≥0)) false)))&&(cond (decide (so12.2<0)) (!((w64 (x9-x11))==x17)) false))=true),(((!(cond (cond (cond (x7.A != to_) (x7.B != to_) false) true (decide (x19>0))) true (cond (cond (decide (so12.2>0)) (!((w64 (x9-x11))==x15)) false) (decide (x20≥0)) false)))&&(cond (decide (so12.2<0)) (!((w64 (x9-x11))==x17)) false))=true→LoadOk ((c4.2.2.2.flatMap cel3).map .d) (0+c4.1.toNat*1) 1 (([(di x21)]:List D).map .d)),(((!(cond (cond (cond (x7.A != to_) (x7.B != to_) false) true (decide (x19>0))) true (cond (cond (decide (so12.2>0)) (!((w64 (x9-x11))==x15)) false) (decide (x20≥0)) false)))&&(cond (decide (so12.2<0)) (!((w64 (x9-x11))==x17)) false))=true→((!(cond (cond (cond (x7.A != to_) (x7.B != to_) false) true (decide (x19>0))) true (cond (cond (decide (so12.2>0)) (!((w64 (x9-x11))==x15)) false) (decide (x20≥0)) false)))&&(cond (decide (so12.2<0)) (!((w64 (x9-x11))==x17)) false))=true),((!(cond (cond (cond (x7.A != to_) (x7.B != to_) false) true (decide (x19>0))) true (cond (cond (decide (so12.2>0)) (!((w64 (x9-x11))==x15)) false) (decide (x20≥0)) false)))=true→(!(cond (cond (cond (x7.A != to_) (x7.B != to_) false) true (decide (x19>0))) true (cond (cond (decide (so12.2>0)) (!((w64 (x9-x11))==x15)) false) (decide (x20≥0)) false)))=true),((!(cond (cond (cond (x7.A != to_) (x7.B != to_) false) true (decide (x19>0))) true (cond (cond (decide (so12.2>0)) (!((w64 (x9-x11))==x15)) false) (decide (x20≥0)) false)))=true→(cond (decide (so12.2<0)) (!((w64 (x9-x11))==x17)) false)=true→((!(cond (cond (cond (x7.A != to_) (x7.B != to_) false) true (decide (x19>0))) true (cond (cond (decide (so12.2>0)) (!((w64 (x9-x11))==x15)) false) (decide (x20≥0)) false)))&&(cond (decide (so12.2<0)) (!((w64 (x9-x11))==x17)) false))=true),((cond (cond (cond (x7.A != to_) (x7.B != to_) false) true (decide (x19>0))) true (cond (cond (decide (so12.2>0)) (!((w64 (x9-x11))==x15)) false) (decide (x20≥0)) false))=false→(!(cond (cond (cond (x7.A != to_) (x7.B != to_) false) true (decide (x19>0))) true (cond (cond (decide (so12.2>0)) (!((w64 (x9-x11))==x15)) false) (decide (x20≥0)) false)))=true)] (And.intro (id) (And.intro (id) (And.intro (id) (And.intro (id) (And.intro (id) (And.intro ((fun hg=>(need_of (optG_of hx18 hg):0≤so12.1∧so12.1<((5:Nat):Int)))) (And.intro (id) (And.intro ((fun hg=>vecLoad (p:=0) (pre:=[]) (k:=0+so12.1.toNat*1) rfl (optG_of hx19 hg) (by omega))) (And.intro (id) (And.intro (not_of) (And.intro (id) (And.intro (id) (And.intro (id) (And.intro (id) (And.intro ((fun hg h1=>by first|exact hg|exact h1|(rw [hg,h1];rfl)|(simp only [hg,h1,Bool.not_true,Bool.not_false,Bool.and_self,Bool.true_and,Bool.and_true];done)|(simp only [Bool.and_eq_true] at hg;simp only [hg,h1,Bool.not_true,Bool.not_false,Bool.and_self,Bool.true_and,Bool.and_true];done)|simp_all)) (And.intro (id) (And.intro (id) (And.intro (id) (And.intro ((fun hg=>idx_bounds (optG_of hx20 hg))) (And.intro (id) (And.intro ((fun hg=>loadOk (j:=0) (es:=([(di x20)]:List D)) cel3_len (optG_of hx20 hg) rfl rfl rfl (Nat.le_of_ble_eq_true rfl))) (And.intro (id) (And.intro (id) (And.intro ((fun hg h1=>by first|exact hg|exact h1|(rw [hg,h1];rfl)|(simp only [hg,h1,Bool.not_true,Bool.not_false,Bool.and_self,Bool.true_and,Bool.and_true];done)|(simp only [Bool.and_eq_true] at hg;simp only [hg,h1,Bool.not_true,Bool.not_false,Bool.and_self,Bool.true_and,Bool.and_true];done)|simp_all)) (And.intro (not_of) (And.intro (id) (And.intro (id) (And.intro (id) (And.intro (id) (And.intro ((fun hg h1=>by first|exact hg|exact h1|(rw [hg,h1];rfl)|(simp only [hg,h1,Bool.not_true,Bool.not_false,Bool.and_self,Bool.true_and,Bool.and_true];done)|(simp only [Bool.and_eq_true] at hg;simp only [hg,h1,Bool.not_true,Bool.not_false,Bool.and_self,Bool.true_and,Bool.and_true];done)|simp_all)) (And.intro (id) (And.intro (id) (And.intro (id) (And.intro ((fun hg=>idx_bounds (optG_of hx21 hg))) (And.intro (id) (And.intro ((fun hg=>loadOk (j:=0) (es:=([(di x21)]:List D)) cel3_len (optG_of hx21 hg) rfl rfl rfl (Nat.le_of_ble_eq_true rfl))) (And.intro (id) (And.intro (id) (And.intro ((fun hg h1=>by first|exact hg|exact h1|(rw [hg,h1];rfl)|(simp only [hg,h1,Bool.not_true,Bool.not_false,Bool.and_self,Bool.true_and,Bool.and_true];done)|(simp only [Bool.and_eq_true] at hg;simp only [hg,h1,Bool.not_true,Bool.not_false,Bool.and_self,Bool.true_and,Bool.and_true];done)|simp_all)) (not_of)))))))))))))))))))))))))))))))))))))))) ?_
    refine cd h (fun hb22 h=>?_) (fun hb22 h=>?_)
    ·refine awp_exit ?_
     show awp ..
     refine XA [q14,q2,(2,rf 5),(3,rf 1),(4,rf 4),(5,rf 6),(6,rf 0),(7,rf 8),q7,q11,(26,vi (w64 (c4.1+1)))] [vw c4.2.1,q6,q3,mq m3,vw b4x0,q20,q5,q8,q1,q4] ?_
     exact gn 9 [0,1,2,3,4,5,6,7,24,25,26] (hrn5 _ h)
    ·refine awp_skip ?_
     show awp ..
     refine awp_seq ?_
     obtain ⟨x23,hx23,h⟩:=ob h
     refine GB [.no,.no,.hcall [(0,false),(1,false),(2,false),(3,false),(4,false)] (vb x23) [vw c4.2.1,q6,q3,mq m3,vw b4x0]] [q14,q2,(2,rf 5),(3,rf 1),(4,rf 4),(5,rf 6),(6,rf 0),(7,rf 8),q16,(14,vi so12.1),(15,vi so12.2),q7,q11,q15,(114,vb x23)] [vw c4.2.1,q6,q3,mq m3,vw b4x0,q20,q5,q8,q1,q4] [HCall Try.prog 98 [vi so12.1,rf 0,rf 1,rf 4] [vw c4.2.1,q6,q3,mq m3,vw b4x0] (vb x23) [vw c4.2.1,q6,q3,mq m3,vw b4x0]] (ct98 hx23) ?_
     refine cd h (fun hb24 h=>?_) (fun hb24 h=>?_)
     ·obtain ⟨x25,hx25,h⟩:=ob h
      obtain ⟨x26,hx26,h⟩:=ob h
      obtain ⟨x27,hx27,h⟩:=ob h
      obtain ⟨x28,hx28,h⟩:=ob h
      let q13:=(c4.2.1.set (0+so12.1.toNat*1) (w64 (x26-1)))
      refine XB [.no,.no,.vals [vi x26],.no,.no,.nums q13] [(5,rf 6),q16,(15,vi so12.2)] [.vec [] q13 [],q6,q3,mq m3,vw b4x0,q20,q5,q8,q1,q4] [(0≤so12.1∧so12.1<((5:Nat):Int)),LoadOk (([]:List V)++c4.2.1.map vi) (0+so12.1.toNat*1) 1 [vi x26],(0≤so12.1∧so12.1<((5:Nat):Int)),(([vi (w64 (x26-1))]:List V).length=1),StoreOk (([]:List V)++c4.2.1.map vi) (0+so12.1.toNat*1) [vi (w64 (x26-1))] (([]:List V)++(c4.2.1.set (0+so12.1.toNat*1) (w64 (x26-1))).map vi)] (And.intro ((need_of hx25:0≤so12.1∧so12.1<((5:Nat):Int))) (And.intro (vecLoad (p:=0) (pre:=[]) (k:=0+so12.1.toNat*1) rfl hx26 (by omega)) (And.intro ((need_of hx27:0≤so12.1∧so12.1<((5:Nat):Int))) (And.intro ((rfl:([vi (w64 (x26-1))]:List V).length=1)) (vecStore (p:=0) (pre:=[]) (k:=0+so12.1.toNat*1) rfl hx28 (by omega)))))) ?_
      show awp ..
      obtain ⟨x29,hx29,h⟩:=ob h
      obtain ⟨x30,hx30,h⟩:=ob h
      let q10:=(c4.2.2.2.set c4.1.toNat (w64 (x29+so12.2)))
      refine GB [.no,.no,.no,.vals (([(di x29)]:List D).map .d),.no,.no,.no,.cells (q10.flatMap cel3)] [] [.vec [] q13 [],q6,q3,mq m3,vw b4x0,q20,q5,.fixed (q10.flatMap cel3),q1,q4] [(0≤c4.1∧c4.1<(c4.2.2.2.length:Int)),LoadOk ((c4.2.2.2.flatMap cel3).map .d) (0+c4.1.toNat*1) 1 (([(di x29)]:List D).map .d),(0≤c4.1∧c4.1<(c4.2.2.2.length:Int)),StoreOk ((c4.2.2.2.flatMap cel3).map .d) (0+c4.1.toNat*1) (([(di (w64 (x29+so12.2)))]:List D).map .d) ((q10.flatMap cel3).map .d)] (And.intro (idx_bounds hx29) (And.intro (loadOk (j:=0) (es:=([(di x29)]:List D)) cel3_len hx29 rfl rfl rfl (Nat.le_of_ble_eq_true rfl)) (And.intro (idx_bounds hx30) (storeOk (j:=0) (us:=([(di (w64 (x29+so12.2)))]:List D)) (y:=(w64 (x29+so12.2))) cel3_len hx30 rfl rfl (Nat.le_of_ble_eq_true rfl))))) ?_
      refine awp_eq (T':=[]) (H':=[.vec [] (c4.2.1.set (0+so12.1.toNat*1) (w64 (x26-1))) [],.cells [rf 2],sv b2x0 b2x1 b2x2 b2x3 3,mq m3,vw b4x0,vw c4.2.2.1,.cells [.sl 1 7 0 (c4.2.2.2.set c4.1.toNat (w64 (x29+so12.2))).length],.fixed ((c4.2.2.2.set c4.1.toNat (w64 (x29+so12.2))).flatMap cel3),.cells [.fn (.func 96) [] [rf 5,rf 1,rf 4,rf 6,rf 0,rf 8]],.cells [vi x7.A,vi x7.B,.d (L74 x7.Points)]]) rfl (by first|(simp +zetaDelta only [List.length_set];done)|(simp +zetaDelta only [len_copy];done)|simp +zetaDelta only [List.length_set,len_copy]) ?_
      refine GA [(10,vb true)] [.vec [] q13 [],q6,q3,mq m3,vw b4x0,q20,.cells [.sl 1 7 0 q10.length],.fixed (q10.flatMap cel3),q1,q4] ?_
      obtain rfl:=oi h
      refine WB 10 [(10,vb true)] ?_
      exact awp_ret (gs [0,1,2,3,4,5,6,7,8] [10] OutQ.ret)
     ·obtain ⟨x31,hx31,h⟩:=ob h
      let q12:O:=.cells [.sl 1 7 0 x31.2.2.2.length]
      let q17:O:=.fixed (x31.2.2.2.flatMap cel3)
      refine GB [.no,.no,.no,.hcall [(0,false),(1,false),(2,false),(3,false),(4,false),(5,false),(6,false),(7,false),(8,false)] (vb x31.1) [vw x31.2.1,q6,q3,mq m3,vw b4x0,vw x31.2.2.1,q12,q17,q1]] [q14,q2,(2,rf 5),(3,rf 1),(4,rf 4),(5,rf 6),(6,rf 0),(7,rf 8),q16,(15,vi so12.2),q7,q11,q15,(124,vb (!x31.1))] [vw x31.2.1,q6,q3,mq m3,vw b4x0,vw x31.2.2.1,q12,q17,q1,q4] [HCall Try.prog 96 [vi so12.1,.fn (.func 98) [] [rf 0,rf 1,rf 4],rf 5,rf 1,rf 4,rf 6,rf 0,rf 8] [vw c4.2.1,q6,q3,mq m3,vw b4x0,q20,q5,q8,q1] (vb x31.1) [vw x31.2.1,q6,q3,mq m3,vw b4x0,vw x31.2.2.1,q12,q17,q1]] (hrec95 _ _ _ _ _ _ _ _ _ _ _ hx31) ?_
      refine cd h (fun hb32 h=>?_) (fun hb32 h=>?_)
      ·refine awp_exit ?_
       show awp ..
       refine XA [q14,q2,(2,rf 5),(3,rf 1),(4,rf 4),(5,rf 6),(6,rf 0),(7,rf 8),q7,q11,(26,vi (w64 (c4.1+1)))] [vw x31.2.1,q6,q3,mq m3,vw b4x0,vw x31.2.2.1,q12,q17,q1,q4] ?_
       exact gn 9 [0,1,2,3,4,5,6,7,24,25,26] (hrn5 _ h)
      ·refine awp_skip ?_
       show awp ..
       obtain ⟨x33,hx33,h⟩:=ob h
       obtain ⟨x34,hx34,h⟩:=ob h
       let q9:=(x31.2.2.2.set c4.1.toNat (w64 (x33+so12.2)))
       refine GB [.no,.no,.no,.vals (([(di x33)]:List D).map .d),.no,.no,.no,.cells (q9.flatMap cel3)] [] [vw x31.2.1,q6,q3,mq m3,vw b4x0,vw x31.2.2.1,q12,.fixed (q9.flatMap cel3),q1,q4] [(0≤c4.1∧c4.1<(x31.2.2.2.length:Int)),LoadOk ((x31.2.2.2.flatMap cel3).map .d) (0+c4.1.toNat*1) 1 (([(di x33)]:List D).map .d),(0≤c4.1∧c4.1<(x31.2.2.2.length:Int)),StoreOk ((x31.2.2.2.flatMap cel3).map .d) (0+c4.1.toNat*1) (([(di (w64 (x33+so12.2)))]:List D).map .d) ((q9.flatMap cel3).map .d)] (And.intro (idx_bounds hx33) (And.intro (loadOk (j:=0) (es:=([(di x33)]:List D)) cel3_len hx33 rfl rfl rfl (Nat.le_of_ble_eq_true rfl)) (And.intro (idx_bounds hx34) (storeOk (j:=0) (us:=([(di (w64 (x33+so12.2)))]:List D)) (y:=(w64 (x33+so12.2))) cel3_len hx34 rfl rfl (Nat.le_of_ble_eq_true rfl))))) ?_
       refine awp_eq (T':=[]) (H':=[vw x31.2.1,.cells [rf 2],sv b2x0 b2x1 b2x2 b2x3 3,mq m3,vw b4x0,vw x31.2.2.1,.cells [.sl 1 7 0 (x31.2.2.2.set c4.1.toNat (w64 (x33+so12.2))).length],.fixed ((x31.2.2.2.set c4.1.toNat (w64 (x33+so12.2))).flatMap cel3),.cells [.fn (.func 96) [] [rf 5,rf 1,rf 4,rf 6,rf 0,rf 8]],.cells [vi x7.A,vi x7.B,.d (L74 x7.Points)]]) rfl (by first|(simp +zetaDelta only [List.length_set];done)|(simp +zetaDelta only [len_copy];done)|simp +zetaDelta only [List.length_set,len_copy]) ?_
       refine GA [(10,vb true)] [vw x31.2.1,q6,q3,mq m3,vw b4x0,vw x31.2.2.1,.cells [.sl 1 7 0 q9.length],.fixed (q9.flatMap cel3),q1,q4] ?_
       obtain rfl:=oi h
       refine WB 10 [(10,vb true)] ?_
       exact awp_ret (gs [0,1,2,3,4,5,6,7,8] [10] OutQ.ret)
  ·refine awp_exit ?_
   obtain rfl:=oi h
   exact gs [0,1,2,3,4,5,6,7,8] [] OutQ.norm
 ·obtain rfl:=oi h
  exact (main_retS [0,1,2,3,4,5,6,7,8] (vb ro3.1) (by kernel_rfl) (by kernel_rfl) (by kernel_rfl) (by kernel_rfl))
 ·show awp ..
  refine GA [(10,vb false)] [vw so3.1,q6,q3,mq m3,vw b4x0,vw so3.2.1,.cells [.sl 1 7 0 so3.2.2.length],.fixed (so3.2.2.flatMap cel3),q1] ?_
  obtain rfl:=oi h
  refine WB 9 [(10,vb false)] ?_
  exact awp_ret (main_retS [0,1,2,3,4,5,6,7,8] (vb false) (by kernel_rfl) (by kernel_rfl) (by kernel_rfl) (by kernel_rfl))
theorem ct96:∀{fuel:Nat} {to_:Int} {b0x0:List Int} {b2x0:Int} {b2x1:List S_api_EdSheet} {b2x2:List S_api_EdEdge} {b2x3:List Int} {m3:List ((List Int)×Int)} {b4x0:List Int} {b5x0:List Int} {a7:List Int} {res:Bool×(List Int)×(List Int)×(List Int)},F96 fuel to_ b0x0 b2x0 b2x1 b2x2 b2x3 m3 b4x0 b5x0 a7=some res→HCall Try.prog 96 [vi to_,.fn (.func 98) [] [rf 0,rf 1,rf 4],rf 5,rf 1,rf 4,rf 6,rf 0,rf 8] [vw b0x0,.cells [rf 2],sv b2x0 b2x1 b2x2 b2x3 3,mq m3,vw b4x0,vw b5x0,.cells [.sl 1 7 0 a7.length],.fixed (a7.flatMap cel3),.cells [.fn (.func 96) [] [rf 5,rf 1,rf 4,rf 6,rf 0,rf 8]]] (vb res.1) [vw res.2.1,.cells [rf 2],sv b2x0 b2x1 b2x2 b2x3 3,mq m3,vw b4x0,vw res.2.2.1,.cells [.sl 1 7 0 res.2.2.2.length],.fixed (res.2.2.2.flatMap cel3),.cells [.fn (.func 96) [] [rf 5,rf 1,rf 4,rf 6,rf 0,rf 8]]]:=by
 intro fuel
 induction fuel with
 | zero=>intro _ _ _ _ _ _ _ _ _ _ _ h;exact absurd h (by simp [F96])
 | succ n ih=>intro _ _ _ _ _ _ _ _ _ _ _ h;exact ct96B (fun _ _ _ _ _ _ _ _ _ _ _ h=>ih h) h
theorem ct99  {k:Int} {b0x0:List Int} {b2x0:Int} {b2x1:List S_api_EdSheet} {b2x2:List S_api_EdEdge} {b2x3:List Int} {m3:List ((List Int)×Int)} {b4x0:List Int} {res:Bool} (h:F99 k b0x0 b2x0 b2x1 b2x2 b2x3 m3 b4x0=some res):HCall Try.prog 99 [vi k,rf 0,rf 1,rf 4] [vw b0x0,.cells [rf 2],sv b2x0 b2x1 b2x2 b2x3 3,mq m3,vw b4x0] (vb res) [vw b0x0,.cells [rf 2],sv b2x0 b2x1 b2x2 b2x3 3,mq m3,vw b4x0]:=by
 refine HCall.of_awpS tt_ok (N:=23) (fl:=5) Try.func99 rfl (by kernel_rfl) rfl rfl (Nat.le_of_ble_eq_true rfl) ?_
 unfold F99 at h
 refine GA [(0,vi k),(1,rf 0),(2,rf 1),(3,rf 4)] [vw b0x0,.cells [rf 2],sv b2x0 b2x1 b2x2 b2x3 3,mq m3,vw b4x0] ?_
 obtain ⟨x1,hx1,h⟩:=ob h
 obtain ⟨x2,hx2,h⟩:=ob h
 obtain ⟨x3,hx3,h⟩:=ob h
 obtain ⟨x4,hx4,h⟩:=ob h
 obtain ⟨x5,hx5,h⟩:=ob h
 obtain ⟨x6,hx6,h⟩:=ob h
 refine hd [5] [.no,.no,.vals [vi x2],.no,.no,.no,.no,.no,.no,.cells (cel66 x3),.no,.no,.no,.vals [vi x5],.call [(.agg [(.v (.string x3.Name)),(di x3.Weight),(di x3.Most)]),(di x5)] (.d (.agg [(di x6.Lo),(di x6.Hi)]))] 16 [5,8,21,22] [(5,vb (decide (x2>x6.Hi)))] [(0≤k∧k<((5:Nat):Int)),LoadOk (([]:List V)++b0x0.map vi) (0+k.toNat*1) 1 [vi x2],IX66 b2x1 k x3,(0≤k∧k<((5:Nat):Int)),LoadOk (([]:List V)++b4x0.map vi) (0+k.toNat*1) 1 [vi x5],PCall Try.prog 97 [(.agg [(.v (.string x3.Name)),(di x3.Weight),(di x3.Most)]),(di x5)] (.d (.agg [(di x6.Lo),(di x6.Hi)]))] (And.intro ((need_of hx1:0≤k∧k<((5:Nat):Int))) (And.intro (vecLoad (p:=0) (pre:=[]) (k:=0+k.toNat*1) rfl hx2 (by omega)) (And.intro (idxOk cel66_len hx3) (And.intro ((need_of hx4:0≤k∧k<((5:Nat):Int))) (And.intro (vecLoad (p:=0) (pre:=[]) (k:=0+k.toNat*1) rfl hx5 (by omega)) (ct97 hx6)))))) ?_
 obtain rfl:=oi h
 refine WB 5 [(5,vb (decide (x2>x6.Hi)))] ?_
 exact awp_ret (main_retS [0,1,2,3,4] (vb (decide (x2>x6.Hi))) (by kernel_rfl) (by kernel_rfl) (by kernel_rfl) (by kernel_rfl))
theorem ct96v1B {fuel:Nat} {rec97:Int→(List Int)→Int→(List S_api_EdSheet)→(List S_api_EdEdge)→(List Int)→(List ((List Int)×Int))→(List Int)→(List Int)→(List Int)→Option (Bool×(List Int)×(List Int)×(List Int))} (hrec97:∀(to_:Int) (b0x0:List Int) (b2x0:Int) (b2x1:List S_api_EdSheet) (b2x2:List S_api_EdEdge) (b2x3:List Int) (m3:List ((List Int)×Int)) (b4x0:List Int) (b5x0:List Int) (a7:List Int) (res:Bool×(List Int)×(List Int)×(List Int)),rec97 to_ b0x0 b2x0 b2x1 b2x2 b2x3 m3 b4x0 b5x0 a7=some res→HCall Try.prog 96 [vi to_,.fn (.func 99) [] [rf 0,rf 1,rf 4],rf 5,rf 1,rf 4,rf 6,rf 0,rf 8] [vw b0x0,.cells [rf 2],sv b2x0 b2x1 b2x2 b2x3 3,mq m3,vw b4x0,vw b5x0,.cells [.sl 1 7 0 a7.length],.fixed (a7.flatMap cel3),.cells [.fn (.func 96) [] [rf 5,rf 1,rf 4,rf 6,rf 0,rf 8]]] (vb res.1) [vw res.2.1,.cells [rf 2],sv b2x0 b2x1 b2x2 b2x3 3,mq m3,vw b4x0,vw res.2.2.1,.cells [.sl 1 7 0 res.2.2.2.length],.fixed (res.2.2.2.flatMap cel3),.cells [.fn (.func 96) [] [rf 5,rf 1,rf 4,rf 6,rf 0,rf 8]]]) {to_:Int} {b0x0:List Int} {b2x0:Int} {b2x1:List S_api_EdSheet} {b2x2:List S_api_EdEdge} {b2x3:List Int} {m3:List ((List Int)×Int)} {b4x0:List Int} {b5x0:List Int} {a7:List Int} {res:Bool×(List Int)×(List Int)×(List Int)} (h:B96v1 fuel rec97 to_ b0x0 b2x0 b2x1 b2x2 b2x3 m3 b4x0 b5x0 a7=some res):HCall Try.prog 96 [vi to_,.fn (.func 99) [] [rf 0,rf 1,rf 4],rf 5,rf 1,rf 4,rf 6,rf 0,rf 8] [vw b0x0,.cells [rf 2],sv b2x0 b2x1 b2x2 b2x3 3,mq m3,vw b4x0,vw b5x0,.cells [.sl 1 7 0 a7.length],.fixed (a7.flatMap cel3),.cells [.fn (.func 96) [] [rf 5,rf 1,rf 4,rf 6,rf 0,rf 8]]] (vb res.1) [vw res.2.1,.cells [rf 2],sv b2x0 b2x1 b2x2 b2x3 3,mq m3,vw b4x0,vw res.2.2.1,.cells [.sl 1 7 0 res.2.2.2.length],.fixed (res.2.2.2.flatMap cel3),.cells [.fn (.func 96) [] [rf 5,rf 1,rf 4,rf 6,rf 0,rf 8]]]:=by
 refine HCall.of_awpS tt_ok (N:=133) (fl:=9) Try.func96 rfl (by kernel_rfl) rfl rfl (Nat.le_of_ble_eq_true rfl) ?_
 unfold B96v1 at h
 let q1:O:=.cells [.fn (.func 96) [] [rf 5,rf 1,rf 4,rf 6,rf 0,rf 8]]
 let q2:Nat×V:=(1,.fn (.func 99) [] [rf 0,rf 1,rf 4])
 let q3:O:=sv b2x0 b2x1 b2x2 b2x3 3
 let q6:O:=.cells [rf 2]
 let q14:Nat×V:=(0,vi to_)
 refine GA [q14,q2,(2,rf 5),(3,rf 1),(4,rf 4),(5,rf 6),(6,rf 0),(7,rf 8)] [vw b0x0,q6,q3,mq m3,vw b4x0,vw b5x0,.cells [.sl 1 7 0 a7.length],.fixed (a7.flatMap cel3),q1] ?_
 obtain ⟨x1,hx1,h⟩:=ob h
 obtain ⟨x2,hx2,h⟩:=ob h
 let q18:=(b5x0.set (0+to_.toNat*1) 1)
 refine GB [.no,.no,.nums q18] [q14,q2,(2,rf 5),(3,rf 1),(4,rf 4),(5,rf 6),(6,rf 0),(7,rf 8)] [vw b0x0,q6,q3,mq m3,vw b4x0,.vec [] q18 [],.cells [.sl 1 7 0 a7.length],.fixed (a7.flatMap cel3),q1] [(0≤to_∧to_<((5:Nat):Int)),(([vi 1]:List V).length=1),StoreOk (([]:List V)++b5x0.map vi) (0+to_.toNat*1) [vi 1] (([]:List V)++(b5x0.set (0+to_.toNat*1) 1).map vi)] (And.intro ((need_of hx1:0≤to_∧to_<((5:Nat):Int))) (And.intro ((rfl:([vi 1]:List V).length=1)) (vecStore (p:=0) (pre:=[]) (k:=0+to_.toNat*1) rfl hx2 (by omega)))) ?_
 let q7:Nat×V:=(24,.d (L71 b2x2))
 let q11:Nat×V:=(25,vl b2x2)
 refine awp_seq (HA [q14,q2,(2,rf 5),(3,rf 1),(4,rf 4),(5,rf 6),(6,rf 0),(7,rf 8),q7,q11,(26,vi 0)] ?_)
 refine cuo h (fun (ro3:Bool×(List Int)×(List Int)×(List Int))=>[(10,vb ro3.1)]) (fun (ro3:Bool×(List Int)×(List Int)×(List Int))=>[vw ro3.2.1,q6,q3,mq m3,vw b4x0,vw ro3.2.2.1,.cells [.sl 1 7 0 ro3.2.2.2.length],.fixed (ro3.2.2.2.flatMap cel3),q1]) (fun (so3:(List Int)×(List Int)×(List Int))=>[]) (fun (so3:(List Int)×(List Int)×(List Int))=>[vw so3.1,q6,q3,mq m3,vw b4x0,vw so3.2.1,.cells [.sl 1 7 0 so3.2.2.length],.fixed (so3.2.2.flatMap cel3),q1]) (fun o3 h=>?_) (fun ro3 h=>?_) (fun so3 h=>?_)
 ·refine awp_selQ (WA 9 [q14,q2,(2,rf 5),(3,rf 1),(4,rf 4),(5,rf 6),(6,rf 0),(7,rf 8),q7,q11,(26,vi 0)] [vw b0x0,q6,q3,mq m3,vw b4x0,.vec [] q18 [],.cells [.sl 1 7 0 a7.length],.fixed (a7.flatMap cel3),q1] ?_)
  refine awp_block (awp_loop (n:=fuel) ?_)
  refine awpN_ind (fun n (c4:Int×(List Int)×(List Int)×(List Int))=>F96v1L1 rec97 to_ b2x0 b2x1 b2x2 b2x3 m3 b4x0 n c4) o3 (fun (c4:Int×(List Int)×(List Int)×(List Int))=>[q14,q2,(2,rf 5),(3,rf 1),(4,rf 4),(5,rf 6),(6,rf 0),(7,rf 8),q7,q11,(26,vi c4.1)]) (fun (c4:Int×(List Int)×(List Int)×(List Int))=>[vw c4.2.1,q6,q3,mq m3,vw b4x0,vw c4.2.2.1,.cells [.sl 1 7 0 c4.2.2.2.length],.fixed (c4.2.2.2.flatMap cel3),q1]) (fun _=>rfl) ?_ fuel (0,b0x0,q18,a7) h
  clear h
  intro n5 c4 h hrn5
  change F96v1L1 rec97 to_ b2x0 b2x1 b2x2 b2x3 m3 b4x0 (n5+1) c4=some o3 at h
  rw [F96v1L1] at h
  let q5:O:=.cells [.sl 1 7 0 c4.2.2.2.length]
  let q8:O:=.fixed (c4.2.2.2.flatMap cel3)
  let q15:Nat×V:=(26,vi c4.1)
  let q20:O:=vw c4.2.2.1
  refine GA [q14,q2,(2,rf 5),(3,rf 1),(4,rf 4),(5,rf 6),(6,rf 0),(7,rf 8),q7,q11,q15,(27,vb (decide (c4.1<(b2x2.length:Int))))] [vw c4.2.1,q6,q3,mq m3,vw b4x0,q20,q5,q8,q1] ?_
  refine awp_seq (cd h (fun hb6 h=>?_) (fun hb6 h=>?_))
  ·refine awp_skip ?_
   show awp ..
   refine awp_seq (awp_block ?_)
   obtain ⟨x7,hx7,h⟩:=ob h
   let q4:O:=.cells [vi x7.A,vi x7.B,.d (L74 x7.Points)]
   let q16:Nat×V:=(11,vi c4.1)
   refine GB [.no,.cells (cel71 x7)] [q14,q2,(2,rf 5),(3,rf 1),(4,rf 4),(5,rf 6),(6,rf 0),(7,rf 8),q16,(12,rf 9),q7,q11,q15] [vw c4.2.1,q6,q3,mq m3,vw b4x0,q20,q5,q8,q1,q4] [IX71 b2x2 c4.1 x7] (idxOk cel71_len hx7) ?_
   obtain ⟨x8,hx8,h⟩:=ob h
   obtain ⟨x9,hx9,h⟩:=ob h
   obtain ⟨x10,hx10,h⟩:=ob h
   obtain ⟨x11,hx11,h⟩:=ob h
   let q19:Nat×V:=(13,vi (w64 (x9-x11)))
   refine hd [0,1,2,3,4,5,6,7,11,12,13,24,25,26] [.no,.no,.no,.vals [vi x9],.no,.no,.no,.vals [vi x11]] 8 [0,1,2,3,4,5,6,7,11,12,13,24,25,26,34,38,39] [q14,q2,(2,rf 5),(3,rf 1),(4,rf 4),(5,rf 6),(6,rf 0),(7,rf 8),q16,(12,rf 9),q19,q7,q11,q15] [(0≤x7.A∧x7.A<((5:Nat):Int)),LoadOk (([]:List V)++b4x0.map vi) (0+x7.A.toNat*1) 1 [vi x9],(0≤x7.B∧x7.B<((5:Nat):Int)),LoadOk (([]:List V)++b4x0.map vi) (0+x7.B.toNat*1) 1 [vi x11]] (And.intro ((need_of hx8:0≤x7.A∧x7.A<((5:Nat):Int))) (And.intro (vecLoad (p:=0) (pre:=[]) (k:=0+x7.A.toNat*1) rfl hx9 (by omega)) (And.intro ((need_of hx10:0≤x7.B∧x7.B<((5:Nat):Int))) (vecLoad (p:=0) (pre:=[]) (k:=0+x7.B.toNat*1) rfl hx11 (by omega))))) ?_
   refine HA [q14,q2,(2,rf 5),(3,rf 1),(4,rf 4),(5,rf 6),(6,rf 0),(7,rf 8),q16,(12,rf 9),q19,(14,vi x7.B),(15,vi 1),q7,q11,q15] ?_
   refine awp_seq (HA [q14,q2,(2,rf 5),(3,rf 1),(4,rf 4),(5,rf 6),(6,rf 0),(7,rf 8),q16,(12,rf 9),q19,(14,vi x7.B),(15,vi 1),q7,q11,q15,(45,vb (x7.A != to_))] ?_)
   refine cuo h (fun (ro12:Bool×(List Int)×(List Int)×(List Int))=>[(10,vb ro12.1)]) (fun (ro12:Bool×(List Int)×(List Int)×(List Int))=>[vw ro12.2.1,q6,q3,mq m3,vw b4x0,vw ro12.2.2.1,.cells [.sl 1 7 0 ro12.2.2.2.length],.fixed (ro12.2.2.2.flatMap cel3),q1]) (fun (so12:Int×Int)=>[q14,q2,(2,rf 5),(3,rf 1),(4,rf 4),(5,rf 6),(6,rf 0),(7,rf 8),q16,(12,rf 9),q19,(14,vi so12.1),(15,vi so12.2),q7,q11,q15]) (fun (so12:Int×Int)=>[vw c4.2.1,q6,q3,mq m3,vw b4x0,q20,q5,q8,q1,q4]) (fun o12 h=>?_) (fun ro12 h=>?_) (fun so12 h=>?_)
   ·refine awp_selQ (cd h (fun hb13 h=>?_) (fun hb13 h=>?_))
    ·refine XA [q14,q2,(2,rf 5),(3,rf 1),(4,rf 4),(5,rf 6),(6,rf 0),(7,rf 8),q16,(12,rf 9),q19,(14,vi x7.A),(15,vi (-1)),q7,q11,q15] [vw c4.2.1,q6,q3,mq m3,vw b4x0,q20,q5,q8,q1,q4] ?_
     obtain rfl:=oi h
     exact gs [0,1,2,3,4,5,6,7,8,9] [0,1,2,3,4,5,6,7,11,12,13,14,15,24,25,26] OutQ.norm
    ·refine awp_skip ?_
     obtain rfl:=oi h
     exact gs [0,1,2,3,4,5,6,7,8,9] [0,1,2,3,4,5,6,7,11,12,13,14,15,24,25,26] OutQ.norm
   ·obtain rfl:=oi h
    exact gs [0,1,2,3,4,5,6,7,8] [10] OutQ.ret
   ·show awp ..
    obtain ⟨x14,hx14,h⟩:=ob h
    obtain ⟨x15,hx15,h⟩:=ob h
    obtain ⟨x16,hx16,h⟩:=ob h
    obtain ⟨x17,hx17,h⟩:=ob h
    refine sd [0,1,2,3,4,5,6,7,11,12,14,15,16,17,24,25,26] [.no,.no,.no,.no,.no,.no,.no,.vals [vi x15],.no,.no,.no,.no,.no,.no,.no,.no,.vals [vi x17]] 19 [0,1,2,3,4,5,6,7,11,12,14,15,16,17,24,25,26,65] [q14,q2,(2,rf 5),(3,rf 1),(4,rf 4),(5,rf 6),(6,rf 0),(7,rf 8),q16,(12,rf 9),(14,vi so12.1),(15,vi so12.2),(16,vb ((w64 (x9-x11))==x15)),(17,vb ((w64 (x9-x11))==x17)),q7,q11,q15] [vw c4.2.1,q6,q3,mq m3,vw b4x0,q20,q5,q8,q1,q4] [(0≤c4.1∧c4.1<((8:Nat):Int)),LoadOk (([vi b2x0,.d (L66 b2x1),.d (L71 b2x2)]:List V)++(b2x3.map vi++([.mp 3]:List V))) (3+c4.1.toNat*2) 1 [vi x15],(0≤c4.1∧c4.1<((8:Nat):Int)),LoadOk (([vi b2x0,.d (L66 b2x1),.d (L71 b2x2)]:List V)++(b2x3.map vi++([.mp 3]:List V))) (3+c4.1.toNat*2+1) 1 [vi x17]] (And.intro ((need_of hx14:0≤c4.1∧c4.1<((8:Nat):Int))) (And.intro (vecLoadT (p:=3) (pre:=[vi b2x0,.d (L66 b2x1),.d (L71 b2x2)]) (k:=0+c4.1.toNat*2) rfl hx15 (by omega)) (And.intro ((need_of hx16:0≤c4.1∧c4.1<((8:Nat):Int))) (vecLoadT (p:=3) (pre:=[vi b2x0,.d (L66 b2x1),.d (L71 b2x2)]) (k:=0+c4.1.toNat*2+1) rfl hx17 (by omega))))) ?_
    refine awp_seq ?_
    obtain ⟨x18,hx18,h⟩:=ob h
    obtain ⟨x19,hx19,h⟩:=ob h
    obtain ⟨x20,hx20,h⟩:=ob h
    obtain ⟨x21,hx21,h⟩:=ob h
    refine HB [.no,.no,.no,.no,.no,.no,.no,.no,.no,.no,.no,.no,.no,.vals [vi x19],.no,.no,.no,.no,.no,.no,.no,.no,.own,.no,.no,.no,.no,.vals (([(di x20)]:List D).map .d),.no,.own,.no,.no,.no,.no,.no,.no,.no,.own,.no,.no,.no,.no,.vals (([(di x21)]:List D).map .d),.no,.own] [q14,q2,(2,rf 5),(3,rf 1),(4,rf 4),(5,rf 6),(6,rf 0),(7,rf 8),q16,(14,vi so12.1),(15,vi so12.2),q7,q11,q15,(111,vb (F96v1e2 x7 to_ x19 so12 x9 x11 x15 x20 x17 x21))] [((x7.A != to_)=true→(x7.A != to_)=true),((x7.A != to_)=true→(x7.A != to_)=true),((x7.A != to_)=true→(x7.A != to_)=true),((x7.A != to_)=true→(x7.A != to_)=true),((!(cond (x7.A != to_) (x7.B != to_) false))=true→(!(cond (x7.A != to_) (x7.B != to_) false))=true),((!(cond (x7.A != to_) (x7.B != to_) false))=true→(0≤so12.1∧so12.1<((5:Nat):Int))),((!(cond (x7.A != to_) (x7.B != to_) false))=true→(!(cond (x7.A != to_) (x7.B != to_) false))=true),((!(cond (x7.A != to_) (x7.B != to_) false))=true→LoadOk (([]:List V)++c4.2.2.1.map vi) (0+so12.1.toNat*1) 1 [vi x19]),((!(cond (x7.A != to_) (x7.B != to_) false))=true→(!(cond (x7.A != to_) (x7.B != to_) false))=true),((cond (x7.A != to_) (x7.B != to_) false)=false→(!(cond (x7.A != to_) (x7.B != to_) false))=true),((!(cond (cond (x7.A != to_) (x7.B != to_) false) true (decide (x19>0))))=true→(!(cond (cond (x7.A != to_) (x7.B != to_) false) true (decide (x19>0))))=true),((!(cond (cond (x7.A != to_) (x7.B != to_) false) true (decide (x19>0))))=true→(!(cond (cond (x7.A != to_) (x7.B != to_) false) true (decide (x19>0))))=true),(((!(cond (cond (x7.A != to_) (x7.B != to_) false) true (decide (x19>0))))&&(decide (so12.2>0)))=true→((!(cond (cond (x7.A != to_) (x7.B != to_) false) true (decide (x19>0))))&&(decide (so12.2>0)))=true),((!(cond (cond (x7.A != to_) (x7.B != to_) false) true (decide (x19>0))))=true→(!(cond (cond (x7.A != to_) (x7.B != to_) false) true (decide (x19>0))))=true),((!(cond (cond (x7.A != to_) (x7.B != to_) false) true (decide (x19>0))))=true→(decide (so12.2>0))=true→((!(cond (cond (x7.A != to_) (x7.B != to_) false) true (decide (x19>0))))&&(decide (so12.2>0)))=true),((!(cond (cond (x7.A != to_) (x7.B != to_) false) true (decide (x19>0))))=true→(!(cond (cond (x7.A != to_) (x7.B != to_) false) true (decide (x19>0))))=true),(((!(cond (cond (x7.A != to_) (x7.B != to_) false) true (decide (x19>0))))&&(cond (decide (so12.2>0)) (!((w64 (x9-x11))==x15)) false))=true→((!(cond (cond (x7.A != to_) (x7.B != to_) false) true (decide (x19>0))))&&(cond (decide (so12.2>0)) (!((w64 (x9-x11))==x15)) false))=true),(((!(cond (cond (x7.A != to_) (x7.B != to_) false) true (decide (x19>0))))&&(cond (decide (so12.2>0)) (!((w64 (x9-x11))==x15)) false))=true→((!(cond (cond (x7.A != to_) (x7.B != to_) false) true (decide (x19>0))))&&(cond (decide (so12.2>0)) (!((w64 (x9-x11))==x15)) false))=true),(((!(cond (cond (x7.A != to_) (x7.B != to_) false) true (decide (x19>0))))&&(cond (decide (so12.2>0)) (!((w64 (x9-x11))==x15)) false))=true→(0≤c4.1∧c4.1<(c4.2.2.2.length:Int))),(((!(cond (cond (x7.A != to_) (x7.B != to_) false) true (decide (x19>0))))&&(cond (decide (so12.2>0)) (!((w64 (x9-x11))==x15)) false))=true→((!(cond (cond (x7.A != to_) (x7.B != to_) false) true (decide (x19>0))))&&(cond (decide (so12.2>0)) (!((w64 (x9-x11))==x15)) false))=true),(((!(cond (cond (x7.A != to_) (x7.B != to_) false) true (decide (x19>0))))&&(cond (decide (so12.2>0)) (!((w64 (x9-x11))==x15)) false))=true→LoadOk ((c4.2.2.2.flatMap cel3).map .d) (0+c4.1.toNat*1) 1 (([(di x20)]:List D).map .d)),(((!(cond (cond (x7.A != to_) (x7.B != to_) false) true (decide (x19>0))))&&(cond (decide (so12.2>0)) (!((w64 (x9-x11))==x15)) false))=true→((!(cond (cond (x7.A != to_) (x7.B != to_) false) true (decide (x19>0))))&&(cond (decide (so12.2>0)) (!((w64 (x9-x11))==x15)) false))=true),((!(cond (cond (x7.A != to_) (x7.B != to_) false) true (decide (x19>0))))=true→(!(cond (cond (x7.A != to_) (x7.B != to_) false) true (decide (x19>0))))=true),((!(cond (cond (x7.A != to_) (x7.B != to_) false) true (decide (x19>0))))=true→(cond (decide (so12.2>0)) (!((w64 (x9-x11))==x15)) false)=true→((!(cond (cond (x7.A != to_) (x7.B != to_) false) true (decide (x19>0))))&&(cond (decide (so12.2>0)) (!((w64 (x9-x11))==x15)) false))=true),((cond (cond (x7.A != to_) (x7.B != to_) false) true (decide (x19>0)))=false→(!(cond (cond (x7.A != to_) (x7.B != to_) false) true (decide (x19>0))))=true),((!(cond (cond (cond (x7.A != to_) (x7.B != to_) false) true (decide (x19>0))) true (cond (cond (decide (so12.2>0)) (!((w64 (x9-x11))==x15)) false) (decide (x20≥0)) false)))=true→(!(cond (cond (cond (x7.A != to_) (x7.B != to_) false) true (decide (x19>0))) true (cond (cond (decide (so12.2>0)) (!((w64 (x9-x11))==x15)) false) (decide (x20≥0)) false)))=true),((!(cond (cond (cond (x7.A != to_) (x7.B != to_) false) true (decide (x19>0))) true (cond (cond (decide (so12.2>0)) (!((w64 (x9-x11))==x15)) false) (decide (x20≥0)) false)))=true→(!(cond (cond (cond (x7.A != to_) (x7.B != to_) false) true (decide (x19>0))) true (cond (cond (decide (so12.2>0)) (!((w64 (x9-x11))==x15)) false) (decide (x20≥0)) false)))=true),(((!(cond (cond (cond (x7.A != to_) (x7.B != to_) false) true (decide (x19>0))) true (cond (cond (decide (so12.2>0)) (!((w64 (x9-x11))==x15)) false) (decide (x20≥0)) false)))&&(decide (so12.2<0)))=true→((!(cond (cond (cond (x7.A != to_) (x7.B != to_) false) true (decide (x19>0))) true (cond (cond (decide (so12.2>0)) (!((w64 (x9-x11))==x15)) false) (decide (x20≥0)) false)))&&(decide (so12.2<0)))=true),((!(cond (cond (cond (x7.A != to_) (x7.B != to_) false) true (decide (x19>0))) true (cond (cond (decide (so12.2>0)) (!((w64 (x9-x11))==x15)) false) (decide (x20≥0)) false)))=true→(!(cond (cond (cond (x7.A != to_) (x7.B != to_) false) true (decide (x19>0))) true (cond (cond (decide (so12.2>0)) (!((w64 (x9-x11))==x15)) false) (decide (x20≥0)) false)))=true),((!(cond (cond (cond (x7.A != to_) (x7.B != to_) false) true (decide (x19>0))) true (cond (cond (decide (so12.2>0)) (!((w64 (x9-x11))==x15)) false) (decide (x20≥0)) false)))=true→(decide (so12.2<0))=true→((!(cond (cond (cond (x7.A != to_) (x7.B != to_) false) true (decide (x19>0))) true (cond (cond (decide (so12.2>0)) (!((w64 (x9-x11))==x15)) false) (decide (x20≥0)) false)))&&(decide (so12.2<0)))=true),((!(cond (cond (cond (x7.A != to_) (x7.B != to_) false) true (decide (x19>0))) true (cond (cond (decide (so12.2>0)) (!((w64 (x9-x11))==x15)) false) (decide (x20≥0)) false)))=true→(!(cond (cond (cond (x7.A != to_) (x7.B != to_) false) true (decide (x19>0))) true (cond (cond (decide (so12.2>0)) (!((w64 (x9-x11))==x15)) false) (decide (x20≥0)) false)))=true),(((!(cond (cond (cond (x7.A != to_) (x7.B != to_) false) true (decide (x19>0))) true (cond (cond (decide (so12.2>0)) (!((w64 (x9-x11))==x15)) false) (decide (x20≥0)) false)))&&(cond (decide (so12.2<0)) (!((w64 (x9-x11))==x17)) false))=true→((!(cond (cond (cond (x7.A != to_) (x7.B != to_) false) true (decide (x19>0))) true (cond (cond (decide (so12.2>0)) (!((w64 (x9-x11))==x15)) false) (decide (x20≥0)) false)))&&(cond (decide (so12.2<0)) (!((w64 (x9-x11))==x17)) false))=true),(((!(cond (cond (cond (x7.A != to_) (x7.B != to_) false) true (decide (x19>0))) true (cond (cond (decide (so12.2>0)) (!((w64 (x9-x11))==x15)) false) (decide (x20≥0)) false)))&&(cond (decide (so12.2<0)) (!((w64 (x9-x11))==x17)) false))=true→((!(cond (cond (cond (x7.A != to_) (x7.B != to_) false) true (decide (x19>0))) true (cond (cond (decide (so12.2>0)) (!((w64 (x9-x11))==x15)) false) (decide (x20≥0)) false)))&&(cond (decide (so12.2<0)) (!((w64 (x9-x11))==x17)) false))=true),(((!(cond (cond (cond (x7.A != to_) (x7.B != to_) false) true (decide (x19>0))) true (cond (cond (decide (so12.2>0)) (!((w64 (x9-x11))==x15)) false) (decide (x20≥0)) false)))&&(cond (decide (so12.2<0)) (!((w64 (x9-x11))==x17)) false))=true→(0≤c4.1∧c4.1<(c4.2.2.2.length:Int))),(((!(cond (cond (cond (x7.A != to_) (x7.B != to_) false) true (decide (x19>0))) true (cond (cond (decide (so12.2>0)) (!((w64 (x9-x11))==x15)) false) (decide (x20≥0)) false)))&&(cond (decide (so12.2<0)) (!((w64 (x9-x11))==x17)) false))=true→((!(cond (cond (cond (x7.A != to_) (x7.B != to_) false) true (decide (x19>0))) true (cond (cond (decide (so12.2>0)) (!((w64 (x9-x11))==x15)) false) (decide (x20≥0)) false)))&&(cond (decide (so12.2<0)) (!((w64 (x9-x11))==x17)) false))=true),(((!(cond (cond (cond (x7.A != to_) (x7.B != to_) false) true (decide (x19>0))) true (cond (cond (decide (so12.2>0)) (!((w64 (x9-x11))==x15)) false) (decide (x20≥0)) false)))&&(cond (decide (so12.2<0)) (!((w64 (x9-x11))==x17)) false))=true→LoadOk ((c4.2.2.2.flatMap cel3).map .d) (0+c4.1.toNat*1) 1 (([(di x21)]:List D).map .d)),(((!(cond (cond (cond (x7.A != to_) (x7.B != to_) false) true (decide (x19>0))) true (cond (cond (decide (so12.2>0)) (!((w64 (x9-x11))==x15)) false) (decide (x20≥0)) false)))&&(cond (decide (so12.2<0)) (!((w64 (x9-x11))==x17)) false))=true→((!(cond (cond (cond (x7.A != to_) (x7.B != to_) false) true (decide (x19>0))) true (cond (cond (decide (so12.2>0)) (!((w64 (x9-x11))==x15)) false) (decide (x20≥0)) false)))&&(cond (decide (so12.2<0)) (!((w64 (x9-x11))==x17)) false))=true),((!(cond (cond (cond (x7.A != to_) (x7.B != to_) false) true (decide (x19>0))) true (cond (cond (decide (so12.2>0)) (!((w64 (x9-x11))==x15)) false) (decide (x20≥0)) false)))=true→(!(cond (cond (cond (x7.A != to_) (x7.B != to_) false) true (decide (x19>0))) true (cond (cond (decide (so12.2>0)) (!((w64 (x9-x11))==x15)) false) (decide (x20≥0)) false)))=true),((!(cond (cond (cond (x7.A != to_) (x7.B != to_) false) true (decide (x19>0))) true (cond (cond (decide (so12.2>0)) (!((w64 (x9-x11))==x15)) false) (decide (x20≥0)) false)))=true→(cond (decide (so12.2<0)) (!((w64 (x9-x11))==x17)) false)=true→((!(cond (cond (cond (x7.A != to_) (x7.B != to_) false) true (decide (x19>0))) true (cond (cond (decide (so12.2>0)) (!((w64 (x9-x11))==x15)) false) (decide (x20≥0)) false)))&&(cond (decide (so12.2<0)) (!((w64 (x9-x11))==x17)) false))=true),((cond (cond (cond (x7.A != to_) (x7.B != to_) false) true (decide (x19>0))) true (cond (cond (decide (so12.2>0)) (!((w64 (x9-x11))==x15)) false) (decide (x20≥0)) false))=false→(!(cond (cond (cond (x7.A != to_) (x7.B != to_) false) true (decide (x19>0))) true (cond (cond (decide (so12.2>0)) (!((w64 (x9-x11))==x15)) false) (decide (x20≥0)) false)))=true)] (And.intro (id) (And.intro (id) (And.intro (id) (And.intro (id) (And.intro (id) (And.intro ((fun hg=>(need_of (optG_of hx18 hg):0≤so12.1∧so12.1<((5:Nat):Int)))) (And.intro (id) (And.intro ((fun hg=>vecLoad (p:=0) (pre:=[]) (k:=0+so12.1.toNat*1) rfl (optG_of hx19 hg) (by omega))) (And.intro (id) (And.intro (not_of) (And.intro (id) (And.intro (id) (And.intro (id) (And.intro (id) (And.intro ((fun hg h1=>by first|exact hg|exact h1|(rw [hg,h1];rfl)|(simp only [hg,h1,Bool.not_true,Bool.not_false,Bool.and_self,Bool.true_and,Bool.and_true];done)|(simp only [Bool.and_eq_true] at hg;simp only [hg,h1,Bool.not_true,Bool.not_false,Bool.and_self,Bool.true_and,Bool.and_true];done)|simp_all)) (And.intro (id) (And.intro (id) (And.intro (id) (And.intro ((fun hg=>idx_bounds (optG_of hx20 hg))) (And.intro (id) (And.intro ((fun hg=>loadOk (j:=0) (es:=([(di x20)]:List D)) cel3_len (optG_of hx20 hg) rfl rfl rfl (Nat.le_of_ble_eq_true rfl))) (And.intro (id) (And.intro (id) (And.intro ((fun hg h1=>by first|exact hg|exact h1|(rw [hg,h1];rfl)|(simp only [hg,h1,Bool.not_true,Bool.not_false,Bool.and_self,Bool.true_and,Bool.and_true];done)|(simp only [Bool.and_eq_true] at hg;simp only [hg,h1,Bool.not_true,Bool.not_false,Bool.and_self,Bool.true_and,Bool.and_true];done)|simp_all)) (And.intro (not_of) (And.intro (id) (And.intro (id) (And.intro (id) (And.intro (id) (And.intro ((fun hg h1=>by first|exact hg|exact h1|(rw [hg,h1];rfl)|(simp only [hg,h1,Bool.not_true,Bool.not_false,Bool.and_self,Bool.true_and,Bool.and_true];done)|(simp only [Bool.and_eq_true] at hg;simp only [hg,h1,Bool.not_true,Bool.not_false,Bool.and_self,Bool.true_and,Bool.and_true];done)|simp_all)) (And.intro (id) (And.intro (id) (And.intro (id) (And.intro ((fun hg=>idx_bounds (optG_of hx21 hg))) (And.intro (id) (And.intro ((fun hg=>loadOk (j:=0) (es:=([(di x21)]:List D)) cel3_len (optG_of hx21 hg) rfl rfl rfl (Nat.le_of_ble_eq_true rfl))) (And.intro (id) (And.intro (id) (And.intro ((fun hg h1=>by first|exact hg|exact h1|(rw [hg,h1];rfl)|(simp only [hg,h1,Bool.not_true,Bool.not_false,Bool.and_self,Bool.true_and,Bool.and_true];done)|(simp only [Bool.and_eq_true] at hg;simp only [hg,h1,Bool.not_true,Bool.not_false,Bool.and_self,Bool.true_and,Bool.and_true];done)|simp_all)) (not_of)))))))))))))))))))))))))))))))))))))))) ?_
    refine cd h (fun hb22 h=>?_) (fun hb22 h=>?_)
    ·refine awp_exit ?_
     show awp ..
     refine XA [q14,q2,(2,rf 5),(3,rf 1),(4,rf 4),(5,rf 6),(6,rf 0),(7,rf 8),q7,q11,(26,vi (w64 (c4.1+1)))] [vw c4.2.1,q6,q3,mq m3,vw b4x0,q20,q5,q8,q1,q4] ?_
     exact gn 9 [0,1,2,3,4,5,6,7,24,25,26] (hrn5 _ h)
    ·refine awp_skip ?_
     show awp ..
     refine awp_seq ?_
     obtain ⟨x23,hx23,h⟩:=ob h
     refine GB [.no,.no,.hcall [(0,false),(1,false),(2,false),(3,false),(4,false)] (vb x23) [vw c4.2.1,q6,q3,mq m3,vw b4x0]] [q14,q2,(2,rf 5),(3,rf 1),(4,rf 4),(5,rf 6),(6,rf 0),(7,rf 8),q16,(14,vi so12.1),(15,vi so12.2),q7,q11,q15,(114,vb x23)] [vw c4.2.1,q6,q3,mq m3,vw b4x0,q20,q5,q8,q1,q4] [HCall Try.prog 99 [vi so12.1,rf 0,rf 1,rf 4] [vw c4.2.1,q6,q3,mq m3,vw b4x0] (vb x23) [vw c4.2.1,q6,q3,mq m3,vw b4x0]] (ct99 hx23) ?_
     refine cd h (fun hb24 h=>?_) (fun hb24 h=>?_)
     ·obtain ⟨x25,hx25,h⟩:=ob h
      obtain ⟨x26,hx26,h⟩:=ob h
      obtain ⟨x27,hx27,h⟩:=ob h
      obtain ⟨x28,hx28,h⟩:=ob h
      let q13:=(c4.2.1.set (0+so12.1.toNat*1) (w64 (x26-1)))
      refine XB [.no,.no,.vals [vi x26],.no,.no,.nums q13] [(5,rf 6),q16,(15,vi so12.2)] [.vec [] q13 [],q6,q3,mq m3,vw b4x0,q20,q5,q8,q1,q4] [(0≤so12.1∧so12.1<((5:Nat):Int)),LoadOk (([]:List V)++c4.2.1.map vi) (0+so12.1.toNat*1) 1 [vi x26],(0≤so12.1∧so12.1<((5:Nat):Int)),(([vi (w64 (x26-1))]:List V).length=1),StoreOk (([]:List V)++c4.2.1.map vi) (0+so12.1.toNat*1) [vi (w64 (x26-1))] (([]:List V)++(c4.2.1.set (0+so12.1.toNat*1) (w64 (x26-1))).map vi)] (And.intro ((need_of hx25:0≤so12.1∧so12.1<((5:Nat):Int))) (And.intro (vecLoad (p:=0) (pre:=[]) (k:=0+so12.1.toNat*1) rfl hx26 (by omega)) (And.intro ((need_of hx27:0≤so12.1∧so12.1<((5:Nat):Int))) (And.intro ((rfl:([vi (w64 (x26-1))]:List V).length=1)) (vecStore (p:=0) (pre:=[]) (k:=0+so12.1.toNat*1) rfl hx28 (by omega)))))) ?_
      show awp ..
      obtain ⟨x29,hx29,h⟩:=ob h
      obtain ⟨x30,hx30,h⟩:=ob h
      let q10:=(c4.2.2.2.set c4.1.toNat (w64 (x29+so12.2)))
      refine GB [.no,.no,.no,.vals (([(di x29)]:List D).map .d),.no,.no,.no,.cells (q10.flatMap cel3)] [] [.vec [] q13 [],q6,q3,mq m3,vw b4x0,q20,q5,.fixed (q10.flatMap cel3),q1,q4] [(0≤c4.1∧c4.1<(c4.2.2.2.length:Int)),LoadOk ((c4.2.2.2.flatMap cel3).map .d) (0+c4.1.toNat*1) 1 (([(di x29)]:List D).map .d),(0≤c4.1∧c4.1<(c4.2.2.2.length:Int)),StoreOk ((c4.2.2.2.flatMap cel3).map .d) (0+c4.1.toNat*1) (([(di (w64 (x29+so12.2)))]:List D).map .d) ((q10.flatMap cel3).map .d)] (And.intro (idx_bounds hx29) (And.intro (loadOk (j:=0) (es:=([(di x29)]:List D)) cel3_len hx29 rfl rfl rfl (Nat.le_of_ble_eq_true rfl)) (And.intro (idx_bounds hx30) (storeOk (j:=0) (us:=([(di (w64 (x29+so12.2)))]:List D)) (y:=(w64 (x29+so12.2))) cel3_len hx30 rfl rfl (Nat.le_of_ble_eq_true rfl))))) ?_
      refine awp_eq (T':=[]) (H':=[.vec [] (c4.2.1.set (0+so12.1.toNat*1) (w64 (x26-1))) [],.cells [rf 2],sv b2x0 b2x1 b2x2 b2x3 3,mq m3,vw b4x0,vw c4.2.2.1,.cells [.sl 1 7 0 (c4.2.2.2.set c4.1.toNat (w64 (x29+so12.2))).length],.fixed ((c4.2.2.2.set c4.1.toNat (w64 (x29+so12.2))).flatMap cel3),.cells [.fn (.func 96) [] [rf 5,rf 1,rf 4,rf 6,rf 0,rf 8]],.cells [vi x7.A,vi x7.B,.d (L74 x7.Points)]]) rfl (by first|(simp +zetaDelta only [List.length_set];done)|(simp +zetaDelta only [len_copy];done)|simp +zetaDelta only [List.length_set,len_copy]) ?_
      refine GA [(10,vb true)] [.vec [] q13 [],q6,q3,mq m3,vw b4x0,q20,.cells [.sl 1 7 0 q10.length],.fixed (q10.flatMap cel3),q1,q4] ?_
      obtain rfl:=oi h
      refine WB 10 [(10,vb true)] ?_
      exact awp_ret (gs [0,1,2,3,4,5,6,7,8] [10] OutQ.ret)
     ·obtain ⟨x31,hx31,h⟩:=ob h
      let q12:O:=.cells [.sl 1 7 0 x31.2.2.2.length]
      let q17:O:=.fixed (x31.2.2.2.flatMap cel3)
      refine GB [.no,.no,.no,.hcall [(0,false),(1,false),(2,false),(3,false),(4,false),(5,false),(6,false),(7,false),(8,false)] (vb x31.1) [vw x31.2.1,q6,q3,mq m3,vw b4x0,vw x31.2.2.1,q12,q17,q1]] [q14,q2,(2,rf 5),(3,rf 1),(4,rf 4),(5,rf 6),(6,rf 0),(7,rf 8),q16,(15,vi so12.2),q7,q11,q15,(124,vb (!x31.1))] [vw x31.2.1,q6,q3,mq m3,vw b4x0,vw x31.2.2.1,q12,q17,q1,q4] [HCall Try.prog 96 [vi so12.1,.fn (.func 99) [] [rf 0,rf 1,rf 4],rf 5,rf 1,rf 4,rf 6,rf 0,rf 8] [vw c4.2.1,q6,q3,mq m3,vw b4x0,q20,q5,q8,q1] (vb x31.1) [vw x31.2.1,q6,q3,mq m3,vw b4x0,vw x31.2.2.1,q12,q17,q1]] (hrec97 _ _ _ _ _ _ _ _ _ _ _ hx31) ?_
      refine cd h (fun hb32 h=>?_) (fun hb32 h=>?_)
      ·refine awp_exit ?_
       show awp ..
       refine XA [q14,q2,(2,rf 5),(3,rf 1),(4,rf 4),(5,rf 6),(6,rf 0),(7,rf 8),q7,q11,(26,vi (w64 (c4.1+1)))] [vw x31.2.1,q6,q3,mq m3,vw b4x0,vw x31.2.2.1,q12,q17,q1,q4] ?_
       exact gn 9 [0,1,2,3,4,5,6,7,24,25,26] (hrn5 _ h)
      ·refine awp_skip ?_
       show awp ..
       obtain ⟨x33,hx33,h⟩:=ob h
       obtain ⟨x34,hx34,h⟩:=ob h
       let q9:=(x31.2.2.2.set c4.1.toNat (w64 (x33+so12.2)))
       refine GB [.no,.no,.no,.vals (([(di x33)]:List D).map .d),.no,.no,.no,.cells (q9.flatMap cel3)] [] [vw x31.2.1,q6,q3,mq m3,vw b4x0,vw x31.2.2.1,q12,.fixed (q9.flatMap cel3),q1,q4] [(0≤c4.1∧c4.1<(x31.2.2.2.length:Int)),LoadOk ((x31.2.2.2.flatMap cel3).map .d) (0+c4.1.toNat*1) 1 (([(di x33)]:List D).map .d),(0≤c4.1∧c4.1<(x31.2.2.2.length:Int)),StoreOk ((x31.2.2.2.flatMap cel3).map .d) (0+c4.1.toNat*1) (([(di (w64 (x33+so12.2)))]:List D).map .d) ((q9.flatMap cel3).map .d)] (And.intro (idx_bounds hx33) (And.intro (loadOk (j:=0) (es:=([(di x33)]:List D)) cel3_len hx33 rfl rfl rfl (Nat.le_of_ble_eq_true rfl)) (And.intro (idx_bounds hx34) (storeOk (j:=0) (us:=([(di (w64 (x33+so12.2)))]:List D)) (y:=(w64 (x33+so12.2))) cel3_len hx34 rfl rfl (Nat.le_of_ble_eq_true rfl))))) ?_
       refine awp_eq (T':=[]) (H':=[vw x31.2.1,.cells [rf 2],sv b2x0 b2x1 b2x2 b2x3 3,mq m3,vw b4x0,vw x31.2.2.1,.cells [.sl 1 7 0 (x31.2.2.2.set c4.1.toNat (w64 (x33+so12.2))).length],.fixed ((x31.2.2.2.set c4.1.toNat (w64 (x33+so12.2))).flatMap cel3),.cells [.fn (.func 96) [] [rf 5,rf 1,rf 4,rf 6,rf 0,rf 8]],.cells [vi x7.A,vi x7.B,.d (L74 x7.Points)]]) rfl (by first|(simp +zetaDelta only [List.length_set];done)|(simp +zetaDelta only [len_copy];done)|simp +zetaDelta only [List.length_set,len_copy]) ?_
       refine GA [(10,vb true)] [vw x31.2.1,q6,q3,mq m3,vw b4x0,vw x31.2.2.1,.cells [.sl 1 7 0 q9.length],.fixed (q9.flatMap cel3),q1,q4] ?_
       obtain rfl:=oi h
       refine WB 10 [(10,vb true)] ?_
       exact awp_ret (gs [0,1,2,3,4,5,6,7,8] [10] OutQ.ret)
  ·refine awp_exit ?_
   obtain rfl:=oi h
   exact gs [0,1,2,3,4,5,6,7,8] [] OutQ.norm
 ·obtain rfl:=oi h
  exact (main_retS [0,1,2,3,4,5,6,7,8] (vb ro3.1) (by kernel_rfl) (by kernel_rfl) (by kernel_rfl) (by kernel_rfl))
 ·show awp ..
  refine GA [(10,vb false)] [vw so3.1,q6,q3,mq m3,vw b4x0,vw so3.2.1,.cells [.sl 1 7 0 so3.2.2.length],.fixed (so3.2.2.flatMap cel3),q1] ?_
  obtain rfl:=oi h
  refine WB 9 [(10,vb false)] ?_
  exact awp_ret (main_retS [0,1,2,3,4,5,6,7,8] (vb false) (by kernel_rfl) (by kernel_rfl) (by kernel_rfl) (by kernel_rfl))
theorem ct96v1:∀{fuel:Nat} {to_:Int} {b0x0:List Int} {b2x0:Int} {b2x1:List S_api_EdSheet} {b2x2:List S_api_EdEdge} {b2x3:List Int} {m3:List ((List Int)×Int)} {b4x0:List Int} {b5x0:List Int} {a7:List Int} {res:Bool×(List Int)×(List Int)×(List Int)},F96v1 fuel to_ b0x0 b2x0 b2x1 b2x2 b2x3 m3 b4x0 b5x0 a7=some res→HCall Try.prog 96 [vi to_,.fn (.func 99) [] [rf 0,rf 1,rf 4],rf 5,rf 1,rf 4,rf 6,rf 0,rf 8] [vw b0x0,.cells [rf 2],sv b2x0 b2x1 b2x2 b2x3 3,mq m3,vw b4x0,vw b5x0,.cells [.sl 1 7 0 a7.length],.fixed (a7.flatMap cel3),.cells [.fn (.func 96) [] [rf 5,rf 1,rf 4,rf 6,rf 0,rf 8]]] (vb res.1) [vw res.2.1,.cells [rf 2],sv b2x0 b2x1 b2x2 b2x3 3,mq m3,vw b4x0,vw res.2.2.1,.cells [.sl 1 7 0 res.2.2.2.length],.fixed (res.2.2.2.flatMap cel3),.cells [.fn (.func 96) [] [rf 5,rf 1,rf 4,rf 6,rf 0,rf 8]]]:=by
 intro fuel
 induction fuel with
 | zero=>intro _ _ _ _ _ _ _ _ _ _ _ h;exact absurd h (by simp [F96v1])
 | succ n ih=>intro _ _ _ _ _ _ _ _ _ _ _ h;exact ct96v1B (fun _ _ _ _ _ _ _ _ _ _ _ h=>ih h) h
theorem ct78 {fuel:Nat}  {p_x:(List Int)} {b0x0:Int} {b0x1:List S_api_EdSheet} {b0x2:List S_api_EdEdge} {b0x3:List Int} {m1:List ((List Int)×Int)} {a2:List Int} {res:(List Int)} (h:F78 fuel p_x b0x0 b0x1 b0x2 b0x3 m1 a2=some res):HCall Try.prog 78 [rf 0,.d (.agg (p_x.map di0)),.sl 1 2 0 a2.length] [sv b0x0 b0x1 b0x2 b0x3 1,mq m1,.fixed (a2.flatMap cel3)] (.tup []) [sv b0x0 b0x1 b0x2 b0x3 1,mq m1,.fixed (res.flatMap cel3)]:=by
 refine HCall.of_awpS tt_ok (N:=81) (fl:=3) Try.func78 rfl (by kernel_rfl) rfl rfl (Nat.le_of_ble_eq_true rfl) ?_
 unfold F78 at h
 let q2:O:=sv b0x0 b0x1 b0x2 b0x3 1
 let q6:O:=.cells [rf 0]
 let q10:O:=.cells [.sl 1 2 0 a2.length]
 let q12:O:=.fixed (a2.flatMap cel3)
 refine GA [(3,rf 3),(4,rf 4),(5,rf 5)] [q2,mq m1,q12,q6,.cells ((p_x.map di0).map .d),q10] ?_
 refine awp_vec 4 ((p_x.map di0).map .d) [] p_x [] [q2,mq m1,q12,q6,vw p_x,q10] (by kernel_rfl) (map_dd _) (by kernel_rfl) ?_
 let q3:=(List.replicate 5 (0:Int))
 refine GA [(3,rf 3),(4,rf 4),(5,rf 5),(6,rf 6)] [q2,mq m1,q12,q6,vw p_x,q10,.cells (q3.map vi)] ?_
 let q14:O:=.vec [] q3 []
 refine awp_vec 6 (q3.map vi) [] q3 [] [q2,mq m1,q12,q6,vw p_x,q10,q14] (by kernel_rfl) rfl (by kernel_rfl) ?_
 refine GA [(3,rf 3),(4,rf 4),(5,rf 5),(6,rf 6),(7,rf 7)] [q2,mq m1,q12,q6,vw p_x,q10,q14,.cells (q3.map vi)] ?_
 refine awp_vec 7 (q3.map vi) [] q3 [] [q2,mq m1,q12,q6,vw p_x,q10,q14,q14] (by kernel_rfl) rfl (by kernel_rfl) ?_
 refine GA [(3,rf 3),(4,rf 4),(5,rf 5),(6,rf 6),(7,rf 7),(8,rf 8)] [q2,mq m1,q12,q6,vw p_x,q10,q14,q14,.cells [.d (.v (.nilFunc))]] ?_
 let q1:O:=.cells [.fn (.func 96) [] [rf 7,rf 3,rf 4,rf 5,rf 6,rf 8]]
 refine GA [(3,rf 3),(4,rf 4),(6,rf 6),(7,rf 7),(8,rf 8)] [q2,mq m1,q12,q6,vw p_x,q10,q14,q14,q1] ?_
 let q13:Nat×V:=(19,.d (L66 b0x1))
 let q20:Nat×V:=(20,vl b0x1)
 refine awp_seq (HA [(3,rf 3),(4,rf 4),(6,rf 6),(7,rf 7),(8,rf 8),q13,q20,(21,vi 0)] ?_)
 refine cuo h (fun (ro1:(List Int))=>[]) (fun (ro1:(List Int))=>[q2,mq m1,.fixed (ro1.flatMap cel3)]) (fun (so1:(List Int)×(List Int)×(List Int))=>[(3,rf 3),(4,rf 4),(6,rf 6),(7,rf 7),(8,rf 8)]) (fun (so1:(List Int)×(List Int)×(List Int))=>[q2,mq m1,.fixed (so1.1.flatMap cel3),q6,vw p_x,.cells [.sl 1 2 0 so1.1.length],vw so1.2.1,vw so1.2.2,q1]) (fun o1 h=>?_) (fun ro1 h=>?_) (fun so1 h=>?_)
 ·refine awp_selQ (WA 9 [(3,rf 3),(4,rf 4),(6,rf 6),(7,rf 7),(8,rf 8),q13,q20,(21,vi 0)] [q2,mq m1,q12,q6,vw p_x,q10,q14,q14,q1] ?_)
  refine awp_block (awp_loop (n:=fuel) ?_)
  refine awpN_ind (fun n (c2:Int×(List Int)×(List Int)×(List Int))=>F78L1 fuel p_x b0x0 b0x1 b0x2 b0x3 m1 n c2) o1 (fun (c2:Int×(List Int)×(List Int)×(List Int))=>[(3,rf 3),(4,rf 4),(6,rf 6),(7,rf 7),(8,rf 8),q13,q20,(21,vi c2.1)]) (fun (c2:Int×(List Int)×(List Int)×(List Int))=>[q2,mq m1,.fixed (c2.2.1.flatMap cel3),q6,vw p_x,.cells [.sl 1 2 0 c2.2.1.length],vw c2.2.2.1,vw c2.2.2.2,q1]) (fun _=>rfl) ?_ fuel (0,a2,q3,q3) h
  clear h
  intro n3 c2 h hrn3
  change F78L1 fuel p_x b0x0 b0x1 b0x2 b0x3 m1 (n3+1) c2=some o1 at h
  rw [F78L1] at h
  let q25:O:=.cells [.sl 1 2 0 c2.2.1.length]
  refine GA [(3,rf 3),(4,rf 4),(6,rf 6),(7,rf 7),(8,rf 8),q13,q20,(21,vi c2.1),(22,vb (decide (c2.1<(b0x1.length:Int))))] [q2,mq m1,.fixed (c2.2.1.flatMap cel3),q6,vw p_x,q25,vw c2.2.2.1,vw c2.2.2.2,q1] ?_
  refine awp_seq (cd h (fun hb4 h=>?_) (fun hb4 h=>?_))
  ·refine awp_skip ?_
   show awp ..
   refine awp_seq (awp_block ?_)
   obtain ⟨x5,hx5,h⟩:=ob h
   let q4:O:=.cells [.d (.v (.string x5.Name)),vi x5.Weight,vi x5.Most]
   let q5:St:=[(3,rf 3),(4,rf 4),(6,rf 6),(7,rf 7),(8,rf 8),(9,vi c2.1),(10,rf 9),q13,q20,(21,vi c2.1)]
   refine GB [.no,.cells (cel66 x5)] q5 [q2,mq m1,.fixed (c2.2.1.flatMap cel3),q6,vw p_x,q25,vw c2.2.2.1,vw c2.2.2.2,q1,q4] [IX66 b0x1 c2.1 x5] (idxOk cel66_len hx5) ?_
   refine cuo h (fun (ro6:(List Int))=>[]) (fun (ro6:(List Int))=>[q2,mq m1,.fixed (ro6.flatMap cel3)]) (fun (so6:(List Int)×(List Int)×(List Int))=>[(3,rf 3),(4,rf 4),(6,rf 6),(7,rf 7),(8,rf 8),q13,q20,(21,vi c2.1)]) (fun (so6:(List Int)×(List Int)×(List Int))=>[q2,mq m1,.fixed (so6.1.flatMap cel3),q6,vw p_x,.cells [.sl 1 2 0 so6.1.length],vw so6.2.1,vw so6.2.2,q1,q4]) (fun o6 h=>?_) (fun ro6 h=>?_) (fun so6 h=>?_)
   ·refine awp_selQ (WA 10 q5 [q2,mq m1,.fixed (c2.2.1.flatMap cel3),q6,vw p_x,q25,vw c2.2.2.1,vw c2.2.2.2,q1,q4] ?_)
    refine awp_block (awp_loop (n:=fuel) ?_)
    refine awpN_ind (fun n (c7:(List Int)×(List Int)×(List Int))=>F78L2 fuel p_x b0x0 b0x1 b0x2 b0x3 m1 c2 x5 n c7) o6 (fun (c7:(List Int)×(List Int)×(List Int))=>[(3,rf 3),(4,rf 4),(6,rf 6),(7,rf 7),(8,rf 8),(9,vi c2.1),(10,rf 9),q13,q20,(21,vi c2.1)]) (fun (c7:(List Int)×(List Int)×(List Int))=>[q2,mq m1,.fixed (c7.1.flatMap cel3),q6,vw p_x,.cells [.sl 1 2 0 c7.1.length],vw c7.2.1,vw c7.2.2,q1,q4]) (fun _=>rfl) ?_ fuel (c2.2.1,c2.2.2.1,c2.2.2.2) h
    clear h
    intro n8 c7 h hrn8
    change F78L2 fuel p_x b0x0 b0x1 b0x2 b0x3 m1 c2 x5 (n8+1) c7=some o6 at h
    rw [F78L2] at h
    refine awp_seq ?_
    obtain ⟨x9,hx9,h⟩:=ob h
    obtain ⟨x10,hx10,h⟩:=ob h
    obtain ⟨x11,hx11,h⟩:=ob h
    obtain ⟨x12,hx12,h⟩:=ob h
    obtain ⟨x13,hx13,h⟩:=ob h
    refine sd [3,4,6,7,8,9,10,19,20,21,35] [.no,.no,.vals [vi x10],.no,.no,.no,.vals [vi x12],.call [(.agg [(.v (.string x5.Name)),(di x5.Weight),(di x5.Most)]),(di x12)] (.d (.agg [(di x13.Lo),(di x13.Hi)]))] 9 [3,4,6,7,8,9,10,19,20,21,28,34,35] [(3,rf 3),(4,rf 4),(6,rf 6),(7,rf 7),(8,rf 8),(9,vi c2.1),(10,rf 9),q13,q20,(21,vi c2.1),(35,vb (decide (x10<x13.Lo)))] [q2,mq m1,.fixed (c7.1.flatMap cel3),q6,vw p_x,.cells [.sl 1 2 0 c7.1.length],vw c7.2.1,vw c7.2.2,q1,q4] [(0≤c2.1∧c2.1<((5:Nat):Int)),LoadOk (([]:List V)++c7.2.1.map vi) (0+c2.1.toNat*1) 1 [vi x10],(0≤c2.1∧c2.1<((5:Nat):Int)),LoadOk (([]:List V)++p_x.map vi) (0+c2.1.toNat*1) 1 [vi x12],PCall Try.prog 97 [(.agg [(.v (.string x5.Name)),(di x5.Weight),(di x5.Most)]),(di x12)] (.d (.agg [(di x13.Lo),(di x13.Hi)]))] (And.intro ((need_of hx9:0≤c2.1∧c2.1<((5:Nat):Int))) (And.intro (vecLoad (p:=0) (pre:=[]) (k:=0+c2.1.toNat*1) rfl hx10 (by omega)) (And.intro ((need_of hx11:0≤c2.1∧c2.1<((5:Nat):Int))) (And.intro (vecLoad (p:=0) (pre:=[]) (k:=0+c2.1.toNat*1) rfl hx12 (by omega)) (ct97 hx13))))) ?_
    refine cd h (fun hb14 h=>?_) (fun hb14 h=>?_)
    ·refine awp_skip ?_
     show awp ..
     refine awp_block ?_
     obtain ⟨x15,hx15,h⟩:=ob h
     obtain ⟨x16,hx16,h⟩:=ob h
     refine GB [.no,.nums q3] q5 [q2,mq m1,.fixed (c7.1.flatMap cel3),q6,vw p_x,.cells [.sl 1 2 0 c7.1.length],vw c7.2.1,q14,q1,q4] [(((((List.replicate 5 (0:Int)).map di0).map V.d)).length=5),StoreOk (c7.2.2.map vi) 0 (((List.replicate 5 (0:Int)).map di0).map V.d) ((List.replicate 5 (0:Int)).map vi)] (And.intro ((by rw [map_dd];exact (List.length_map _).trans (need_of hx15))) ((by rw [map_dd];exact vecStores (n:=5) ((List.length_map _).trans (need_of hx16)) (need_of hx15)))) ?_
     refine awp_seq ?_
     obtain ⟨x17,hx17,h⟩:=ob h
     let q18:O:=.fixed (x17.2.2.2.flatMap cel3)
     let q26:O:=.cells [.fn (.func 96) [] [rf 5,rf 1,rf 4,rf 6,rf 0,rf 8]]
     let q8:List O:=[vw x17.2.1,.cells [rf 2],sv b0x0 b0x1 b0x2 b0x3 3,mq m1,vw p_x,vw x17.2.2.1,.cells [.sl 1 7 0 x17.2.2.2.length],q18,q26]
     let q22:O:=.cells [.sl 1 2 0 x17.2.2.2.length]
     refine GB [.no,.no,.no,.hcall [(6,false),(3,false),(0,false),(1,false),(4,false),(7,false),(5,false),(2,false),(8,false)] (vb x17.1) q8] [(3,rf 3),(4,rf 4),(6,rf 6),(7,rf 7),(8,rf 8),(9,vi c2.1),(10,rf 9),q13,q20,(21,vi c2.1),(41,vb (!x17.1))] [q2,mq m1,q18,q6,vw p_x,q22,vw x17.2.1,vw x17.2.2.1,q1,q4] [HCall Try.prog 96 [vi c2.1,.fn (.func 98) [] [rf 0,rf 1,rf 4],rf 5,rf 1,rf 4,rf 6,rf 0,rf 8] [vw c7.2.1,.cells [rf 2],sv b0x0 b0x1 b0x2 b0x3 3,mq m1,vw p_x,q14,.cells [.sl 1 7 0 c7.1.length],.fixed (c7.1.flatMap cel3),q26] (vb x17.1) q8] (ct96 hx17) ?_
     refine cd h (fun hb18 h=>?_) (fun hb18 h=>?_)
     ·obtain rfl:=oi h
      refine WA 10 [] [q2,mq m1,q18,q6,vw p_x,q22,vw x17.2.1,vw x17.2.2.1,q1,q4] ?_
      exact awp_ret (gs [0,1,2] [] OutQ.ret)
     ·refine awp_skip ?_
      show awp ..
      obtain ⟨x19,hx19,h⟩:=ob h
      obtain ⟨x20,hx20,h⟩:=ob h
      obtain ⟨x21,hx21,h⟩:=ob h
      obtain ⟨x22,hx22,h⟩:=ob h
      refine XB [.no,.no,.vals [vi x20],.no,.no,.nums (x17.2.1.set (0+c2.1.toNat*1) (w64 (x20+1)))] q5 [q2,mq m1,q18,q6,vw p_x,q22,.vec [] (x17.2.1.set (0+c2.1.toNat*1) (w64 (x20+1))) [],vw x17.2.2.1,q1,q4] [(0≤c2.1∧c2.1<((5:Nat):Int)),LoadOk (([]:List V)++x17.2.1.map vi) (0+c2.1.toNat*1) 1 [vi x20],(0≤c2.1∧c2.1<((5:Nat):Int)),(([vi (w64 (x20+1))]:List V).length=1),StoreOk (([]:List V)++x17.2.1.map vi) (0+c2.1.toNat*1) [vi (w64 (x20+1))] (([]:List V)++(x17.2.1.set (0+c2.1.toNat*1) (w64 (x20+1))).map vi)] (And.intro ((need_of hx19:0≤c2.1∧c2.1<((5:Nat):Int))) (And.intro (vecLoad (p:=0) (pre:=[]) (k:=0+c2.1.toNat*1) rfl hx20 (by omega)) (And.intro ((need_of hx21:0≤c2.1∧c2.1<((5:Nat):Int))) (And.intro ((rfl:([vi (w64 (x20+1))]:List V).length=1)) (vecStore (p:=0) (pre:=[]) (k:=0+c2.1.toNat*1) rfl hx22 (by omega)))))) ?_
      exact gn 10 [3,4,6,7,8,9,10,19,20,21] (hrn8 _ h)
    ·refine awp_exit ?_
     obtain rfl:=oi h
     exact gs [0,1,2,3,4,5,6,7,8,9] [3,4,6,7,8,19,20,21] OutQ.norm
   ·obtain rfl:=oi h
    exact gs [0,1,2] [] OutQ.ret
   ·show awp ..
    refine XA [(3,rf 3),(4,rf 4),(6,rf 6),(7,rf 7),(8,rf 8),q13,q20,(21,vi (w64 (c2.1+1)))] [q2,mq m1,.fixed (so6.1.flatMap cel3),q6,vw p_x,.cells [.sl 1 2 0 so6.1.length],vw so6.2.1,vw so6.2.2,q1,q4] ?_
    exact gn 9 [3,4,6,7,8,19,20,21] (hrn3 _ h)
  ·refine awp_exit ?_
   obtain rfl:=oi h
   exact gs [0,1,2,3,4,5,6,7,8] [3,4,6,7,8] OutQ.norm
 ·obtain rfl:=oi h
  exact (main_retS [0,1,2] (.tup []) (by kernel_rfl) (by kernel_rfl) (by kernel_rfl) (by kernel_rfl))
 ·show awp ..
  refine GA [(3,rf 3),(4,rf 4),(6,rf 6),(7,rf 7),(8,rf 8),(11,vb true)] [q2,mq m1,.fixed (so1.1.flatMap cel3),q6,vw p_x,.cells [.sl 1 2 0 so1.1.length],vw so1.2.1,vw so1.2.2,q1] ?_
  refine cuo h (fun (ro23:(List Int))=>[]) (fun (ro23:(List Int))=>[q2,mq m1,.fixed (ro23.flatMap cel3)]) (fun (so23:(List Int)×(List Int)×(List Int))=>[]) (fun (so23:(List Int)×(List Int)×(List Int))=>[q2,mq m1,.fixed (so23.1.flatMap cel3),q6,vw p_x,.cells [.sl 1 2 0 so23.1.length],vw so23.2.1,vw so23.2.2,q1]) (fun o23 h=>?_) (fun ro23 h=>?_) (fun so23 h=>?_)
  ·refine awp_selQ (WA 9 [(3,rf 3),(4,rf 4),(6,rf 6),(7,rf 7),(8,rf 8),(11,vb true)] [q2,mq m1,.fixed (so1.1.flatMap cel3),q6,vw p_x,.cells [.sl 1 2 0 so1.1.length],vw so1.2.1,vw so1.2.2,q1] ?_)
   refine awp_block (awp_loop (n:=fuel) ?_)
   refine awpN_ind (fun n (c24:Bool×(List Int)×(List Int)×(List Int))=>F78L3 fuel p_x b0x0 b0x1 b0x2 b0x3 m1 n c24) o23 (fun (c24:Bool×(List Int)×(List Int)×(List Int))=>[(3,rf 3),(4,rf 4),(6,rf 6),(7,rf 7),(8,rf 8),(11,vb c24.1)]) (fun (c24:Bool×(List Int)×(List Int)×(List Int))=>[q2,mq m1,.fixed (c24.2.1.flatMap cel3),q6,vw p_x,.cells [.sl 1 2 0 c24.2.1.length],vw c24.2.2.1,vw c24.2.2.2,q1]) (fun _=>rfl) ?_ fuel (true,so1.1,so1.2.1,so1.2.2) h
   clear h
   intro n25 c24 h hrn25
   change F78L3 fuel p_x b0x0 b0x1 b0x2 b0x3 m1 (n25+1) c24=some o23 at h
   rw [F78L3] at h
   let q23:O:=.cells [.sl 1 2 0 c24.2.1.length]
   refine awp_seq (GA [(3,rf 3),(4,rf 4),(6,rf 6),(7,rf 7),(8,rf 8),(48,vb c24.1)] [q2,mq m1,.fixed (c24.2.1.flatMap cel3),q6,vw p_x,q23,vw c24.2.2.1,vw c24.2.2.2,q1] ?_)
   refine cd h (fun hb26 h=>?_) (fun hb26 h=>?_)
   ·refine awp_skip ?_
    show awp ..
    refine awp_block (GA [(3,rf 3),(4,rf 4),(6,rf 6),(7,rf 7),(8,rf 8),(11,vb false)] [q2,mq m1,.fixed (c24.2.1.flatMap cel3),q6,vw p_x,q23,vw c24.2.2.1,vw c24.2.2.2,q1] ?_)
    let q11:Nat×V:=(53,.d (L66 b0x1))
    let q16:Nat×V:=(54,vl b0x1)
    refine HA [(3,rf 3),(4,rf 4),(6,rf 6),(7,rf 7),(8,rf 8),(11,vb false),q11,q16,(55,vi 0)] ?_
    refine cuo h (fun (ro27:(List Int))=>[]) (fun (ro27:(List Int))=>[q2,mq m1,.fixed (ro27.flatMap cel3)]) (fun (so27:Bool×(List Int)×(List Int)×(List Int))=>[(3,rf 3),(4,rf 4),(6,rf 6),(7,rf 7),(8,rf 8),(11,vb so27.1)]) (fun (so27:Bool×(List Int)×(List Int)×(List Int))=>[q2,mq m1,.fixed (so27.2.1.flatMap cel3),q6,vw p_x,.cells [.sl 1 2 0 so27.2.1.length],vw so27.2.2.1,vw so27.2.2.2,q1]) (fun o27 h=>?_) (fun ro27 h=>?_) (fun so27 h=>?_)
    ·refine awp_selQ (WA 9 [(3,rf 3),(4,rf 4),(6,rf 6),(7,rf 7),(8,rf 8),(11,vb false),q11,q16,(55,vi 0)] [q2,mq m1,.fixed (c24.2.1.flatMap cel3),q6,vw p_x,q23,vw c24.2.2.1,vw c24.2.2.2,q1] ?_)
     refine awp_block (awp_loop (n:=fuel) ?_)
     refine awpN_ind (fun n (c28:Bool×Int×(List Int)×(List Int)×(List Int))=>F78L4 fuel p_x b0x0 b0x1 b0x2 b0x3 m1 n c28) o27 (fun (c28:Bool×Int×(List Int)×(List Int)×(List Int))=>[(3,rf 3),(4,rf 4),(6,rf 6),(7,rf 7),(8,rf 8),(11,vb c28.1),q11,q16,(55,vi c28.2.1)]) (fun (c28:Bool×Int×(List Int)×(List Int)×(List Int))=>[q2,mq m1,.fixed (c28.2.2.1.flatMap cel3),q6,vw p_x,.cells [.sl 1 2 0 c28.2.2.1.length],vw c28.2.2.2.1,vw c28.2.2.2.2,q1]) (fun _=>rfl) ?_ fuel (false,0,c24.2.1,c24.2.2.1,c24.2.2.2) h
     clear h
     intro n29 c28 h hrn29
     change F78L4 fuel p_x b0x0 b0x1 b0x2 b0x3 m1 (n29+1) c28=some o27 at h
     rw [F78L4] at h
     let q15:O:=.fixed (c28.2.2.1.flatMap cel3)
     let q17:O:=.cells [.sl 1 2 0 c28.2.2.1.length]
     let q21:Nat×V:=(55,vi c28.2.1)
     let q27:Nat×V:=(11,vb c28.1)
     refine GA [(3,rf 3),(4,rf 4),(6,rf 6),(7,rf 7),(8,rf 8),q27,q11,q16,q21,(56,vb (decide (c28.2.1<(b0x1.length:Int))))] [q2,mq m1,q15,q6,vw p_x,q17,vw c28.2.2.2.1,vw c28.2.2.2.2,q1] ?_
     refine awp_seq (cd h (fun hb30 h=>?_) (fun hb30 h=>?_))
     ·refine awp_skip ?_
      show awp ..
      refine awp_seq (awp_block ?_)
      obtain ⟨x31,hx31,h⟩:=ob h
      let q7:O:=.cells [.d (.v (.string x31.Name)),vi x31.Weight,vi x31.Most]
      refine GB [.no,.cells (cel66 x31)] [(3,rf 3),(4,rf 4),(6,rf 6),(7,rf 7),(8,rf 8),q27,(12,vi c28.2.1),(13,rf 9),q11,q16,q21] [q2,mq m1,q15,q6,vw p_x,q17,vw c28.2.2.2.1,vw c28.2.2.2.2,q1,q7] [IX66 b0x1 c28.2.1 x31] (idxOk cel66_len hx31) ?_
      refine awp_seq ?_
      obtain ⟨x32,hx32,h⟩:=ob h
      obtain ⟨x33,hx33,h⟩:=ob h
      obtain ⟨x34,hx34,h⟩:=ob h
      obtain ⟨x35,hx35,h⟩:=ob h
      obtain ⟨x36,hx36,h⟩:=ob h
      refine hd [3,4,6,7,8,11,12,53,54,55,69] [.no,.no,.vals [vi x33],.no,.no,.no,.vals [vi x35],.call [(.agg [(.v (.string x31.Name)),(di x31.Weight),(di x31.Most)]),(di x35)] (.d (.agg [(di x36.Lo),(di x36.Hi)]))] 9 [3,4,6,7,8,11,12,53,54,55,62,68,69] [(3,rf 3),(4,rf 4),(6,rf 6),(7,rf 7),(8,rf 8),q27,(12,vi c28.2.1),q11,q16,q21,(69,vb (decide (x33≥x36.Hi)))] [(0≤c28.2.1∧c28.2.1<((5:Nat):Int)),LoadOk (([]:List V)++c28.2.2.2.1.map vi) (0+c28.2.1.toNat*1) 1 [vi x33],(0≤c28.2.1∧c28.2.1<((5:Nat):Int)),LoadOk (([]:List V)++p_x.map vi) (0+c28.2.1.toNat*1) 1 [vi x35],PCall Try.prog 97 [(.agg [(.v (.string x31.Name)),(di x31.Weight),(di x31.Most)]),(di x35)] (.d (.agg [(di x36.Lo),(di x36.Hi)]))] (And.intro ((need_of hx32:0≤c28.2.1∧c28.2.1<((5:Nat):Int))) (And.intro (vecLoad (p:=0) (pre:=[]) (k:=0+c28.2.1.toNat*1) rfl hx33 (by omega)) (And.intro ((need_of hx34:0≤c28.2.1∧c28.2.1<((5:Nat):Int))) (And.intro (vecLoad (p:=0) (pre:=[]) (k:=0+c28.2.1.toNat*1) rfl hx35 (by omega)) (ct97 hx36))))) ?_
      refine cd h (fun hb37 h=>?_) (fun hb37 h=>?_)
      ·refine awp_exit ?_
       show awp ..
       refine XA [(3,rf 3),(4,rf 4),(6,rf 6),(7,rf 7),(8,rf 8),q27,q11,q16,(55,vi (w64 (c28.2.1+1)))] [q2,mq m1,q15,q6,vw p_x,q17,vw c28.2.2.2.1,vw c28.2.2.2.2,q1,q7] ?_
       exact gn 9 [3,4,6,7,8,11,53,54,55] (hrn29 _ h)
      ·refine awp_skip ?_
       show awp ..
       obtain ⟨x38,hx38,h⟩:=ob h
       obtain ⟨x39,hx39,h⟩:=ob h
       refine GB [.no,.nums q3] [(3,rf 3),(4,rf 4),(6,rf 6),(7,rf 7),(8,rf 8),q27,(12,vi c28.2.1),q11,q16,q21] [q2,mq m1,q15,q6,vw p_x,q17,vw c28.2.2.2.1,q14,q1,q7] [(((((List.replicate 5 (0:Int)).map di0).map V.d)).length=5),StoreOk (c28.2.2.2.2.map vi) 0 (((List.replicate 5 (0:Int)).map di0).map V.d) ((List.replicate 5 (0:Int)).map vi)] (And.intro ((by rw [map_dd];exact (List.length_map _).trans (need_of hx38))) ((by rw [map_dd];exact vecStores (n:=5) ((List.length_map _).trans (need_of hx39)) (need_of hx38)))) ?_
       obtain ⟨x40,hx40,h⟩:=ob h
       let q19:O:=.fixed (x40.2.2.2.flatMap cel3)
       let q9:List O:=[vw x40.2.1,.cells [rf 2],sv b0x0 b0x1 b0x2 b0x3 3,mq m1,vw p_x,vw x40.2.2.1,.cells [.sl 1 7 0 x40.2.2.2.length],q19,.cells [.fn (.func 96) [] [rf 5,rf 1,rf 4,rf 6,rf 0,rf 8]]]
       let q24:O:=.cells [.sl 1 2 0 x40.2.2.2.length]
       refine GB [.no,.no,.no,.hcall [(6,false),(3,false),(0,false),(1,false),(4,false),(7,false),(5,false),(2,false),(8,false)] (vb x40.1) q9] [(3,rf 3),(4,rf 4),(6,rf 6),(7,rf 7),(8,rf 8),q27,(12,vi c28.2.1),q11,q16,q21,(74,vb x40.1)] [q2,mq m1,q19,q6,vw p_x,q24,vw x40.2.1,vw x40.2.2.1,q1,q7] [HCall Try.prog 96 [vi c28.2.1,.fn (.func 99) [] [rf 0,rf 1,rf 4],rf 5,rf 1,rf 4,rf 6,rf 0,rf 8] [vw c28.2.2.2.1,.cells [rf 2],sv b0x0 b0x1 b0x2 b0x3 3,mq m1,vw p_x,q14,.cells [.sl 1 7 0 c28.2.2.1.length],q15,.cells [.fn (.func 96) [] [rf 5,rf 1,rf 4,rf 6,rf 0,rf 8]]] (vb x40.1) q9] (ct96v1 hx40) ?_
       refine cd h (fun hb41 h=>?_) (fun hb41 h=>?_)
       ·obtain ⟨x42,hx42,h⟩:=ob h
        obtain ⟨x43,hx43,h⟩:=ob h
        obtain ⟨x44,hx44,h⟩:=ob h
        obtain ⟨x45,hx45,h⟩:=ob h
        refine GB [.no,.no,.vals [vi x43],.no,.no,.nums (x40.2.1.set (0+c28.2.1.toNat*1) (w64 (x43+1)))] [(3,rf 3),(4,rf 4),(6,rf 6),(7,rf 7),(8,rf 8),q11,q16,q21] [q2,mq m1,q19,q6,vw p_x,q24,.vec [] (x40.2.1.set (0+c28.2.1.toNat*1) (w64 (x43+1))) [],vw x40.2.2.1,q1,q7] [(0≤c28.2.1∧c28.2.1<((5:Nat):Int)),LoadOk (([]:List V)++x40.2.1.map vi) (0+c28.2.1.toNat*1) 1 [vi x43],(0≤c28.2.1∧c28.2.1<((5:Nat):Int)),(([vi (w64 (x43+1))]:List V).length=1),StoreOk (([]:List V)++x40.2.1.map vi) (0+c28.2.1.toNat*1) [vi (w64 (x43+1))] (([]:List V)++(x40.2.1.set (0+c28.2.1.toNat*1) (w64 (x43+1))).map vi)] (And.intro ((need_of hx42:0≤c28.2.1∧c28.2.1<((5:Nat):Int))) (And.intro (vecLoad (p:=0) (pre:=[]) (k:=0+c28.2.1.toNat*1) rfl hx43 (by omega)) (And.intro ((need_of hx44:0≤c28.2.1∧c28.2.1<((5:Nat):Int))) (And.intro ((rfl:([vi (w64 (x43+1))]:List V).length=1)) (vecStore (p:=0) (pre:=[]) (k:=0+c28.2.1.toNat*1) rfl hx45 (by omega)))))) ?_
        refine YA [(3,rf 3),(4,rf 4),(6,rf 6),(7,rf 7),(8,rf 8),(11,vb true),q11,q16,q21] ?_
        show awp ..
        refine YA [(3,rf 3),(4,rf 4),(6,rf 6),(7,rf 7),(8,rf 8),(11,vb true),q11,q16,(55,vi (w64 (c28.2.1+1)))] ?_
        exact gn 9 [3,4,6,7,8,11,53,54,55] (hrn29 _ h)
       ·refine awp_skip ?_
        show awp ..
        refine XA [(3,rf 3),(4,rf 4),(6,rf 6),(7,rf 7),(8,rf 8),q27,q11,q16,(55,vi (w64 (c28.2.1+1)))] [q2,mq m1,q19,q6,vw p_x,q24,vw x40.2.1,vw x40.2.2.1,q1,q7] ?_
        exact gn 9 [3,4,6,7,8,11,53,54,55] (hrn29 _ h)
     ·refine awp_exit ?_
      obtain rfl:=oi h
      exact gs [0,1,2,3,4,5,6,7,8] [3,4,6,7,8,11] OutQ.norm
    ·obtain rfl:=oi h
     exact gs [0,1,2] [] OutQ.ret
    ·exact gn 9 [3,4,6,7,8,11] (hrn25 _ h)
   ·refine awp_exit ?_
    obtain rfl:=oi h
    exact gs [0,1,2,3,4,5,6,7,8] [] OutQ.norm
  ·obtain rfl:=oi h
   exact (main_retS [0,1,2] (.tup []) (by kernel_rfl) (by kernel_rfl) (by kernel_rfl) (by kernel_rfl))
  ·obtain rfl:=oi h
   exact (main_retN [0,1,2] (.tup []) (by kernel_rfl) (by kernel_rfl) (by kernel_rfl) (by kernel_rfl))
theorem ct40 {fuel:Nat}  {p_c:S_api_EdCase} {res:(List Int)×Int} (h:F40 fuel p_c=some res):PCall Try.prog 40 [(ca p_c)] (.tup [.d (L3 res.1),vi res.2]):=by
 refine PCall.of_awp tt_ok (N:=85) Try.func40 rfl (by kernel_rfl) rfl (Nat.le_of_ble_eq_true rfl) rfl ?_
 unfold F40 at h
 refine GA [(1,rf 0)] [cs p_c] ?_
 obtain ⟨x1,hx1,h⟩:=ob h
 cases x1 with
 | inl y2 =>
  rw [outK_inl] at h
  let q2:O:=sv y2.2.1 y2.2.2.1 y2.2.2.2.1 y2.2.2.2.2.1 2
  let q4:O:=mq y2.2.2.2.2.2
  let q5:O:=sv y2.2.1 y2.2.2.1 y2.2.2.2.1 y2.2.2.2.2.1 1
  refine GB [.no,.hcall [] (.tup [rf 0,vi y2.1]) [q5,q4]] [(1,rf 0),(4,rf 1),(5,vi y2.1)] [cs p_c,q2,q4] [HCall Try.prog 68 [.d (ca p_c)] [] (.tup [rf 0,vi y2.1]) [q5,q4]] (ct68v1 hx1) ?_
  refine awp_seq (HA [(1,rf 0),(4,rf 1),(5,vi y2.1),(22,vb (y2.1 != 0))] ?_)
  refine cd h (fun hb3 h=>?_) (fun hb3 h=>?_)
  ·refine GA [(2,.d dnil),(3,vi y2.1)] [cs p_c,q2,q4] ?_
   obtain rfl:=oi h
   refine WB 3 [(2,.d dnil),(3,vi y2.1)] ?_
   refine awp_laxT 2 _ (L3 ([]:List Int)) _ (by kernel_rfl) (.nil (e:=1)) rfl ?_
   refine WA 3 [(2,.d (L3 ([]:List Int))),(3,vi y2.1)] [cs p_c,q2,q4] ?_
   exact awp_ret gm
  ·refine awp_skip ?_
   show awp ..
   obtain ⟨x4,hx4,h⟩:=ob h
   let q1:=(List.replicate (p_c.Edges.length:Int).toNat (0:Int))
   let q3:Nat×V:=(6,.sl 1 3 0 q1.length)
   let q7:O:=.data (q1.flatMap cel3)
   refine GB [.no,.no,.no,.list q1.length (q1.flatMap cel3)] [(1,rf 0),(4,rf 1),q3] [cs p_c,q2,q4,q7] [MakeOk (p_c.Edges.length:Int) (p_c.Edges.length:Int) q1.length 8 [.int .i64 0] (q1.flatMap cel3)] (makeOk rfl (need_of hx4)) ?_
   refine awp_seq ?_
   obtain ⟨x5,hx5,h⟩:=ob h
   let q9:Nat×V:=(8,.d (NL126 x5.2))
   refine HB [.no,.no,.no,.no,.hcall [(1,false),(2,false)] (.tup [.d (NL3 x5.1),.d (NL126 x5.2)]) [q5,q4]] [(1,rf 0),(4,rf 1),q3,q9] [HCall Try.prog 64 [rf 0,vl p_c.Sheets,vi 0] [q5,q4] (.tup [.d (NL3 x5.1),.d (NL126 x5.2)]) [q5,q4]] (ct64 hx5) ?_
   refine HB [.no,.nil (Nat.beq x5.2.length 0)] [(1,rf 0),(4,rf 1),q3,q9,(37,vb (!(Nat.beq x5.2.length 0)))] [NilIs (NL126 x5.2) (Nat.beq x5.2.length 0)] (nilIs_nl) ?_
   refine cd h (fun hb6 h=>?_) (fun hb6 h=>?_)
   ·refine GA [(1,rf 0),q3,q9,(9,vi 1)] [cs p_c,q2,q4,q7] ?_
    let q11:Nat×V:=(39,.d (L66 p_c.Sheets))
    let q13:Nat×V:=(40,vl p_c.Sheets)
    refine awp_seq (HA [q3,q9,(9,vi 1),q11,q13,(41,vi 0)] ?_)
    refine cuo h (fun (ro7:(List Int)×Int)=>[(2,.d (L3 ro7.1)),(3,vi ro7.2)]) (fun (ro7:(List Int)×Int)=>[]) (fun (so7:Int)=>[q3,q9,(9,vi so7)]) (fun (so7:Int)=>[cs p_c,q2,q4,q7]) (fun o7 h=>?_) (fun ro7 h=>?_) (fun so7 h=>?_)
    ·refine awp_selQ (WA 4 [q3,q9,(9,vi 1),q11,q13,(41,vi 0)] [cs p_c,q2,q4,q7] ?_)
     refine awp_block (awp_loop (n:=fuel) ?_)
     refine awpN_ind (fun n (c8:Int×Int)=>F40L1 p_c n c8) o7 (fun (c8:Int×Int)=>[q3,q9,(9,vi c8.1),q11,q13,(41,vi c8.2)]) (fun (c8:Int×Int)=>[cs p_c,q2,q4,q7]) (fun _=>rfl) ?_ fuel (1,0) h
     clear h
     intro n9 c8 h hrn9
     change F40L1 p_c (n9+1) c8=some o7 at h
     rw [F40L1] at h
     refine GA [q3,q9,(9,vi c8.1),q11,q13,(41,vi c8.2),(42,vb (decide (c8.2<(p_c.Sheets.length:Int))))] [cs p_c,q2,q4,q7] ?_
     refine awp_seq (cd h (fun hb10 h=>?_) (fun hb10 h=>?_))
     ·refine awp_skip ?_
      show awp ..
      refine awp_seq (awp_block ?_)
      obtain ⟨x11,hx11,h⟩:=ob h
      refine GB [.cells (cel66 x11)] [q3,q9,(9,vi c8.1),(11,rf 4),q11,q13,(41,vi c8.2)] [cs p_c,q2,q4,q7,.cells [.d (.v (.string x11.Name)),vi x11.Weight,vi x11.Most]] [IX66 p_c.Sheets c8.2 x11] (idxOk cel66_len hx11) ?_
      refine YA [q3,q9,(9,vi (w64 (c8.1+(w64 (x11.Weight*x11.Most))))),q11,q13,(41,vi c8.2)] ?_
      show awp ..
      refine YA [q3,q9,(9,vi (w64 (c8.1+(w64 (x11.Weight*x11.Most))))),q11,q13,(41,vi (w64 (c8.2+1)))] ?_
      exact gn 4 [6,8,9,39,40,41] (hrn9 _ h)
     ·refine awp_exit ?_
      obtain rfl:=oi h
      exact gs [0,1,2,3] [6,8,9] OutQ.norm
    ·obtain rfl:=oi h
     exact gm
    ·show awp ..
     let q10:Nat×V:=(53,.d (NL126 x5.2))
     let q15:Nat×V:=(54,vl x5.2)
     let q16:Nat×V:=(9,vi so7)
     refine awp_seq (GA [q3,q16,q10,q15,(55,vi 0)] [cs p_c,q2,q4,q7] ?_)
     refine cuo h (fun (ro12:(List Int)×Int)=>[(2,.d (L3 ro12.1)),(3,vi ro12.2)]) (fun (ro12:(List Int)×Int)=>[]) (fun (so12:(List Int))=>[(6,.sl 1 3 0 so12.length)]) (fun (so12:(List Int))=>[cs p_c,q2,q4,.data (so12.flatMap cel3)]) (fun o12 h=>?_) (fun ro12 h=>?_) (fun so12 h=>?_)
     ·refine awp_selQ (WA 4 [q3,q16,q10,q15,(55,vi 0)] [cs p_c,q2,q4,q7] ?_)
      refine awp_block (awp_loop (n:=fuel) ?_)
      refine awpN_ind (fun n (c13:Int×(List Int))=>F40L2 x5 so7 n c13) o12 (fun (c13:Int×(List Int))=>[(6,.sl 1 3 0 c13.2.length),q16,q10,q15,(55,vi c13.1)]) (fun (c13:Int×(List Int))=>[cs p_c,q2,q4,.data (c13.2.flatMap cel3)]) (fun _=>rfl) ?_ fuel (0,q1) h
      clear h
      intro n14 c13 h hrn14
      change F40L2 x5 so7 (n14+1) c13=some o12 at h
      rw [F40L2] at h
      let q12:Nat×V:=(6,.sl 1 3 0 c13.2.length)
      refine GA [q12,q16,q10,q15,(55,vi c13.1),(56,vb (decide (c13.1<(x5.2.length:Int))))] [cs p_c,q2,q4,.data (c13.2.flatMap cel3)] ?_
      refine awp_seq (cd h (fun hb15 h=>?_) (fun hb15 h=>?_))
      ·refine awp_skip ?_
       show awp ..
       refine awp_seq (awp_block ?_)
       obtain ⟨x16,hx16,h⟩:=ob h
       let q8:O:=.cells [vi x16.from_,vi x16.to_,vi x16.most,vi x16.edge,vi x16.sign]
       refine GB [.cells (cel126 x16)] [q12,q16,(13,rf 4),q10,q15,(55,vi c13.1)] [cs p_c,q2,q4,.data (c13.2.flatMap cel3),q8] [IX126 x5.2 c13.1 x16] (idxOk cel126_len hx16) ?_
       refine HA [q12,q16,(13,rf 4),q10,q15,(55,vi c13.1),(61,vb (decide (x16.edge≥0)))] ?_
       refine cd h (fun hb17 h=>?_) (fun hb17 h=>?_)
       ·obtain ⟨x18,hx18,h⟩:=ob h
        obtain ⟨x19,hx19,h⟩:=ob h
        let q14:=(w64 (x18+(w64 (x16.sign*so7))))
        let q6:=(c13.2.set x16.edge.toNat q14)
        refine awp_any (T':=[q12,q16,q10,q15,(55,vi c13.1)]) (H':=[cs p_c,q2,q4,.data (q6.flatMap cel3),q8]) (ps:=[(0≤x16.edge∧x16.edge<(c13.2.length:Int)),LoadOk ((c13.2.flatMap cel3).map .d) (0+x16.edge.toNat*1) 1 (([(di x18)]:List D).map .d),(0≤x16.edge∧x16.edge<(c13.2.length:Int)),StoreOk ((c13.2.flatMap cel3).map .d) (0+x16.edge.toNat*1) (([(di q14)]:List D).map .d) ((q6.flatMap cel3).map .d)]) tt_ok mixed (ks:=[6,9,53,54,55]) (hs:=[.no,.no,.no,.no,.vals (([(di x18)]:List D).map .d),.no,.no,.no,.no,.no,.no,.cells (q6.flatMap cel3)]) (m:=9) (mid:=[6,9,53,54,55,62,64,66,70,71,72]) (by kernel_rfl) (And.intro (idx_bounds hx18) (And.intro (loadOk (j:=0) (es:=([(di x18)]:List D)) cel3_len hx18 rfl rfl rfl (Nat.le_of_ble_eq_true rfl)) (And.intro (idx_bounds hx19) (storeOk (j:=0) (us:=([(di q14)]:List D)) (y:=q14) cel3_len hx19 rfl rfl (Nat.le_of_ble_eq_true rfl))))) ?_
        refine q_eq (T':=[(6,.sl 1 3 0 (c13.2.set x16.edge.toNat (w64 (x18+(w64 (x16.sign*so7))))).length),(9,vi so7),(53,.d (NL126 x5.2)),(54,vl x5.2),(55,vi c13.1)]) (H':=[cs p_c,sv y2.2.1 y2.2.2.1 y2.2.2.2.1 y2.2.2.2.2.1 2,mq y2.2.2.2.2.2,.data ((c13.2.set x16.edge.toNat (w64 (x18+(w64 (x16.sign*so7))))).flatMap cel3),.cells [vi x16.from_,vi x16.to_,vi x16.most,vi x16.edge,vi x16.sign]]) (by first|(simp +zetaDelta only [List.length_set];done)|(simp +zetaDelta only [len_copy];done)|simp +zetaDelta only [List.length_set,len_copy]) rfl ?_
        show awp ..
        refine XA [(6,.sl 1 3 0 q6.length),q16,q10,q15,(55,vi (w64 (c13.1+1)))] [cs p_c,q2,q4,.data (q6.flatMap cel3),q8] ?_
        exact gn 4 [6,9,53,54,55] (hrn14 _ h)
       ·refine awp_skip ?_
        show awp ..
        refine XA [q12,q16,q10,q15,(55,vi (w64 (c13.1+1)))] [cs p_c,q2,q4,.data (c13.2.flatMap cel3),q8] ?_
        exact gn 4 [6,9,53,54,55] (hrn14 _ h)
      ·refine awp_exit ?_
       obtain rfl:=oi h
       exact gs [0,1,2,3] [6] OutQ.norm
     ·obtain rfl:=oi h
      exact gm
     ·show awp ..
      refine GA [(2,.sl 1 3 0 so12.length),(3,vi 0)] [cs p_c,q2,q4,.data (so12.flatMap cel3)] ?_
      obtain rfl:=oi h
      refine WB 4 [(2,.sl 1 3 0 so12.length),(3,vi 0)] ?_
      refine awp_freeze 2 3 (so12.flatMap cel3) (.sl 1 3 0 so12.length) (.d (L3 so12)) _ _ (ps:=[(so12.flatMap cel3).length=so12.length*1]) (by kernel_rfl) (by kernel_rfl) (by kernel_rfl) (flatMap_len cel3 1 cel3_len so12) rfl rfl ?_
      refine WA 4 [(2,.d (L3 so12)),(3,vi 0)] [cs p_c,q2,q4,.data (([]:List Int).flatMap cel3)] ?_
      exact awp_ret gm
   ·refine awp_skip ?_
    show awp ..
    obtain ⟨x20,hx20,h⟩:=ob h
    obtain ⟨x21,hx21,h⟩:=ob h
    refine GB [.no,.hcall [(1,false),(2,false)] (.tup [.d (.agg (x20.1.map di0)),vb x20.2.1]) [q5,mq x20.2.2],.no,.no,.no,.no,.vals (x20.1.map vi)] [(4,rf 1),q3,(14,rf 4)] [cs p_c,q2,mq x20.2.2,q7,.cells (x20.1.map vi)] [HCall Try.prog 66 [rf 0] [sv y2.2.1 y2.2.2.1 y2.2.2.2.1 y2.2.2.2.2.1 1,mq y2.2.2.2.2.2] (.tup [.d (.agg (x20.1.map di0)),vb x20.2.1]) [sv y2.2.1 y2.2.2.1 y2.2.2.2.1 y2.2.2.2.2.1 1,mq x20.2.2],((((x20.1.map di0).map V.d)).length=5),StoreOk ((List.replicate 5 (0:Int)).map vi) 0 ((x20.1.map di0).map V.d) (x20.1.map vi)] (And.intro (ct66 hx20) (And.intro ((by rw [map_dd];exact (List.length_map _).trans (need_of hx21))) ((by rw [map_dd];exact vecStores (n:=5) rfl (need_of hx21))))) ?_
    refine awp_vec 4 (x20.1.map vi) [] x20.1 [] [cs p_c,q2,mq x20.2.2,q7,vw x20.1] (by kernel_rfl) rfl (by kernel_rfl) ?_
    obtain ⟨x22,hx22,h⟩:=ob h
    obtain ⟨x23,hx23,h⟩:=ob h
    refine GB [.no,.cells (x22.map di0),.no,.hcall [(1,false),(2,false),(3,true)] (.tup []) [q5,mq x20.2.2,.fixed (x23.flatMap cel3)]] [q3] [cs p_c,q2,mq x20.2.2,.data (x23.flatMap cel3),vw x20.1] [LoadOk (([]:List V)++x20.1.map vi) 0 5 ((x22.map di0).map .d),HCall Try.prog 78 [rf 0,.d (.agg (x22.map di0)),.sl 1 2 0 (List.replicate (p_c.Edges.length:Int).toNat (0:Int)).length] [sv y2.2.1 y2.2.2.1 y2.2.2.2.1 y2.2.2.2.2.1 1,mq x20.2.2,.fixed ((List.replicate (p_c.Edges.length:Int).toNat (0:Int)).flatMap cel3)] (.tup []) [sv y2.2.1 y2.2.2.1 y2.2.2.2.1 y2.2.2.2.2.1 1,mq x20.2.2,.fixed (x23.flatMap cel3)]] (And.intro ((by rw [map_dd];exact vecLoads (p:=0) (pre:=[]) rfl hx22 rfl)) (ct78 hx23)) ?_
    refine HA [(2,.sl 1 3 0 q1.length),(3,vi 0)] ?_
    obtain ⟨x24,hx24,h⟩:=ob h
    obtain rfl:=oi h
    refine WB 5 [(2,.sl 1 3 0 q1.length),(3,vi 0)] ?_
    refine awp_eq (T':=[(2,.sl 1 3 0 x23.length),(3,vi 0)]) (H':=_) (by have hq:=need_of hx24;rw [hq]) rfl ?_
    refine awp_freeze 2 3 (x23.flatMap cel3) (.sl 1 3 0 x23.length) (.d (L3 x23)) _ _ (ps:=[(x23.flatMap cel3).length=x23.length*1]) (by kernel_rfl) (by kernel_rfl) (by kernel_rfl) (flatMap_len cel3 1 cel3_len x23) rfl rfl ?_
    refine WA 5 [(2,.d (L3 x23)),(3,vi 0)] [cs p_c,q2,mq x20.2.2,.data (([]:List Int).flatMap cel3),vw x20.1] ?_
    exact awp_ret gm
 | inr y25 =>
  rw [outK_inr] at h
  refine GB [.no,.hcall [] (.tup [.d (.v (.pointer none)),vi y25]) []] [(1,rf 0),(4,.d (.v (.pointer none))),(5,vi y25)] [cs p_c] [HCall Try.prog 68 [.d (ca p_c)] [] (.tup [.d (.v (.pointer none)),vi y25]) []] (ct68v1 hx1) ?_
  refine awp_seq (HA [(1,rf 0),(4,.d (.v (.pointer none))),(5,vi y25),(22,vb (y25 != 0))] ?_)
  refine cd h (fun hb26 h=>?_) (fun hb26 h=>?_)
  ·refine GA [(2,.d dnil),(3,vi y25)] [cs p_c] ?_
   obtain rfl:=oi h
   refine WB 1 [(2,.d dnil),(3,vi y25)] ?_
   refine awp_laxT 2 _ (L3 ([]:List Int)) _ (by kernel_rfl) (.nil (e:=1)) rfl ?_
   refine WA 1 [(2,.d (L3 ([]:List Int))),(3,vi y25)] [cs p_c] ?_
   exact awp_ret gm
  ·refine awp_skip ?_
   show awp ..
   obtain ⟨x27,hx27,h⟩:=ob h
   refine GB [.no,.no,.no,.list (List.replicate (p_c.Edges.length:Int).toNat (0:Int)).length ((List.replicate (p_c.Edges.length:Int).toNat (0:Int)).flatMap cel3)] [(1,rf 0),(4,.d (.v (.pointer none))),(6,.sl 1 1 0 (List.replicate (p_c.Edges.length:Int).toNat (0:Int)).length)] [cs p_c,.data ((List.replicate (p_c.Edges.length:Int).toNat (0:Int)).flatMap cel3)] [MakeOk (p_c.Edges.length:Int) (p_c.Edges.length:Int) (List.replicate (p_c.Edges.length:Int).toNat (0:Int)).length 8 [.int .i64 0] ((List.replicate (p_c.Edges.length:Int).toNat (0:Int)).flatMap cel3)] (makeOk rfl (need_of hx27)) ?_
   exact awp_seq (absurd h (by simp))
end Go.Proofs.Ytallnifoeahpiaa
