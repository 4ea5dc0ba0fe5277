/- That functions of the seat compute this. Printed by a program of mine. -/
import Derived.Test.YtallnifoeahpiaaS
import Derived.Test.YtallnifoeahpiaaDEA
namespace Go.Proofs.Ytallnifoeahpiaa
open Go Go.Sx
set_option maxRecDepth 100000
set_option linter.unusedVariables false
theorem ct81  {p_n:Int} {b0x0:Int} {b1x0:Int} {res:Bool} (h:F81 p_n b0x0 b1x0=some res):HCall Try.prog 81 [vi p_n,rf 0,rf 1] [.cells [vi b0x0],.cells [vi b1x0]] (vb res) [.cells [vi b0x0],.cells [vi b1x0]]:=by
 refine HCall.of_awpS tt_ok (N:=13) (fl:=2) Try.func81 rfl (by kernel_rfl) rfl rfl (Nat.le_of_ble_eq_true rfl) ?_
 unfold F81 at h
 refine GA [(0,vi p_n),(1,rf 0),(2,rf 1)] [.cells [vi b0x0],.cells [vi b1x0]] ?_
 let q1:=(decide (p_n<b0x0))
 let q2:=(cond q1 true (decide (p_n>b1x0)))
 refine HB [] [(4,vb q2)] [((!q1)=true→(!q1)=true),((!q1)=true→(!q1)=true),(q1=false→(!q1)=true)] (And.intro (id) (And.intro (id) (not_of))) ?_
 obtain rfl:=oi h
 refine WB 2 [(4,vb q2)] ?_
 exact awp_ret (main_retS [0,1] (vb q2) (by kernel_rfl) (by kernel_rfl) (by kernel_rfl) (by kernel_rfl))
theorem ct100 {fuel:Nat}  {p_s:(List Int)} {b0x0:Int} {b1x0:Int} {res:Int} (h:F100 fuel p_s b0x0 b1x0=some res):HCall Try.prog 100 [.d (L3 p_s),.fn (.func 81) [] [rf 0,rf 1]] [.cells [vi b0x0],.cells [vi b1x0]] (vi res) [.cells [vi b0x0],.cells [vi b1x0]]:=by
 refine HCall.of_awpS tt_ok (N:=19) (fl:=2) Try.func100 rfl (by kernel_rfl) rfl rfl (Nat.le_of_ble_eq_true rfl) ?_
 unfold F100 at h
 let q1:List O:=[.cells [vi b0x0],.cells [vi b1x0]]
 let q2:Nat×V:=(1,.fn (.func 81) [] [rf 0,rf 1])
 let q3:Nat×V:=(0,.d (L3 p_s))
 refine GA [q3,q2] q1 ?_
 refine awp_seq (HA [q3,q2,(7,vl p_s),(8,vi 0)] ?_)
 refine cuo h (fun (ro1:Int)=>[(4,vi ro1)]) (fun (ro1:Int)=>[.cells [vi b0x0],.cells [vi b1x0]]) (fun (so1:Unit)=>[]) (fun (so1:Unit)=>[.cells [vi b0x0],.cells [vi b1x0]]) (fun o1 h=>?_) (fun ro1 h=>?_) (fun so1 h=>?_)
 ·refine awp_selQ (WA 2 [q3,q2,(7,vl p_s),(8,vi 0)] q1 ?_)
  refine awp_block (awp_loop (n:=fuel) ?_)
  refine awpN_ind (fun n (c2:Int)=>F100L1 p_s b0x0 b1x0 n c2) o1 (fun (c2:Int)=>[q3,q2,(7,vl p_s),(8,vi c2)]) (fun (c2:Int)=>[.cells [vi b0x0],.cells [vi b1x0]]) (fun _=>rfl) ?_ fuel 0 h
  clear h
  intro n3 c2 h hrn3
  change F100L1 p_s b0x0 b1x0 (n3+1) c2=some o1 at h
  rw [F100L1] at h
  refine GA [q3,q2,(7,vl p_s),(8,vi c2),(9,vb (decide (c2<(p_s.length:Int))))] q1 ?_
  refine awp_seq (cd h (fun hb4 h=>?_) (fun hb4 h=>?_))
  ·refine awp_skip ?_
   show awp ..
   refine awp_seq (awp_block ?_)
   refine GA [q3,q2,(5,vi c2),(7,vl p_s),(8,vi c2)] q1 ?_
   obtain ⟨x5,hx5,h⟩:=ob h
   obtain ⟨x6,hx6,h⟩:=ob h
   refine HB [.no,.no,.no,.cells (cel3 x5),.no,.hcall [(0,false),(1,false)] (vb x6) q1] [q3,q2,(5,vi c2),(7,vl p_s),(8,vi c2),(16,vb x6)] [IX3 p_s c2 x5,HCall Try.prog 81 [vi x5,rf 0,rf 1] q1 (vb x6) q1] (And.intro (idxOk cel3_len hx5) (ct81 hx6)) ?_
   refine cd h (fun hb7 h=>?_) (fun hb7 h=>?_)
   ·refine GA [(4,vi c2)] q1 ?_
    obtain rfl:=oi h
    refine WB 2 [(4,vi c2)] ?_
    exact awp_ret (gs [0,1] [4] OutQ.ret)
   ·refine awp_skip ?_
    show awp ..
    refine XA [q3,q2,(7,vl p_s),(8,vi (w64 (c2+1)))] q1 ?_
    exact gn 2 [0,1,7,8] (hrn3 _ h)
  ·refine awp_exit ?_
   obtain rfl:=oi h
   exact gs [0,1] [] OutQ.norm
 ·obtain rfl:=oi h
  exact (main_retS [0,1] (vi ro1) (by kernel_rfl) (by kernel_rfl) (by kernel_rfl) (by kernel_rfl))
 ·show awp ..
  refine GA [(4,vi (-1))] q1 ?_
  obtain rfl:=oi h
  refine WB 2 [(4,vi (-1))] ?_
  exact awp_ret (main_retS [0,1] (vi (-1)) (by kernel_rfl) (by kernel_rfl) (by kernel_rfl) (by kernel_rfl))
theorem ct80 {fuel:Nat}  {p_s:(List Int)} {b0x0:Int} {b1x0:Int} {res:Bool} (h:F80 fuel p_s b0x0 b1x0=some res):HCall Try.prog 80 [.d (L3 p_s),.fn (.func 81) [] [rf 0,rf 1]] [.cells [vi b0x0],.cells [vi b1x0]] (vb res) [.cells [vi b0x0],.cells [vi b1x0]]:=by
 refine HCall.of_awpS tt_ok (N:=9) (fl:=2) Try.func80 rfl (by kernel_rfl) rfl rfl (Nat.le_of_ble_eq_true rfl) ?_
 unfold F80 at h
 let q1:List O:=[.cells [vi b0x0],.cells [vi b1x0]]
 refine GA [(0,.d (L3 p_s)),(1,.fn (.func 81) [] [rf 0,rf 1])] q1 ?_
 obtain ⟨x1,hx1,h⟩:=ob h
 refine HB [.no,.no,.hcall [(0,false),(1,false)] (vi x1) q1] [(4,vb (decide (x1≥0)))] [HCall Try.prog 100 [.d (L3 p_s),.fn (.func 81) [] [rf 0,rf 1]] q1 (vi x1) q1] (ct100 hx1) ?_
 obtain rfl:=oi h
 refine WB 2 [(4,vb (decide (x1≥0)))] ?_
 exact awp_ret (main_retS [0,1] (vb (decide (x1≥0))) (by kernel_rfl) (by kernel_rfl) (by kernel_rfl) (by kernel_rfl))
theorem ct48 {fuel:Nat}  {lo:Int} {hi:Int} {numbers:(List Int)} {res:Bool} (h:F48 fuel lo hi numbers=some res):PCall Try.prog 48 [(di lo),(di hi),(L3 numbers)] (vb res):=by
 refine PCall.of_awp tt_ok (N:=10) Try.func48 rfl (by kernel_rfl) rfl (Nat.le_of_ble_eq_true rfl) rfl ?_
 unfold F48 at h
 let q1:List O:=[.cells [vi lo],.cells [vi hi]]
 refine GA [(2,.d (L3 numbers)),(3,rf 0),(4,rf 1)] q1 ?_
 obtain ⟨x1,hx1,h⟩:=ob h
 refine HB [.no,.no,.hcall [(0,false),(1,false)] (vb x1) q1] [(6,vb x1)] [HCall Try.prog 80 [.d (L3 numbers),.fn (.func 81) [] [rf 0,rf 1]] q1 (vb x1) q1] (ct80 hx1) ?_
 obtain rfl:=oi h
 refine WB 2 [(6,vb x1)] ?_
 exact awp_ret gm
theorem ct51  {p_x:S_api_EdSheet} {b0x0:ByteArray} {b0x1:Int} {b0x2:Int} {res:Bool} (h:F51 p_x b0x0 b0x1 b0x2=some res):HCall Try.prog 51 [.d (.agg [(.v (.string p_x.Name)),(di p_x.Weight),(di p_x.Most)]),rf 0] [.cells [.d (.v (.string b0x0)),vi b0x1,vi b0x2]] (vb res) [.cells [.d (.v (.string b0x0)),vi b0x1,vi b0x2]]:=by
 refine HCall.of_awpS tt_ok (N:=9) (fl:=1) Try.func51 rfl (by kernel_rfl) rfl rfl (Nat.le_of_ble_eq_true rfl) ?_
 unfold F51 at h
 refine GA [(1,rf 0),(2,rf 1)] [.cells [.d (.v (.string b0x0)),vi b0x1,vi b0x2],.cells [.d (.v (.string p_x.Name)),vi p_x.Weight,vi p_x.Most]] ?_
 refine HA [(3,vb (p_x.Name==b0x0))] ?_
 obtain rfl:=oi h
 refine WB 2 [(3,vb (p_x.Name==b0x0))] ?_
 exact awp_ret (main_retS [0] (vb (p_x.Name==b0x0)) (by kernel_rfl) (by kernel_rfl) (by kernel_rfl) (by kernel_rfl))
theorem ct82 {fuel:Nat}  {p_s:(List S_api_EdSheet)} {b0x0:ByteArray} {b0x1:Int} {b0x2:Int} {res:Int} (h:F82 fuel p_s b0x0 b0x1 b0x2=some res):HCall Try.prog 82 [.d (L66 p_s),.fn (.func 51) [] [rf 0]] [.cells [.d (.v (.string b0x0)),vi b0x1,vi b0x2]] (vi res) [.cells [.d (.v (.string b0x0)),vi b0x1,vi b0x2]]:=by
 refine HCall.of_awpS tt_ok (N:=19) (fl:=1) Try.func82 rfl (by kernel_rfl) rfl rfl (Nat.le_of_ble_eq_true rfl) ?_
 unfold F82 at h
 let q3:O:=.cells [.d (.v (.string b0x0)),vi b0x1,vi b0x2]
 let q1:List O:=[q3]
 let q2:Nat×V:=(1,.fn (.func 51) [] [rf 0])
 let q4:Nat×V:=(0,.d (L66 p_s))
 refine GA [q4,q2] q1 ?_
 refine awp_seq (HA [q4,q2,(7,vl p_s),(8,vi 0)] ?_)
 refine cuo h (fun (ro1:Int)=>[(4,vi ro1)]) (fun (ro1:Int)=>[q3]) (fun (so1:Unit)=>[]) (fun (so1:Unit)=>[q3]) (fun o1 h=>?_) (fun ro1 h=>?_) (fun so1 h=>?_)
 ·refine awp_selQ (WA 1 [q4,q2,(7,vl p_s),(8,vi 0)] q1 ?_)
  refine awp_block (awp_loop (n:=fuel) ?_)
  refine awpN_ind (fun n (c2:Int)=>F82L1 p_s b0x0 b0x1 b0x2 n c2) o1 (fun (c2:Int)=>[q4,q2,(7,vl p_s),(8,vi c2)]) (fun (c2:Int)=>[q3]) (fun _=>rfl) ?_ fuel 0 h
  clear h
  intro n3 c2 h hrn3
  change F82L1 p_s b0x0 b0x1 b0x2 (n3+1) c2=some o1 at h
  rw [F82L1] at h
  refine GA [q4,q2,(7,vl p_s),(8,vi c2),(9,vb (decide (c2<(p_s.length:Int))))] q1 ?_
  refine awp_seq (cd h (fun hb4 h=>?_) (fun hb4 h=>?_))
  ·refine awp_skip ?_
   show awp ..
   refine awp_seq (awp_block ?_)
   refine GA [q4,q2,(5,vi c2),(7,vl p_s),(8,vi c2)] q1 ?_
   obtain ⟨x5,hx5,h⟩:=ob h
   obtain ⟨x6,hx6,h⟩:=ob h
   refine HB [.no,.no,.no,.cells (cel66 x5),.no,.hcall [(0,false)] (vb x6) q1] [q4,q2,(5,vi c2),(7,vl p_s),(8,vi c2),(16,vb x6)] [IX66 p_s c2 x5,HCall Try.prog 51 [.d (.agg [(.v (.string x5.Name)),(di x5.Weight),(di x5.Most)]),rf 0] q1 (vb x6) q1] (And.intro (idxOk cel66_len hx5) (ct51 hx6)) ?_
   refine cd h (fun hb7 h=>?_) (fun hb7 h=>?_)
   ·refine GA [(4,vi c2)] q1 ?_
    obtain rfl:=oi h
    refine WB 1 [(4,vi c2)] ?_
    exact awp_ret (gs [0] [4] OutQ.ret)
   ·refine awp_skip ?_
    show awp ..
    refine XA [q4,q2,(7,vl p_s),(8,vi (w64 (c2+1)))] q1 ?_
    exact gn 1 [0,1,7,8] (hrn3 _ h)
  ·refine awp_exit ?_
   obtain rfl:=oi h
   exact gs [0] [] OutQ.norm
 ·obtain rfl:=oi h
  exact (main_retS [0] (vi ro1) (by kernel_rfl) (by kernel_rfl) (by kernel_rfl) (by kernel_rfl))
 ·show awp ..
  refine GA [(4,vi (-1))] q1 ?_
  obtain rfl:=oi h
  refine WB 1 [(4,vi (-1))] ?_
  exact awp_ret (main_retS [0] (vi (-1)) (by kernel_rfl) (by kernel_rfl) (by kernel_rfl) (by kernel_rfl))
theorem ct50 {fuel:Nat}  {p_s:(List S_api_EdSheet)} {b0x0:ByteArray} {b0x1:Int} {b0x2:Int} {res:Bool} (h:F50 fuel p_s b0x0 b0x1 b0x2=some res):HCall Try.prog 50 [.d (L66 p_s),.fn (.func 51) [] [rf 0]] [.cells [.d (.v (.string b0x0)),vi b0x1,vi b0x2]] (vb res) [.cells [.d (.v (.string b0x0)),vi b0x1,vi b0x2]]:=by
 refine HCall.of_awpS tt_ok (N:=9) (fl:=1) Try.func50 rfl (by kernel_rfl) rfl rfl (Nat.le_of_ble_eq_true rfl) ?_
 unfold F50 at h
 let q1:List O:=[.cells [.d (.v (.string b0x0)),vi b0x1,vi b0x2]]
 refine GA [(0,.d (L66 p_s)),(1,.fn (.func 51) [] [rf 0])] q1 ?_
 obtain ⟨x1,hx1,h⟩:=ob h
 refine HB [.no,.no,.hcall [(0,false)] (vi x1) q1] [(4,vb (decide (x1≥0)))] [HCall Try.prog 82 [.d (L66 p_s),.fn (.func 51) [] [rf 0]] q1 (vi x1) q1] (ct82 hx1) ?_
 obtain rfl:=oi h
 refine WB 1 [(4,vb (decide (x1≥0)))] ?_
 exact awp_ret (main_retS [0] (vb (decide (x1≥0))) (by kernel_rfl) (by kernel_rfl) (by kernel_rfl) (by kernel_rfl))
theorem ct53 {fuel:Nat}  {p:S_api_EdPoint} {res:Bool} (h:F53 fuel p=some res):PCall Try.prog 53 [(.agg [(di p.A),(di p.B)])] (vb res):=by
 refine PCall.of_awp tt_ok (N:=9) Try.func53 rfl (by kernel_rfl) rfl (Nat.le_of_ble_eq_true rfl) rfl ?_
 unfold F53 at h
 refine GA [(1,rf 0)] [.cells [vi p.A,vi p.B]] ?_
 obtain ⟨x1,hx1,h⟩:=ob h
 refine HB [.no,.no,.no,.no,.no,.call [(di 0),(di 9000),(L3 ([p.A,p.B]:List Int))] (vb x1)] [(2,vb x1)] [PCall Try.prog 48 [(di 0),(di 9000),(L3 ([p.A,p.B]:List Int))] (vb x1)] (ct48 hx1) ?_
 obtain rfl:=oi h
 refine WB 1 [(2,vb x1)] ?_
 exact awp_ret gm
theorem ct83 {fuel:Nat}  {p_s:(List S_api_EdPoint)} {res:Int} (h:F83 fuel p_s=some res):HCall Try.prog 83 [.d (L74 p_s),.fn (.func 53) [] []] [] (vi res) []:=by
 refine HCall.of_awpS tt_ok (N:=19) (fl:=0) Try.func83 rfl (by kernel_rfl) rfl rfl (Nat.le_of_ble_eq_true rfl) ?_
 unfold F83 at h
 let q1:Nat×V:=(1,.fn (.func 53) [] [])
 let q2:Nat×V:=(0,.d (L74 p_s))
 refine GA [q2,q1] [] ?_
 refine awp_seq (HA [q2,q1,(7,vl p_s),(8,vi 0)] ?_)
 refine cuo h (fun (ro1:Int)=>[(4,vi ro1)]) (fun (ro1:Int)=>[]) (fun (so1:Unit)=>[]) (fun (so1:Unit)=>[]) (fun o1 h=>?_) (fun ro1 h=>?_) (fun so1 h=>?_)
 ·refine awp_selQ (WA 0 [q2,q1,(7,vl p_s),(8,vi 0)] [] ?_)
  refine awp_block (awp_loop (n:=fuel) ?_)
  refine awpN_ind (fun n (c2:Int)=>F83L1 fuel p_s n c2) o1 (fun (c2:Int)=>[q2,q1,(7,vl p_s),(8,vi c2)]) (fun (c2:Int)=>[]) (fun _=>rfl) ?_ fuel 0 h
  clear h
  intro n3 c2 h hrn3
  change F83L1 fuel p_s (n3+1) c2=some o1 at h
  rw [F83L1] at h
  refine GA [q2,q1,(7,vl p_s),(8,vi c2),(9,vb (decide (c2<(p_s.length:Int))))] [] ?_
  refine awp_seq (cd h (fun hb4 h=>?_) (fun hb4 h=>?_))
  ·refine awp_skip ?_
   show awp ..
   refine awp_seq (awp_block ?_)
   refine GA [q2,q1,(5,vi c2),(7,vl p_s),(8,vi c2)] [] ?_
   obtain ⟨x5,hx5,h⟩:=ob h
   obtain ⟨x6,hx6,h⟩:=ob h
   refine HB [.no,.no,.no,.cells (cel74 x5),.no,.call [(.agg [(di x5.A),(di x5.B)])] (vb x6)] [q2,q1,(5,vi c2),(7,vl p_s),(8,vi c2),(16,vb x6)] [IX74 p_s c2 x5,PCall Try.prog 53 [(.agg [(di x5.A),(di x5.B)])] (vb x6)] (And.intro (idxOk cel74_len hx5) (ct53 hx6)) ?_
   refine cd h (fun hb7 h=>?_) (fun hb7 h=>?_)
   ·refine GA [(4,vi c2)] [] ?_
    obtain rfl:=oi h
    refine WB 0 [(4,vi c2)] ?_
    exact awp_ret (gs [] [4] OutQ.ret)
   ·refine awp_skip ?_
    show awp ..
    refine XA [q2,q1,(7,vl p_s),(8,vi (w64 (c2+1)))] [] ?_
    exact gn 0 [0,1,7,8] (hrn3 _ h)
  ·refine awp_exit ?_
   obtain rfl:=oi h
   exact gs [] [] OutQ.norm
 ·obtain rfl:=oi h
  exact (main_retS [] (vi ro1) (by kernel_rfl) (by kernel_rfl) (by kernel_rfl) (by kernel_rfl))
 ·show awp ..
  refine GA [(4,vi (-1))] [] ?_
  obtain rfl:=oi h
  refine WB 0 [(4,vi (-1))] ?_
  exact awp_ret (main_retS [] (vi (-1)) (by kernel_rfl) (by kernel_rfl) (by kernel_rfl) (by kernel_rfl))
theorem ct52 {fuel:Nat}  {p_s:(List S_api_EdPoint)} {res:Bool} (h:F52 fuel p_s=some res):HCall Try.prog 52 [.d (L74 p_s),.fn (.func 53) [] []] [] (vb res) []:=by
 refine HCall.of_awpS tt_ok (N:=9) (fl:=0) Try.func52 rfl (by kernel_rfl) rfl rfl (Nat.le_of_ble_eq_true rfl) ?_
 unfold F52 at h
 refine GA [(0,.d (L74 p_s)),(1,.fn (.func 53) [] [])] [] ?_
 obtain ⟨x1,hx1,h⟩:=ob h
 refine HB [.no,.no,.hcall [] (vi x1) []] [(4,vb (decide (x1≥0)))] [HCall Try.prog 83 [.d (L74 p_s),.fn (.func 53) [] []] [] (vi x1) []] (ct83 hx1) ?_
 obtain rfl:=oi h
 refine WB 0 [(4,vb (decide (x1≥0)))] ?_
 exact awp_ret (main_retS [] (vb (decide (x1≥0))) (by kernel_rfl) (by kernel_rfl) (by kernel_rfl) (by kernel_rfl))
theorem ct16 {fuel:Nat}  {p_c:S_api_EdCase} {res:Int×Int×Int} (h:F16 fuel p_c=some res):PCall Try.prog 16 [(ca p_c)] (.tup [vi res.1,vi res.2.1,vi res.2.2]):=by
 refine PCall.of_awp tt_ok (N:=101) Try.func16 rfl (by kernel_rfl) rfl (Nat.le_of_ble_eq_true rfl) rfl ?_
 unfold F16 at h
 refine GA [(1,rf 0)] [cs p_c] ?_
 refine awp_seq (awp_block ?_)
 obtain ⟨x1,hx1,h⟩:=ob h
 refine HB [.no,.no,.no,.call [(di 0),(di 50),(L3 ([p_c.Tol]:List Int))] (vb x1)] [(1,rf 0),(9,vb x1)] [PCall Try.prog 48 [(di 0),(di 50),(L3 ([p_c.Tol]:List Int))] (vb x1)] (ct48 hx1) ?_
 refine cd h (fun hb2 h=>?_) (fun hb2 h=>?_)
 ·refine GA [(2,vi 1),(3,vi 0),(4,vi 7)] [cs p_c] ?_
  obtain rfl:=oi h
  refine WB 1 [(2,vi 1),(3,vi 0),(4,vi 7)] ?_
  exact awp_ret gm
 ·obtain ⟨x3,hx3,h⟩:=ob h
  let q7:=(p_c.Sheets.length:Int)
  refine GB [.no,.no,.no,.no,.call [(di 1),(di 5),(L3 ([q7]:List Int))] (vb x3)] [(1,rf 0),(14,vb (cond x3 true (decide ((p_c.Edges.length:Int)>8))))] [cs p_c] [PCall Try.prog 48 [(di 1),(di 5),(L3 ([q7]:List Int))] (vb x3),((!x3)=true→(!x3)=true),((!x3)=true→(!x3)=true),((!x3)=true→(!x3)=true),(x3=false→(!x3)=true)] (And.intro (ct48 hx3) (And.intro (id) (And.intro (id) (And.intro (id) (not_of))))) ?_
  refine cd h (fun hb4 h=>?_) (fun hb4 h=>?_)
  ·refine GA [(2,vi 1),(3,vi 0),(4,vi 3)] [cs p_c] ?_
   obtain rfl:=oi h
   refine WB 1 [(2,vi 1),(3,vi 0),(4,vi 3)] ?_
   exact awp_ret gm
  ·refine awp_skip ?_
   show awp ..
   let q4:Nat×V:=(27,.d (L66 p_c.Sheets))
   let q6:Nat×V:=(28,vl p_c.Sheets)
   refine awp_seq (GA [(1,rf 0),q4,q6,(29,vi 0)] [cs p_c] ?_)
   refine cuo h (fun (ro5:Int×Int×Int)=>[(2,vi ro5.1),(3,vi ro5.2.1),(4,vi ro5.2.2)]) (fun (ro5:Int×Int×Int)=>[]) (fun (so5:Unit)=>[(1,rf 0)]) (fun (so5:Unit)=>[cs p_c]) (fun o5 h=>?_) (fun ro5 h=>?_) (fun so5 h=>?_)
   ·refine awp_selQ (WA 1 [(1,rf 0),q4,q6,(29,vi 0)] [cs p_c] ?_)
    refine awp_block (awp_loop (n:=fuel) ?_)
    refine awpN_ind (fun n (c6:Int)=>F16L1 fuel p_c n c6) o5 (fun (c6:Int)=>[(1,rf 0),q4,q6,(29,vi c6)]) (fun (c6:Int)=>[cs p_c]) (fun _=>rfl) ?_ fuel 0 h
    clear h
    intro n7 c6 h hrn7
    change F16L1 fuel p_c (n7+1) c6=some o5 at h
    rw [F16L1] at h
    refine GA [(1,rf 0),q4,q6,(29,vi c6),(30,vb (decide (c6<q7)))] [cs p_c] ?_
    refine awp_seq (cd h (fun hb8 h=>?_) (fun hb8 h=>?_))
    ·refine awp_skip ?_
     show awp ..
     refine awp_seq (awp_block ?_)
     obtain ⟨x9,hx9,h⟩:=ob h
     let q1:O:=.cells [.d (.v (.string x9.Name)),vi x9.Weight,vi x9.Most]
     refine GB [.no,.cells (cel66 x9)] [(1,rf 0),(5,vi c6),(6,rf 1),q4,q6,(29,vi c6)] [cs p_c,q1] [IX66 p_c.Sheets c6 x9] (idxOk cel66_len hx9) ?_
     refine awp_block ?_
     obtain ⟨x10,hx10,h⟩:=ob h
     refine HB [.no,.no,.call [(.v (.string x9.Name))] (vb x10)] [(1,rf 0),(5,vi c6),(6,rf 1),q4,q6,(29,vi c6),(34,vb (!x10))] [PCall Try.prog 49 [(.v (.string x9.Name))] (vb x10)] (ct49 hx10) ?_
     refine cd h (fun hb11 h=>?_) (fun hb11 h=>?_)
     ·refine GA [(2,vi 2),(3,vi c6),(4,vi 6)] [cs p_c,q1] ?_
      obtain rfl:=oi h
      refine WB 2 [(2,vi 2),(3,vi c6),(4,vi 6)] ?_
      exact awp_ret (gs [] [2,3,4] OutQ.ret)
     ·obtain ⟨x12,hx12,h⟩:=ob h
      obtain ⟨x13,hx13,h⟩:=ob h
      refine GB [.no,.no,.no,.list x12.length (x12.flatMap cel66),.no,.hcall [(1,false)] (vb x13) [q1]] [(1,rf 0),(5,vi c6),(6,rf 1),q4,q6,(29,vi c6),(40,vb x13)] [cs p_c,q1] [SliceOk (p_c.Sheets.flatMap cel66) 3 p_c.Sheets.length 0 c6 x12.length (x12.flatMap cel66),HCall Try.prog 50 [.d (L66 x12),.fn (.func 51) [] [rf 0]] [q1] (vb x13) [q1]] (And.intro (sliceOk cel66_len hx12) (ct50 hx13)) ?_
      refine cd h (fun hb14 h=>?_) (fun hb14 h=>?_)
      ·refine GA [(2,vi 2),(3,vi c6),(4,vi 5)] [cs p_c,q1] ?_
       obtain rfl:=oi h
       refine WB 2 [(2,vi 2),(3,vi c6),(4,vi 5)] ?_
       exact awp_ret (gs [] [2,3,4] OutQ.ret)
      ·obtain ⟨x15,hx15,h⟩:=ob h
       obtain ⟨x16,hx16,h⟩:=ob h
       refine GB [.no,.no,.no,.call [(di 0),(di 20),(L3 ([x9.Weight]:List Int))] (vb x15),.no,.no,.no,.no,.call [(di 0),(di 6),(L3 ([x9.Most]:List Int))] (vb x16)] [(1,rf 0),(5,vi c6),q4,q6,(29,vi c6),(48,vb (cond x15 true x16))] [cs p_c,q1] [PCall Try.prog 48 [(di 0),(di 20),(L3 ([x9.Weight]:List Int))] (vb x15),((!x15)=true→(!x15)=true),((!x15)=true→(!x15)=true),((!x15)=true→(!x15)=true),((!x15)=true→PCall Try.prog 48 [(di 0),(di 6),(L3 ([x9.Most]:List Int))] (vb x16)),(x15=false→(!x15)=true)] (And.intro (ct48 hx15) (And.intro (id) (And.intro (id) (And.intro (id) (And.intro ((fun hg=>ct48 (optG_of hx16 hg))) (not_of)))))) ?_
       refine cd h (fun hb17 h=>?_) (fun hb17 h=>?_)
       ·refine GA [(2,vi 2),(3,vi c6),(4,vi 7)] [cs p_c,q1] ?_
        obtain rfl:=oi h
        refine WB 2 [(2,vi 2),(3,vi c6),(4,vi 7)] ?_
        exact awp_ret (gs [] [2,3,4] OutQ.ret)
       ·refine awp_skip ?_
        show awp ..
        refine XA [(1,rf 0),q4,q6,(29,vi (w64 (c6+1)))] [cs p_c,q1] ?_
        exact gn 1 [1,27,28,29] (hrn7 _ h)
    ·refine awp_exit ?_
     obtain rfl:=oi h
     exact gs [0] [1] OutQ.norm
   ·obtain rfl:=oi h
    exact gm
   ·show awp ..
    let q3:Nat×V:=(62,.d (L71 p_c.Edges))
    let q5:Nat×V:=(63,vl p_c.Edges)
    refine awp_seq (GA [(1,rf 0),q3,q5,(64,vi 0)] [cs p_c] ?_)
    refine cuo h (fun (ro18:Int×Int×Int)=>[(2,vi ro18.1),(3,vi ro18.2.1),(4,vi ro18.2.2)]) (fun (ro18:Int×Int×Int)=>[]) (fun (so18:Unit)=>[]) (fun (so18:Unit)=>[cs p_c]) (fun o18 h=>?_) (fun ro18 h=>?_) (fun so18 h=>?_)
    ·refine awp_selQ (WA 1 [(1,rf 0),q3,q5,(64,vi 0)] [cs p_c] ?_)
     refine awp_block (awp_loop (n:=fuel) ?_)
     refine awpN_ind (fun n (c19:Int)=>F16L2 fuel p_c n c19) o18 (fun (c19:Int)=>[(1,rf 0),q3,q5,(64,vi c19)]) (fun (c19:Int)=>[cs p_c]) (fun _=>rfl) ?_ fuel 0 h
     clear h
     intro n20 c19 h hrn20
     change F16L2 fuel p_c (n20+1) c19=some o18 at h
     rw [F16L2] at h
     refine GA [(1,rf 0),q3,q5,(64,vi c19),(65,vb (decide (c19<(p_c.Edges.length:Int))))] [cs p_c] ?_
     refine awp_seq (cd h (fun hb21 h=>?_) (fun hb21 h=>?_))
     ·refine awp_skip ?_
      show awp ..
      refine awp_seq (awp_block ?_)
      obtain ⟨x22,hx22,h⟩:=ob h
      let q2:List O:=[cs p_c,.cells [vi x22.A,vi x22.B,.d (L74 x22.Points)]]
      refine GB [.no,.cells (cel71 x22)] [(1,rf 0),(7,vi c19),(8,rf 1),q3,q5,(64,vi c19)] q2 [IX71 p_c.Edges c19 x22] (idxOk cel71_len hx22) ?_
      refine awp_block ?_
      obtain ⟨x23,hx23,h⟩:=ob h
      refine HB [.no,.no,.no,.no,.no,.no,.no,.no,.no,.call [(di 0),(di (w64 (q7-1))),(L3 ([x22.A,x22.B]:List Int))] (vb x23)] [(1,rf 0),(7,vi c19),(8,rf 1),q3,q5,(64,vi c19),(69,vb x23)] [PCall Try.prog 48 [(di 0),(di (w64 (q7-1))),(L3 ([x22.A,x22.B]:List Int))] (vb x23)] (ct48 hx23) ?_
      refine cd h (fun hb24 h=>?_) (fun hb24 h=>?_)
      ·refine GA [(2,vi 3),(3,vi c19),(4,vi 4)] q2 ?_
       obtain rfl:=oi h
       refine WB 2 [(2,vi 3),(3,vi c19),(4,vi 4)] ?_
       exact awp_ret (gs [] [2,3,4] OutQ.ret)
      ·refine GA [(1,rf 0),(7,vi c19),(8,rf 1),q3,q5,(64,vi c19),(81,vb (x22.A==x22.B))] q2 ?_
       refine cd h (fun hb25 h=>?_) (fun hb25 h=>?_)
       ·refine GA [(2,vi 3),(3,vi c19),(4,vi 2)] q2 ?_
        obtain rfl:=oi h
        refine WB 2 [(2,vi 3),(3,vi c19),(4,vi 2)] ?_
        exact awp_ret (gs [] [2,3,4] OutQ.ret)
       ·obtain ⟨x26,hx26,h⟩:=ob h
        refine GB [.no,.no,.no,.no,.call [(di 1),(di 4),(L3 ([(x22.Points.length:Int)]:List Int))] (vb x26)] [(1,rf 0),(7,vi c19),(8,rf 1),q3,q5,(64,vi c19),(88,vb x26)] q2 [PCall Try.prog 48 [(di 1),(di 4),(L3 ([(x22.Points.length:Int)]:List Int))] (vb x26)] (ct48 hx26) ?_
        refine cd h (fun hb27 h=>?_) (fun hb27 h=>?_)
        ·refine GA [(2,vi 3),(3,vi c19),(4,vi 3)] q2 ?_
         obtain rfl:=oi h
         refine WB 2 [(2,vi 3),(3,vi c19),(4,vi 3)] ?_
         exact awp_ret (gs [] [2,3,4] OutQ.ret)
        ·obtain ⟨x28,hx28,h⟩:=ob h
         refine GB [.no,.no,.hcall [] (vb x28) []] [(1,rf 0),(7,vi c19),q3,q5,(64,vi c19),(95,vb x28)] q2 [HCall Try.prog 52 [.d (L74 x22.Points),.fn (.func 53) [] []] [] (vb x28) []] (ct52 hx28) ?_
         refine cd h (fun hb29 h=>?_) (fun hb29 h=>?_)
         ·refine GA [(2,vi 3),(3,vi c19),(4,vi 7)] q2 ?_
          obtain rfl:=oi h
          refine WB 2 [(2,vi 3),(3,vi c19),(4,vi 7)] ?_
          exact awp_ret (gs [] [2,3,4] OutQ.ret)
         ·refine awp_skip ?_
          show awp ..
          refine XA [(1,rf 0),q3,q5,(64,vi (w64 (c19+1)))] q2 ?_
          exact gn 1 [1,62,63,64] (hrn20 _ h)
     ·refine awp_exit ?_
      obtain rfl:=oi h
      exact gs [0] [] OutQ.norm
    ·obtain rfl:=oi h
     exact gm
    ·show awp ..
     refine GA [(2,vi 0),(3,vi 0),(4,vi 0)] [cs p_c] ?_
     obtain rfl:=oi h
     refine WB 1 [(2,vi 0),(3,vi 0),(4,vi 0)] ?_
     exact awp_ret gm
end Go.Proofs.Ytallnifoeahpiaa
