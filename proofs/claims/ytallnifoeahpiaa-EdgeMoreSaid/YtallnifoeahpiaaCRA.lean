/- That functions of the seat compute this. Printed by a program of mine. -/
import Derived.Test.YtallnifoeahpiaaS
import Derived.Test.YtallnifoeahpiaaDRA
namespace Go.Proofs.Ytallnifoeahpiaa
open Go Go.Sx
set_option maxRecDepth 100000
set_option linter.unusedVariables false
theorem ct54  {p_n:Int} {low:Int} {high:Int} {res:Bool} (h:F54 p_n low high=some res):PCall Try.prog 54 [(di p_n),(di low),(di high)] (vb res):=by
 refine PCall.of_awp tt_ok (N:=15) Try.func54 rfl (by kernel_rfl) rfl (Nat.le_of_ble_eq_true rfl) rfl ?_
 unfold F54 at h
 refine GA [(0,vi p_n),(1,vi low),(2,vi high)] [] ?_
 let q1:=(decide (p_n≥low))
 refine HB [] [(6,vb (cond q1 (decide (p_n≤high)) false))] [(q1=true→q1=true),(q1=true→q1=true),(q1=true→q1=true)] (And.intro (id) (And.intro (id) (id))) ?_
 obtain rfl:=oi h
 refine WB 0 [(6,vb (cond q1 (decide (p_n≤high)) false))] ?_
 exact awp_ret gm
theorem ct106  {p_n:Int} {low:Int} {high:Int} {res:Bool} (h:F106 p_n low high=some res):PCall Try.prog 106 [(di p_n),(di low),(di high)] (vb res):=by
 refine PCall.of_awp tt_ok (N:=15) Try.func106 rfl (by kernel_rfl) rfl (Nat.le_of_ble_eq_true rfl) rfl ?_
 unfold F106 at h
 refine GA [(0,vi p_n),(1,vi low),(2,vi high)] [] ?_
 let q1:=(decide (p_n≥low))
 refine HB [] [(6,vb (cond q1 (decide (p_n≤high)) false))] [(q1=true→q1=true),(q1=true→q1=true),(q1=true→q1=true)] (And.intro (id) (And.intro (id) (id))) ?_
 obtain rfl:=oi h
 refine WB 0 [(6,vb (cond q1 (decide (p_n≤high)) false))] ?_
 exact awp_ret gm
theorem ct101 {fuel:Nat}  {p_s:ByteArray} {res:Bool} (h:F101 fuel p_s=some res):PCall Try.prog 101 [(.v (.string p_s))] (vb res):=by
 refine PCall.of_awp tt_ok (N:=52) Try.func101 rfl (by kernel_rfl) rfl (Nat.le_of_ble_eq_true rfl) rfl ?_
 unfold F101 at h
 let q2:Nat×V:=(0,.d (.v (.string p_s)))
 refine GA [q2] [] ?_
 refine awp_seq ?_
 obtain ⟨x1,hx1,h⟩:=ob h
 obtain ⟨x2,hx2,h⟩:=ob h
 obtain ⟨x3,hx3,h⟩:=ob h
 let q1:=(cond (!x1) true (decide (x2<97)))
 refine HB [.no,.no,.call [(di (p_s.size:Int)),(di 1),(di 16)] (vb x1),.no,.no,.no,.cells [.v (.int .u8 x2)],.no,.no,.no,.no,.cells [.v (.int .u8 x3)]] [q2,(17,vb (cond q1 true (decide (x3>122))))] [PCall Try.prog 106 [(di (p_s.size:Int)),(di 1),(di 16)] (vb x1),((!(!x1))=true→(!(!x1))=true),((!(!x1))=true→StrAt p_s 0 x2),((!(!x1))=true→(!(!x1))=true),((!x1)=false→(!(!x1))=true),((!q1)=true→(!q1)=true),((!q1)=true→StrAt p_s 0 x3),((!q1)=true→(!q1)=true),(q1=false→(!q1)=true)] (And.intro (ct106 hx1) (And.intro (id) (And.intro ((fun hg=>strAt_of (optG_of hx2 hg))) (And.intro (id) (And.intro (not_of) (And.intro (id) (And.intro ((fun hg=>strAt_of (optG_of hx3 hg))) (And.intro (id) (not_of))))))))) ?_
 refine cd h (fun hb4 h=>?_) (fun hb4 h=>?_)
 ·refine GA [(2,vb false)] [] ?_
  obtain rfl:=oi h
  refine WB 0 [(2,vb false)] ?_
  exact awp_ret gm
 ·refine awp_skip ?_
  show awp ..
  refine awp_seq (GA [q2,(3,vi 0)] [] ?_)
  refine cuo h (fun (ro5:Bool)=>[(2,vb ro5)]) (fun (ro5:Bool)=>[]) (fun (so5:Unit)=>[]) (fun (so5:Unit)=>[]) (fun o5 h=>?_) (fun ro5 h=>?_) (fun so5 h=>?_)
  ·refine awp_selQ (WA 0 [q2,(3,vi 0)] [] ?_)
   refine awp_block (awp_loop (n:=fuel) ?_)
   refine awpN_ind (fun n (c6:Int)=>F101L1 p_s n c6) o5 (fun (c6:Int)=>[q2,(3,vi c6)]) (fun (c6:Int)=>[]) (fun _=>rfl) ?_ fuel 0 h
   clear h
   intro n7 c6 h hrn7
   change F101L1 p_s (n7+1) c6=some o5 at h
   rw [F101L1] at h
   refine awp_seq (GA [q2,(3,vi c6),(21,vb (decide (c6<(p_s.size:Int))))] [] ?_)
   refine cd h (fun hb8 h=>?_) (fun hb8 h=>?_)
   ·refine awp_skip ?_
    show awp ..
    refine awp_seq (awp_block ?_)
    obtain ⟨x9,hx9,h⟩:=ob h
    obtain ⟨x10,hx10,h⟩:=ob h
    obtain ⟨x11,hx11,h⟩:=ob h
    obtain ⟨x12,hx12,h⟩:=ob h
    obtain ⟨x13,hx13,h⟩:=ob h
    refine GB [.no,.no,.cells [.v (.int .u8 x9)],.no,.no,.no,.no,.cells [.v (.int .u8 x10)],.no,.no,.no,.no,.no,.cells [.v (.int .u8 x11)],.no,.no,.no,.no,.cells [.v (.int .u8 x12)],.no,.own,.no,.no,.no,.no,.cells [.v (.int .u8 x13)]] [q2,(3,vi c6),(51,vb (cond (cond (cond (decide (x9<97)) true (decide (x10>122))) (cond (decide (x11<48)) true (decide (x12>57))) false) (x13 != 45) false))] [] [StrAt p_s c6 x9,((!(decide (x9<97)))=true→(!(decide (x9<97)))=true),((!(decide (x9<97)))=true→(!(decide (x9<97)))=true),((!(decide (x9<97)))=true→StrAt p_s c6 x10),((!(decide (x9<97)))=true→(!(decide (x9<97)))=true),((decide (x9<97))=false→(!(decide (x9<97)))=true),((cond (decide (x9<97)) true (decide (x10>122)))=true→(cond (decide (x9<97)) true (decide (x10>122)))=true),((cond (decide (x9<97)) true (decide (x10>122)))=true→(cond (decide (x9<97)) true (decide (x10>122)))=true),((cond (decide (x9<97)) true (decide (x10>122)))=true→StrAt p_s c6 x11),((cond (decide (x9<97)) true (decide (x10>122)))=true→(cond (decide (x9<97)) true (decide (x10>122)))=true),((cond (decide (x9<97)) true (decide (x10>122)))=true→(cond (decide (x9<97)) true (decide (x10>122)))=true),(((cond (decide (x9<97)) true (decide (x10>122)))&&(!(decide (x11<48))))=true→((cond (decide (x9<97)) true (decide (x10>122)))&&(!(decide (x11<48))))=true),(((cond (decide (x9<97)) true (decide (x10>122)))&&(!(decide (x11<48))))=true→((cond (decide (x9<97)) true (decide (x10>122)))&&(!(decide (x11<48))))=true),(((cond (decide (x9<97)) true (decide (x10>122)))&&(!(decide (x11<48))))=true→StrAt p_s c6 x12),(((cond (decide (x9<97)) true (decide (x10>122)))&&(!(decide (x11<48))))=true→((cond (decide (x9<97)) true (decide (x10>122)))&&(!(decide (x11<48))))=true),((cond (decide (x9<97)) true (decide (x10>122)))=true→(cond (decide (x9<97)) true (decide (x10>122)))=true),((cond (decide (x9<97)) true (decide (x10>122)))=true→(decide (x11<48))=false→((cond (decide (x9<97)) true (decide (x10>122)))&&(!(decide (x11<48))))=true),((cond (decide (x9<97)) true (decide (x10>122)))=true→(cond (decide (x9<97)) true (decide (x10>122)))=true),((cond (cond (decide (x9<97)) true (decide (x10>122))) (cond (decide (x11<48)) true (decide (x12>57))) false)=true→(cond (cond (decide (x9<97)) true (decide (x10>122))) (cond (decide (x11<48)) true (decide (x12>57))) false)=true),((cond (cond (decide (x9<97)) true (decide (x10>122))) (cond (decide (x11<48)) true (decide (x12>57))) false)=true→(cond (cond (decide (x9<97)) true (decide (x10>122))) (cond (decide (x11<48)) true (decide (x12>57))) false)=true),((cond (cond (decide (x9<97)) true (decide (x10>122))) (cond (decide (x11<48)) true (decide (x12>57))) false)=true→StrAt p_s c6 x13),((cond (cond (decide (x9<97)) true (decide (x10>122))) (cond (decide (x11<48)) true (decide (x12>57))) false)=true→(cond (cond (decide (x9<97)) true (decide (x10>122))) (cond (decide (x11<48)) true (decide (x12>57))) false)=true),((cond (cond (decide (x9<97)) true (decide (x10>122))) (cond (decide (x11<48)) true (decide (x12>57))) false)=true→(cond (cond (decide (x9<97)) true (decide (x10>122))) (cond (decide (x11<48)) true (decide (x12>57))) false)=true)] (And.intro (strAt_of hx9) (And.intro (id) (And.intro (id) (And.intro ((fun hg=>strAt_of (optG_of hx10 hg))) (And.intro (id) (And.intro (not_of) (And.intro (id) (And.intro (id) (And.intro ((fun hg=>strAt_of (optG_of hx11 hg))) (And.intro (id) (And.intro (id) (And.intro (id) (And.intro (id) (And.intro ((fun hg=>strAt_of (optG_of hx12 hg))) (And.intro (id) (And.intro (id) (And.intro ((fun hg h1=>by first|exact hg|exact h1|(rw [hg,h1];rfl)|(simp only [hg,h1,Bool.not_true,Bool.not_false,Bool.and_self,Bool.true_and,Bool.and_true];done)|(simp only [Bool.and_eq_true] at hg;simp only [hg,h1,Bool.not_true,Bool.not_false,Bool.and_self,Bool.true_and,Bool.and_true];done)|simp_all)) (And.intro (id) (And.intro (id) (And.intro (id) (And.intro ((fun hg=>strAt_of (optG_of hx13 hg))) (And.intro (id) (id))))))))))))))))))))))) ?_
    refine cd h (fun hb14 h=>?_) (fun hb14 h=>?_)
    ·refine GA [(2,vb false)] [] ?_
     obtain rfl:=oi h
     refine WB 0 [(2,vb false)] ?_
     exact awp_ret (gs [] [2] OutQ.ret)
    ·refine awp_skip ?_
     show awp ..
     refine XA [q2,(3,vi (w64 (c6+1)))] [] ?_
     exact gn 0 [0,3] (hrn7 _ h)
   ·refine awp_exit ?_
    obtain rfl:=oi h
    exact gs [] [] OutQ.norm
  ·obtain rfl:=oi h
   exact gm
  ·show awp ..
   refine GA [(2,vb true)] [] ?_
   obtain rfl:=oi h
   refine WB 0 [(2,vb true)] ?_
   exact awp_ret gm
theorem ct102v1 {fuel:Nat}  {l:(List ByteArray)} {p_s:ByteArray} {res:Int} (h:F102v1 fuel l p_s=some res):PCall Try.prog 102 [(L9 l),(.v (.string p_s))] (vi res):=by
 refine PCall.of_awp tt_ok (N:=19) Try.func102 rfl (by kernel_rfl) rfl (Nat.le_of_ble_eq_true rfl) rfl ?_
 unfold F102v1 at h
 let q1:Nat×V:=(1,.d (.v (.string p_s)))
 let q2:Nat×V:=(0,.d (L9 l))
 refine GA [q2,q1] [] ?_
 refine awp_seq (HA [q2,q1,(5,vi 0)] ?_)
 refine cuo h (fun (ro1:Int)=>[(4,vi ro1)]) (fun (ro1:Int)=>[]) (fun (so1:Unit)=>[]) (fun (so1:Unit)=>[]) (fun o1 h=>?_) (fun ro1 h=>?_) (fun so1 h=>?_)
 ·refine awp_selQ (WA 0 [q2,q1,(5,vi 0)] [] ?_)
  refine awp_block (awp_loop (n:=fuel) ?_)
  refine awpN_ind (fun n (c2:Int)=>F102v1L1 l p_s n c2) o1 (fun (c2:Int)=>[q2,q1,(5,vi c2)]) (fun (c2:Int)=>[]) (fun _=>rfl) ?_ fuel 0 h
  clear h
  intro n3 c2 h hrn3
  change F102v1L1 l p_s (n3+1) c2=some o1 at h
  rw [F102v1L1] at h
  refine awp_seq (GA [q2,q1,(5,vi c2),(9,vb (decide (c2<(l.length:Int))))] [] ?_)
  refine cd h (fun hb4 h=>?_) (fun hb4 h=>?_)
  ·refine awp_skip ?_
   show awp ..
   refine awp_seq (awp_block ?_)
   obtain ⟨x5,hx5,h⟩:=ob h
   refine GB [.no,.no,.cells (cel9 x5)] [q2,q1,(5,vi c2),(17,vb (x5==p_s))] [] [IX9 l c2 x5] (idxOk cel9_len hx5) ?_
   refine cd h (fun hb6 h=>?_) (fun hb6 h=>?_)
   ·refine GA [(4,vi c2)] [] ?_
    obtain rfl:=oi h
    refine WB 0 [(4,vi c2)] ?_
    exact awp_ret (gs [] [4] OutQ.ret)
   ·refine awp_skip ?_
    show awp ..
    refine XA [q2,q1,(5,vi (w64 (c2+1)))] [] ?_
    exact gn 0 [0,1,5] (hrn3 _ h)
  ·refine awp_exit ?_
   obtain rfl:=oi h
   exact gs [] [] OutQ.norm
 ·obtain rfl:=oi h
  exact gm
 ·show awp ..
  refine GA [(4,vi (-1))] [] ?_
  obtain rfl:=oi h
  refine WB 0 [(4,vi (-1))] ?_
  exact awp_ret gm
theorem ct84v1 {fuel:Nat}  {p_s:ByteArray} {before:(List ByteArray)} {res:Int} (h:F84v1 fuel p_s before=some res):PCall Try.prog 84 [(.v (.string p_s)),(L9 before)] (vi res):=by
 refine PCall.of_awp tt_ok (N:=12) Try.func84 rfl (by kernel_rfl) rfl (Nat.le_of_ble_eq_true rfl) rfl ?_
 unfold F84v1 at h
 refine GA [(0,.d (.v (.string p_s))),(1,.d (L9 before))] [] ?_
 refine awp_seq ?_
 obtain ⟨x1,hx1,h⟩:=ob h
 refine HB [.no,.call [(.v (.string p_s))] (vb x1)] [(0,.d (.v (.string p_s))),(1,.d (L9 before)),(7,vb (!x1))] [PCall Try.prog 101 [(.v (.string p_s))] (vb x1)] (ct101 hx1) ?_
 refine cd h (fun hb2 h=>?_) (fun hb2 h=>?_)
 ·refine GA [(4,vi 6)] [] ?_
  obtain rfl:=oi h
  refine WB 0 [(4,vi 6)] ?_
  exact awp_ret gm
 ·refine awp_skip ?_
  show awp ..
  refine awp_seq ?_
  obtain ⟨x3,hx3,h⟩:=ob h
  refine GB [.no,.no,.call [(L9 before),(.v (.string p_s))] (vi x3)] [(11,vb (decide (x3≥0)))] [] [PCall Try.prog 102 [(L9 before),(.v (.string p_s))] (vi x3)] (ct102v1 hx3) ?_
  refine cd h (fun hb4 h=>?_) (fun hb4 h=>?_)
  ·refine GA [(4,vi 5)] [] ?_
   obtain rfl:=oi h
   refine WB 0 [(4,vi 5)] ?_
   exact awp_ret gm
  ·refine awp_skip ?_
   show awp ..
   refine GA [(4,vi 0)] [] ?_
   obtain rfl:=oi h
   refine WB 0 [(4,vi 0)] ?_
   exact awp_ret gm
theorem ct55v1 {fuel:Nat}  {p_s:S_api_EdSheet} {names:(List ByteArray)} {res:Int} (h:F55v1 fuel p_s names=some res):PCall Try.prog 55 [(.agg [(.v (.string p_s.Name)),(di p_s.Weight),(di p_s.Most)]),(L9 names)] (vi res):=by
 refine PCall.of_awp tt_ok (N:=25) Try.func55 rfl (by kernel_rfl) rfl (Nat.le_of_ble_eq_true rfl) rfl ?_
 unfold F55v1 at h
 let q1:List O:=[.cells [.d (.v (.string p_s.Name)),vi p_s.Weight,vi p_s.Most]]
 refine GA [(1,.d (L9 names)),(2,rf 0)] q1 ?_
 obtain ⟨x1,hx1,h⟩:=ob h
 refine HB [.no,.no,.no,.call [(.v (.string p_s.Name)),(L9 names)] (vi x1)] [(2,rf 0),(5,vi x1)] [PCall Try.prog 84 [(.v (.string p_s.Name)),(L9 names)] (vi x1)] (ct84v1 hx1) ?_
 refine awp_seq ?_
 obtain ⟨x2,hx2,h⟩:=ob h
 obtain ⟨x3,hx3,h⟩:=ob h
 refine HB [.no,.no,.no,.no,.no,.call [(di p_s.Weight),(di 0),(di 20)] (vb x2),.no,.no,.no,.no,.call [(di p_s.Most),(di 0),(di 6)] (vb x3),.no,.own] [(5,vi x1),(23,vb (cond (x1==0) (cond (!x2) true (!x3)) false))] [((x1==0)=true→(x1==0)=true),((x1==0)=true→(x1==0)=true),((x1==0)=true→PCall Try.prog 54 [(di p_s.Weight),(di 0),(di 20)] (vb x2)),((x1==0)=true→(x1==0)=true),((x1==0)=true→(x1==0)=true),(((x1==0)&&(!(!x2)))=true→((x1==0)&&(!(!x2)))=true),(((x1==0)&&(!(!x2)))=true→((x1==0)&&(!(!x2)))=true),(((x1==0)&&(!(!x2)))=true→PCall Try.prog 54 [(di p_s.Most),(di 0),(di 6)] (vb x3)),(((x1==0)&&(!(!x2)))=true→((x1==0)&&(!(!x2)))=true),((x1==0)=true→(x1==0)=true),((x1==0)=true→(!x2)=false→((x1==0)&&(!(!x2)))=true),((x1==0)=true→(x1==0)=true)] (And.intro (id) (And.intro (id) (And.intro ((fun hg=>ct54 (optG_of hx2 hg))) (And.intro (id) (And.intro (id) (And.intro (id) (And.intro (id) (And.intro ((fun hg=>ct54 (optG_of hx3 hg))) (And.intro (id) (And.intro (id) (And.intro ((fun hg h1=>by first|exact hg|exact h1|(rw [hg,h1];rfl)|(simp only [hg,h1,Bool.not_true,Bool.not_false,Bool.and_self,Bool.true_and,Bool.and_true];done)|(simp only [Bool.and_eq_true] at hg;simp only [hg,h1,Bool.not_true,Bool.not_false,Bool.and_self,Bool.true_and,Bool.and_true];done)|simp_all)) (id)))))))))))) ?_
 refine cd h (fun hb4 h=>?_) (fun hb4 h=>?_)
 ·refine XA [(5,vi 7)] q1 ?_
  show awp ..
  refine HA [(4,vi 7)] ?_
  obtain rfl:=oi h
  refine WB 1 [(4,vi 7)] ?_
  exact awp_ret gm
 ·refine awp_skip ?_
  show awp ..
  refine GA [(4,vi x1)] q1 ?_
  obtain rfl:=oi h
  refine WB 1 [(4,vi x1)] ?_
  exact awp_ret gm
theorem ct56 {fuel:Nat}  {p_x:S_api_EdEdge} {sheets:Int} {res:Int} (h:F56 fuel p_x sheets=some res):PCall Try.prog 56 [(.agg [(di p_x.A),(di p_x.B),(L74 p_x.Points)]),(di sheets)] (vi res):=by
 refine PCall.of_awp tt_ok (N:=55) Try.func56 rfl (by kernel_rfl) rfl (Nat.le_of_ble_eq_true rfl) rfl ?_
 unfold F56 at h
 let q2:O:=.cells [vi p_x.A,vi p_x.B,.d (L74 p_x.Points)]
 let q1:List O:=[q2]
 refine GA [(1,vi sheets),(2,rf 0)] q1 ?_
 refine awp_seq ?_
 obtain ⟨x1,hx1,h⟩:=ob h
 obtain ⟨x2,hx2,h⟩:=ob h
 refine HB [.no,.no,.no,.no,.call [(di p_x.A),(di 0),(di (w64 (sheets-1)))] (vb x1),.no,.no,.no,.no,.no,.no,.call [(di p_x.B),(di 0),(di (w64 (sheets-1)))] (vb x2)] [(2,rf 0),(19,vb (cond (!x1) true (!x2)))] [PCall Try.prog 54 [(di p_x.A),(di 0),(di (w64 (sheets-1)))] (vb x1),((!(!x1))=true→(!(!x1))=true),((!(!x1))=true→(!(!x1))=true),((!(!x1))=true→(!(!x1))=true),((!(!x1))=true→(!(!x1))=true),((!(!x1))=true→PCall Try.prog 54 [(di p_x.B),(di 0),(di (w64 (sheets-1)))] (vb x2)),((!(!x1))=true→(!(!x1))=true),((!x1)=false→(!(!x1))=true)] (And.intro (ct54 hx1) (And.intro (id) (And.intro (id) (And.intro (id) (And.intro (id) (And.intro ((fun hg=>ct54 (optG_of hx2 hg))) (And.intro (id) (not_of)))))))) ?_
 refine cd h (fun hb3 h=>?_) (fun hb3 h=>?_)
 ·refine GA [(4,vi 4)] q1 ?_
  obtain rfl:=oi h
  refine WB 1 [(4,vi 4)] ?_
  exact awp_ret gm
 ·refine awp_skip ?_
  show awp ..
  refine awp_seq (GA [(2,rf 0),(24,vb (p_x.A==p_x.B))] q1 ?_)
  refine cd h (fun hb4 h=>?_) (fun hb4 h=>?_)
  ·refine GA [(4,vi 2)] q1 ?_
   obtain rfl:=oi h
   refine WB 1 [(4,vi 2)] ?_
   exact awp_ret gm
  ·refine awp_skip ?_
   show awp ..
   refine awp_seq ?_
   obtain ⟨x5,hx5,h⟩:=ob h
   refine GB [.no,.no,.no,.call [(di (p_x.Points.length:Int)),(di 1),(di 4)] (vb x5)] [(2,rf 0),(29,vb (!x5))] q1 [PCall Try.prog 54 [(di (p_x.Points.length:Int)),(di 1),(di 4)] (vb x5)] (ct54 hx5) ?_
   refine cd h (fun hb6 h=>?_) (fun hb6 h=>?_)
   ·refine GA [(4,vi 3)] q1 ?_
    obtain rfl:=oi h
    refine WB 1 [(4,vi 3)] ?_
    exact awp_ret gm
   ·refine awp_skip ?_
    show awp ..
    refine awp_seq (GA [(2,rf 0),(5,vi 0)] q1 ?_)
    refine cuo h (fun (ro7:Int)=>[(4,vi ro7)]) (fun (ro7:Int)=>[]) (fun (so7:Unit)=>[]) (fun (so7:Unit)=>[q2]) (fun o7 h=>?_) (fun ro7 h=>?_) (fun so7 h=>?_)
    ·refine awp_selQ (WA 1 [(2,rf 0),(5,vi 0)] q1 ?_)
     refine awp_block (awp_loop (n:=fuel) ?_)
     refine awpN_ind (fun n (c8:Int)=>F56L1 p_x n c8) o7 (fun (c8:Int)=>[(2,rf 0),(5,vi c8)]) (fun (c8:Int)=>[q2]) (fun _=>rfl) ?_ fuel 0 h
     clear h
     intro n9 c8 h hrn9
     change F56L1 p_x (n9+1) c8=some o7 at h
     rw [F56L1] at h
     refine awp_seq (GA [(2,rf 0),(5,vi c8),(34,vb (decide (c8<(p_x.Points.length:Int))))] q1 ?_)
     refine cd h (fun hb10 h=>?_) (fun hb10 h=>?_)
     ·refine awp_skip ?_
      show awp ..
      refine awp_seq (awp_block ?_)
      obtain ⟨x11,hx11,h⟩:=ob h
      obtain ⟨x12,hx12,h⟩:=ob h
      obtain ⟨x13,hx13,h⟩:=ob h
      obtain ⟨x14,hx14,h⟩:=ob h
      refine GB [.no,.no,.no,.cells (cel74 x11),.no,.no,.call [(di x11.A),(di 0),(di 9000)] (vb x12),.no,.no,.no,.no,.no,.cells (cel74 x13),.no,.no,.call [(di x13.B),(di 0),(di 9000)] (vb x14)] [(2,rf 0),(5,vi c8),(54,vb (cond (!x12) true (!x14)))] q1 [IX74 p_x.Points c8 x11,PCall Try.prog 54 [(di x11.A),(di 0),(di 9000)] (vb x12),((!(!x12))=true→(!(!x12))=true),((!(!x12))=true→(!(!x12))=true),((!(!x12))=true→(!(!x12))=true),((!(!x12))=true→IX74 p_x.Points c8 x13),((!(!x12))=true→(!(!x12))=true),((!(!x12))=true→(!(!x12))=true),((!(!x12))=true→(!(!x12))=true),((!(!x12))=true→PCall Try.prog 54 [(di x13.B),(di 0),(di 9000)] (vb x14)),((!(!x12))=true→(!(!x12))=true),((!x12)=false→(!(!x12))=true)] (And.intro (idxOk cel74_len hx11) (And.intro (ct54 hx12) (And.intro (id) (And.intro (id) (And.intro (id) (And.intro ((fun hg=>idxOk cel74_len (optG_of hx13 hg))) (And.intro (id) (And.intro (id) (And.intro (id) (And.intro ((fun hg=>ct54 (optG_of hx14 hg))) (And.intro (id) (not_of)))))))))))) ?_
      refine cd h (fun hb15 h=>?_) (fun hb15 h=>?_)
      ·refine GA [(4,vi 7)] q1 ?_
       obtain rfl:=oi h
       refine WB 1 [(4,vi 7)] ?_
       exact awp_ret (gs [] [4] OutQ.ret)
      ·refine awp_skip ?_
       show awp ..
       refine XA [(2,rf 0),(5,vi (w64 (c8+1)))] q1 ?_
       exact gn 1 [2,5] (hrn9 _ h)
     ·refine awp_exit ?_
      obtain rfl:=oi h
      exact gs [0] [] OutQ.norm
    ·obtain rfl:=oi h
     exact gm
    ·show awp ..
     refine GA [(4,vi 0)] q1 ?_
     obtain rfl:=oi h
     refine WB 1 [(4,vi 0)] ?_
     exact awp_ret gm
theorem ct17 {fuel:Nat}  {p_c:S_api_EdCase} {res:Int×Int×Int} (h:F17 fuel p_c=some res):PCall Try.prog 17 [(ca p_c)] (.tup [vi res.1,vi res.2.1,vi res.2.2]):=by
 refine PCall.of_awp tt_ok (N:=72) Try.func17 rfl (by kernel_rfl) rfl (Nat.le_of_ble_eq_true rfl) rfl ?_
 unfold F17 at h
 refine GA [(1,rf 0)] [cs p_c] ?_
 refine awp_seq ?_
 obtain ⟨x1,hx1,h⟩:=ob h
 refine HB [.no,.no,.call [(di p_c.Tol),(di 0),(di 50)] (vb x1)] [(1,rf 0),(13,vb (!x1))] [PCall Try.prog 54 [(di p_c.Tol),(di 0),(di 50)] (vb x1)] (ct54 hx1) ?_
 refine cd h (fun hb2 h=>?_) (fun hb2 h=>?_)
 ·refine GA [(2,vi 1),(3,vi 0),(4,vi 7)] [cs p_c] ?_
  obtain rfl:=oi h
  refine WB 1 [(2,vi 1),(3,vi 0),(4,vi 7)] ?_
  exact awp_ret gm
 ·refine awp_skip ?_
  show awp ..
  refine awp_seq ?_
  obtain ⟨x3,hx3,h⟩:=ob h
  let q5:=(p_c.Sheets.length:Int)
  refine GB [.no,.no,.no,.call [(di q5),(di 1),(di 5)] (vb x3)] [(1,rf 0),(24,vb (cond (!x3) true (decide ((p_c.Edges.length:Int)>8))))] [cs p_c] [PCall Try.prog 54 [(di q5),(di 1),(di 5)] (vb x3),((!(!x3))=true→(!(!x3))=true),((!(!x3))=true→(!(!x3))=true),((!(!x3))=true→(!(!x3))=true),((!x3)=false→(!(!x3))=true)] (And.intro (ct54 hx3) (And.intro (id) (And.intro (id) (And.intro (id) (not_of))))) ?_
  refine cd h (fun hb4 h=>?_) (fun hb4 h=>?_)
  ·refine GA [(2,vi 1),(3,vi 0),(4,vi 3)] [cs p_c] ?_
   obtain rfl:=oi h
   refine WB 1 [(2,vi 1),(3,vi 0),(4,vi 3)] ?_
   exact awp_ret gm
  ·refine awp_skip ?_
   show awp ..
   refine GA [(1,rf 0),(5,.d dnil)] [cs p_c] ?_
   refine awp_seq (HA [(1,rf 0),(5,.d dnil),(6,vi 0)] ?_)
   refine awp_nil 5 1 (by kernel_rfl) ?_
   let q3:=([]:List ByteArray)
   let q6:List O:=[cs p_c,.data (q3.flatMap cel9)]
   refine awp_eq (T':=[(5,.sl 1 1 0 q3.length),(1,rf 0),(6,vi 0)]) (H':=[cs p_c,.data (q3.flatMap cel9)]) (by kernel_rfl) (by kernel_rfl) ?_
   refine WA 2 [(1,rf 0),(5,.sl 1 1 0 q3.length),(6,vi 0)] q6 ?_
   refine cuo h (fun (ro6:Int×Int×Int)=>[(2,vi ro6.1),(3,vi ro6.2.1),(4,vi ro6.2.2)]) (fun (ro6:Int×Int×Int)=>[]) (fun (so6:(List ByteArray))=>[(1,rf 0)]) (fun (so6:(List ByteArray))=>[cs p_c,.data (so6.flatMap cel9)]) (fun o6 h=>?_) (fun ro6 h=>?_) (fun so6 h=>?_)
   ·refine awp_selQ (WA 2 [(1,rf 0),(5,.sl 1 1 0 q3.length),(6,vi 0)] q6 ?_)
    refine awp_block (awp_loop (n:=fuel) ?_)
    refine awpN_ind (fun n (c7:Int×(List ByteArray))=>F17L1 fuel p_c n c7) o6 (fun (c7:Int×(List ByteArray))=>[(1,rf 0),(5,.sl 1 1 0 c7.2.length),(6,vi c7.1)]) (fun (c7:Int×(List ByteArray))=>[cs p_c,.data (c7.2.flatMap cel9)]) (fun _=>rfl) ?_ fuel (0,q3) h
    clear h
    intro n8 c7 h hrn8
    change F17L1 fuel p_c (n8+1) c7=some o6 at h
    rw [F17L1] at h
    let q4:List O:=[cs p_c,.data (c7.2.flatMap cel9)]
    refine awp_seq (GA [(1,rf 0),(5,.sl 1 1 0 c7.2.length),(6,vi c7.1),(29,vb (decide (c7.1<q5)))] q4 ?_)
    refine cd h (fun hb9 h=>?_) (fun hb9 h=>?_)
    ·refine awp_skip ?_
     show awp ..
     refine awp_seq (awp_block ?_)
     obtain ⟨x10,hx10,h⟩:=ob h
     obtain ⟨x11,hx11,h⟩:=ob h
     refine GB [.no,.no,.no,.cells (cel66 x10),.no,.no,.call [(.agg [(.v (.string x10.Name)),(di x10.Weight),(di x10.Most)]),(L9 c7.2)] (vi x11)] [(1,rf 0),(5,.sl 1 1 0 c7.2.length),(6,vi c7.1),(7,vi x11)] q4 [IX66 p_c.Sheets c7.1 x10,argsOk q4 [.d (.agg [(.v (.string x10.Name)),(di x10.Weight),(di x10.Most)]),.sl 1 1 0 c7.2.length] [(.agg [(.v (.string x10.Name)),(di x10.Weight),(di x10.Most)]),(L9 c7.2)],PCall Try.prog 55 [(.agg [(.v (.string x10.Name)),(di x10.Weight),(di x10.Most)]),(L9 c7.2)] (vi x11)] (And.intro (idxOk cel66_len hx10) (And.intro ((And.intro (rfl) (And.intro (lentOk cel9_len rfl) trivial))) (ct55v1 hx11))) ?_
     refine awp_seq (HA [(1,rf 0),(5,.sl 1 1 0 c7.2.length),(6,vi c7.1),(7,vi x11),(40,vb (x11 != 0))] ?_)
     refine cd h (fun hb12 h=>?_) (fun hb12 h=>?_)
     ·refine GA [(2,vi 2),(3,vi c7.1),(4,vi x11)] q4 ?_
      obtain rfl:=oi h
      refine WB 2 [(2,vi 2),(3,vi c7.1),(4,vi x11)] ?_
      exact awp_ret (gs [] [2,3,4] OutQ.ret)
     ·refine awp_skip ?_
      show awp ..
      obtain ⟨x13,hx13,h⟩:=ob h
      obtain ⟨x14,hx14,h⟩:=ob h
      let q2:=(c7.2++([x13.Name]:List ByteArray))
      refine XB [.no,.no,.no,.no,.cells (cel66 x13),.no,.no,.no,.list q2.length (q2.flatMap cel9)] [(1,rf 0),(5,.sl 1 1 0 q2.length),(6,vi c7.1)] [cs p_c,.data (q2.flatMap cel9)] [IX66 p_c.Sheets c7.1 x13,AppendOk ((c7.2.flatMap cel9).map .d) c7.2.length ([x13.Name]:List ByteArray).length q2.length 1 16 (([x13.Name]:List ByteArray).flatMap cel9) (q2.flatMap cel9)] (And.intro (idxOk cel66_len hx13) (appendOk cel9_len (need_of hx14))) ?_
      show awp ..
      refine YA [(1,rf 0),(5,.sl 1 1 0 q2.length),(6,vi (w64 (c7.1+1)))] ?_
      exact gn 2 [1,5,6] (hrn8 _ h)
    ·refine awp_exit ?_
     obtain rfl:=oi h
     exact gs [0,1] [1] OutQ.norm
   ·obtain rfl:=oi h
    exact gm
   ·show awp ..
    let q1:List O:=[cs p_c,.data (so6.flatMap cel9)]
    refine awp_seq (GA [(1,rf 0),(8,vi 0)] q1 ?_)
    refine cuo h (fun (ro15:Int×Int×Int)=>[(2,vi ro15.1),(3,vi ro15.2.1),(4,vi ro15.2.2)]) (fun (ro15:Int×Int×Int)=>[]) (fun (so15:Unit)=>[]) (fun (so15:Unit)=>[cs p_c,.data (so6.flatMap cel9)]) (fun o15 h=>?_) (fun ro15 h=>?_) (fun so15 h=>?_)
    ·refine awp_selQ (WA 2 [(1,rf 0),(8,vi 0)] q1 ?_)
     refine awp_block (awp_loop (n:=fuel) ?_)
     refine awpN_ind (fun n (c16:Int)=>F17L2 fuel p_c n c16) o15 (fun (c16:Int)=>[(1,rf 0),(8,vi c16)]) (fun (c16:Int)=>[cs p_c,.data (so6.flatMap cel9)]) (fun _=>rfl) ?_ fuel 0 h
     clear h
     intro n17 c16 h hrn17
     change F17L2 fuel p_c (n17+1) c16=some o15 at h
     rw [F17L2] at h
     refine awp_seq (GA [(1,rf 0),(8,vi c16),(56,vb (decide (c16<(p_c.Edges.length:Int))))] q1 ?_)
     refine cd h (fun hb18 h=>?_) (fun hb18 h=>?_)
     ·refine awp_skip ?_
      show awp ..
      refine awp_seq (awp_block ?_)
      obtain ⟨x19,hx19,h⟩:=ob h
      obtain ⟨x20,hx20,h⟩:=ob h
      refine sd [1,8,9] [.no,.no,.no,.cells (cel71 x19),.no,.no,.no,.no,.call [(.agg [(di x19.A),(di x19.B),(L74 x19.Points)]),(di q5)] (vi x20)] 8 [1,8,9,63,66,67] [(1,rf 0),(8,vi c16),(9,vi x20)] q1 [IX71 p_c.Edges c16 x19,PCall Try.prog 56 [(.agg [(di x19.A),(di x19.B),(L74 x19.Points)]),(di q5)] (vi x20)] (And.intro (idxOk cel71_len hx19) (ct56 hx20)) ?_
      refine HA [(1,rf 0),(8,vi c16),(9,vi x20),(69,vb (x20 != 0))] ?_
      refine cd h (fun hb21 h=>?_) (fun hb21 h=>?_)
      ·refine GA [(2,vi 3),(3,vi c16),(4,vi x20)] q1 ?_
       obtain rfl:=oi h
       refine WB 2 [(2,vi 3),(3,vi c16),(4,vi x20)] ?_
       exact awp_ret (gs [] [2,3,4] OutQ.ret)
      ·refine awp_skip ?_
       show awp ..
       refine XA [(1,rf 0),(8,vi (w64 (c16+1)))] q1 ?_
       exact gn 2 [1,8] (hrn17 _ h)
     ·refine awp_exit ?_
      obtain rfl:=oi h
      exact gs [0,1] [] OutQ.norm
    ·obtain rfl:=oi h
     exact gm
    ·show awp ..
     refine GA [(2,vi 0),(3,vi 0),(4,vi 0)] q1 ?_
     obtain rfl:=oi h
     refine WB 2 [(2,vi 0),(3,vi 0),(4,vi 0)] ?_
     exact awp_ret gm
theorem ct58 {fuel:Nat}  {p_c:S_api_EdCase} {p_x:S_api_EdEdge} {res:S_api_Span×Bool} (h:F58 fuel p_c p_x=some res):PCall Try.prog 58 [(ca p_c),(.agg [(di p_x.A),(di p_x.B),(L74 p_x.Points)])] (.tup [.d (.agg [(di res.1.Lo),(di res.1.Hi)]),vb res.2]):=by
 refine PCall.of_awp tt_ok (N:=79) Try.func58 rfl (by kernel_rfl) rfl (Nat.le_of_ble_eq_true rfl) rfl ?_
 unfold F58 at h
 let q1:O:=.cells [vi p_x.A,vi p_x.B,.d (L74 p_x.Points)]
 let q3:O:=.cells [vi 0,vi 0]
 refine GA [(2,rf 0),(3,rf 1),(4,rf 2)] [cs p_c,q1,q3] ?_
 refine awp_res [cs p_c,q1,q3,.data []] (by kernel_rfl) ?_
 obtain ⟨x1,hx1,h⟩:=ob h
 obtain ⟨x2,hx2,h⟩:=ob h
 obtain ⟨x3,hx3,h⟩:=ob h
 obtain ⟨x4,hx4,h⟩:=ob h
 let q2:O:=.cells [vi (w64 ((w64 (x1.B-x2.A))-p_c.Tol)),vi (w64 ((w64 (x3.B-x4.A))+p_c.Tol))]
 refine awp_seq (awp_any (T':=[(2,rf 0),(3,rf 1),(4,rf 2),(6,rf 3)]) (H':=[cs p_c,q1,q3,q2]) (ps:=[IX74 p_x.Points 0 x1,IX74 p_x.Points 0 x2,IX74 p_x.Points 0 x3,IX74 p_x.Points 0 x4]) tt_ok mixed (ks:=[2,3,4,6]) (hs:=[.no,.no,.cells (cel74 x1),.no,.no,.no,.no,.cells (cel74 x2),.no,.no,.no,.no,.no,.no,.no,.no,.cells (cel74 x3),.no,.no,.no,.no,.cells (cel74 x4),.no,.no,.no,.no,.no,.no,.no,.res 3]) (m:=30) (mid:=[2,3,4,6,37]) (by kernel_rfl) (And.intro (idxOk cel74_len hx1) (And.intro (idxOk cel74_len hx2) (And.intro (idxOk cel74_len hx3) (idxOk cel74_len hx4)))) ?_)
 show awp ..
 refine awp_seq (GA [(2,rf 0),(3,rf 1),(4,rf 2),(6,rf 3),(7,vi 1)] [cs p_c,q1,q3,q2] ?_)
 refine cuo h (fun (ro5:S_api_Span×Bool)=>[(4,rf 0),(5,vb ro5.2)]) (fun (ro5:S_api_Span×Bool)=>[.cells [vi ro5.1.Lo,vi ro5.1.Hi]]) (fun (so5:Int×Int)=>[(4,rf 2),(6,rf 3)]) (fun (so5:Int×Int)=>[cs p_c,q1,q3,.cells [vi so5.1,vi so5.2]]) (fun o5 h=>?_) (fun ro5 h=>?_) (fun so5 h=>?_)
 ·refine awp_selQ (WA 4 [(2,rf 0),(3,rf 1),(4,rf 2),(6,rf 3),(7,vi 1)] [cs p_c,q1,q3,q2] ?_)
  refine awp_block (awp_loop (n:=fuel) ?_)
  refine awpN_ind (fun n (c6:Int×Int×Int)=>F58L1 p_c p_x n c6) o5 (fun (c6:Int×Int×Int)=>[(2,rf 0),(3,rf 1),(4,rf 2),(6,rf 3),(7,vi c6.1)]) (fun (c6:Int×Int×Int)=>[cs p_c,q1,q3,.cells [vi c6.2.1,vi c6.2.2]]) (fun _=>rfl) ?_ fuel (1,(w64 ((w64 (x1.B-x2.A))-p_c.Tol)),(w64 ((w64 (x3.B-x4.A))+p_c.Tol))) h
  clear h
  intro n7 c6 h hrn7
  change F58L1 p_c p_x (n7+1) c6=some o5 at h
  rw [F58L1] at h
  refine awp_seq (GA [(2,rf 0),(3,rf 1),(4,rf 2),(6,rf 3),(7,vi c6.1),(42,vb (decide (c6.1<(p_x.Points.length:Int))))] [cs p_c,q1,q3,.cells [vi c6.2.1,vi c6.2.2]] ?_)
  refine cd h (fun hb8 h=>?_) (fun hb8 h=>?_)
  ·refine awp_skip ?_
   show awp ..
   refine awp_seq (awp_block ?_)
   obtain ⟨x9,hx9,h⟩:=ob h
   obtain ⟨x10,hx10,h⟩:=ob h
   let q5:=(w64 (x9.B-x10.A))
   refine sd [2,3,4,6,7,8] [.no,.no,.no,.cells (cel74 x9),.no,.no,.no,.no,.no,.cells (cel74 x10)] 12 [2,3,4,6,7,8,50,56,57] [(2,rf 0),(3,rf 1),(4,rf 2),(6,rf 3),(7,vi c6.1),(8,vi q5)] [cs p_c,q1,q3,.cells [vi c6.2.1,vi c6.2.2]] [IX74 p_x.Points c6.1 x9,IX74 p_x.Points c6.1 x10] (And.intro (idxOk cel74_len hx9) (idxOk cel74_len hx10)) ?_
   refine XA [(2,rf 0),(3,rf 1),(4,rf 2),(6,rf 3),(7,vi c6.1)] [cs p_c,q1,q3,.cells [vi (if (w64 (q5-p_c.Tol))>c6.2.1 then (w64 (q5-p_c.Tol)) else c6.2.1),vi (if (w64 (q5+p_c.Tol))<c6.2.2 then (w64 (q5+p_c.Tol)) else c6.2.2)]] ?_
   show awp ..
   refine YA [(2,rf 0),(3,rf 1),(4,rf 2),(6,rf 3),(7,vi (w64 (c6.1+1)))] ?_
   exact gn 4 [2,3,4,6,7] (hrn7 _ h)
  ·refine awp_exit ?_
   obtain rfl:=oi h
   exact gs [0,1,2,3] [4,6] OutQ.norm
 ·obtain rfl:=oi h
  exact gm
 ·show awp ..
  let q4:O:=.cells [vi so5.1,vi so5.2]
  refine awp_seq (awp_any (T':=[(4,rf 2),(5,vb (decide (so5.1≤so5.2)))]) (H':=[cs p_c,q1,q4,q4]) (ps:=[]) tt_ok mixed (ks:=[4,5]) (hs:=[]) (m:=7) (mid:=[4,5,78]) (by kernel_rfl) trivial ?_)
  show awp ..
  obtain rfl:=oi h
  refine WA 4 [(4,rf 2),(5,vb (decide (so5.1≤so5.2)))] [cs p_c,q1,q4,q4] ?_
  exact awp_ret gm
theorem ct19 {fuel:Nat}  {p_c:S_api_EdCase} {i:Int} {res:S_api_Span×Int} (h:F19 fuel p_c i=some res):PCall Try.prog 19 [(ca p_c),(di i)] (.tup [.d (.agg [(di res.1.Lo),(di res.1.Hi)]),vi res.2]):=by
 refine PCall.of_awp tt_ok (N:=46) Try.func19 rfl (by kernel_rfl) rfl (Nat.le_of_ble_eq_true rfl) rfl ?_
 unfold F19 at h
 let q1:O:=.cells [vi 0,vi 0]
 refine GA [(1,vi i),(2,rf 0),(4,rf 1)] [cs p_c,q1] ?_
 obtain ⟨x1,hx1,h⟩:=ob h
 refine HB [.no,.call [(ca p_c)] (.tup [vi x1.1,vi x1.2.1,vi x1.2.2])] [(1,vi i),(2,rf 0),(4,rf 1),(8,vi x1.2.2)] [PCall Try.prog 17 [(ca p_c)] (.tup [vi x1.1,vi x1.2.1,vi x1.2.2])] (ct17 hx1) ?_
 refine awp_seq ?_
 obtain ⟨x2,hx2,h⟩:=ob h
 refine HB [.no,.no,.no,.no,.no,.no,.no,.no,.call [(di i),(di 0),(di (w64 ((p_c.Edges.length:Int)-1)))] (vb x2)] [(1,vi i),(2,rf 0),(4,rf 1),(8,vi x1.2.2),(27,vb (cond (x1.2.2==0) (!x2) false))] [((x1.2.2==0)=true→(x1.2.2==0)=true),((x1.2.2==0)=true→(x1.2.2==0)=true),((x1.2.2==0)=true→(x1.2.2==0)=true),((x1.2.2==0)=true→(x1.2.2==0)=true),((x1.2.2==0)=true→(x1.2.2==0)=true),((x1.2.2==0)=true→PCall Try.prog 54 [(di i),(di 0),(di (w64 ((p_c.Edges.length:Int)-1)))] (vb x2)),((x1.2.2==0)=true→(x1.2.2==0)=true),((x1.2.2==0)=true→(x1.2.2==0)=true)] (And.intro (id) (And.intro (id) (And.intro (id) (And.intro (id) (And.intro (id) (And.intro ((fun hg=>ct54 (optG_of hx2 hg))) (And.intro (id) (id)))))))) ?_
 refine cuo h (fun (ro3:S_api_Span×Int)=>[(4,rf 0),(5,vi ro3.2)]) (fun (ro3:S_api_Span×Int)=>[.cells [vi ro3.1.Lo,vi ro3.1.Hi]]) (fun (so3:Int)=>[(1,vi i),(2,rf 0),(4,rf 1),(8,vi so3)]) (fun (so3:Int)=>[cs p_c,q1]) (fun o3 h=>?_) (fun ro3 h=>?_) (fun so3 h=>?_)
 ·refine awp_selQ (cd h (fun hb4 h=>?_) (fun hb4 h=>?_))
  ·refine XA [(1,vi i),(2,rf 0),(4,rf 1),(8,vi 4)] [cs p_c,q1] ?_
   obtain rfl:=oi h
   exact gs [0,1] [1,2,4,8] OutQ.norm
  ·refine awp_skip ?_
   obtain rfl:=oi h
   exact gs [0,1] [1,2,4,8] OutQ.norm
 ·obtain rfl:=oi h
  exact gm
 ·show awp ..
  refine awp_seq (GA [(1,vi i),(2,rf 0),(4,rf 1),(8,vi so3),(29,vb (so3 != 0))] [cs p_c,q1] ?_)
  refine cd h (fun hb5 h=>?_) (fun hb5 h=>?_)
  ·refine GA [(4,rf 1),(5,vi so3)] [cs p_c,q1] ?_
   obtain rfl:=oi h
   refine WB 2 [(4,rf 1),(5,vi so3)] ?_
   exact awp_ret gm
  ·refine awp_skip ?_
   show awp ..
   refine awp_res [cs p_c,q1,.data []] (by kernel_rfl) ?_
   obtain ⟨x6,hx6,h⟩:=ob h
   obtain ⟨x7,hx7,h⟩:=ob h
   let q2:O:=.cells [vi x7.1.Lo,vi x7.1.Hi]
   refine awp_seq (awp_any (T':=[(4,rf 1),(9,rf 2),(10,vb x7.2)]) (H':=[cs p_c,q1,q2]) (ps:=[IX71 p_c.Edges i x6,PCall Try.prog 58 [(ca p_c),(.agg [(di x6.A),(di x6.B),(L74 x6.Points)])] (.tup [.d (.agg [(di x7.1.Lo),(di x7.1.Hi)]),vb x7.2])]) tt_ok mixed (ks:=[4,9,10]) (hs:=[.no,.no,.no,.no,.cells (cel71 x6),.no,.call [(ca p_c),(.agg [(di x6.A),(di x6.B),(L74 x6.Points)])] (.tup [.d (.agg [(di x7.1.Lo),(di x7.1.Hi)]),vb x7.2]),.no,.no,.no,.res 2]) (m:=12) (mid:=[4,9,10,41]) (by kernel_rfl) (And.intro (idxOk cel71_len hx6) (ct58 hx7)) ?_)
   show awp ..
   refine awp_seq (GA [(4,rf 1),(9,rf 2),(43,vb (!x7.2))] [cs p_c,q1,q2] ?_)
   refine cd h (fun hb8 h=>?_) (fun hb8 h=>?_)
   ·refine GA [(4,rf 1),(5,vi 9)] [cs p_c,q1,q2] ?_
    obtain rfl:=oi h
    refine WB 3 [(4,rf 1),(5,vi 9)] ?_
    exact awp_ret gm
   ·refine awp_skip ?_
    show awp ..
    refine GA [(4,rf 1),(5,vi 0)] [cs p_c,q2,q2] ?_
    obtain rfl:=oi h
    refine WB 3 [(4,rf 1),(5,vi 0)] ?_
    exact awp_ret gm
end Go.Proofs.Ytallnifoeahpiaa
