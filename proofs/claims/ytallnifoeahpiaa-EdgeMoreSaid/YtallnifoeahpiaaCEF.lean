/- That functions of the seat compute this. Printed by a program of mine. -/
import Derived.Test.YtallnifoeahpiaaS
import Derived.Test.YtallnifoeahpiaaCEB
import Derived.Test.YtallnifoeahpiaaCED
import Derived.Test.YtallnifoeahpiaaDEF
namespace Go.Proofs.Ytallnifoeahpiaa
open Go Go.Sx
set_option maxRecDepth 100000
set_option linter.unusedVariables false
theorem ct93  {p_x:Int} {res:Int} (h:F93 p_x=some res):PCall Try.prog 93 [(.v (.int .u64 p_x))] (vi res):=by
 refine PCall.of_awp tt_ok (N:=35) Try.func93 rfl (by kernel_rfl) rfl (Nat.le_of_ble_eq_true rfl) rfl ?_
 unfold F93 at h
 refine GA [(0,.d (.v (.int .u64 p_x)))] [] ?_
 refine HB [] [(0,.d (.v (.int .u64 (IntKind.u64.wrap ((Go.bits .and .u64 (p_x / 2^min (1:Int).toNat 64) 6148914691236517205)+(Go.bits .and .u64 p_x 6148914691236517205))))))] [(0≤(1:Int))] ((by decide:0≤(1:Int))) ?_
 refine HB [] [(0,.d (.v (.int .u64 (F93e1 p_x))))] [(0≤(2:Int))] ((by decide:0≤(2:Int))) ?_
 refine HB [] [(0,.d (.v (.int .u64 (Go.bits .and .u64 (IntKind.u64.wrap (((F93e1 p_x) / 2^min (4:Int).toNat 64)+(F93e1 p_x))) 1085102592571150095))))] [(0≤(4:Int))] ((by decide:0≤(4:Int))) ?_
 refine HB [] [(0,.d (.v (.int .u64 (F93e2 p_x))))] [(0≤(8:Int))] ((by decide:0≤(8:Int))) ?_
 refine HB [] [(0,.d (.v (.int .u64 (IntKind.u64.wrap ((F93e2 p_x)+((F93e2 p_x) / 2^min (16:Int).toNat 64))))))] [(0≤(16:Int))] ((by decide:0≤(16:Int))) ?_
 refine HB [] [(0,.d (.v (.int .u64 (F93e3 p_x))))] [(0≤(32:Int))] ((by decide:0≤(32:Int))) ?_
 let q1:St:=[(2,vi (Go.bits .and .i64 (IntKind.i64.wrap (F93e3 p_x)) 127))]
 refine HA q1 ?_
 obtain rfl:=oi h
 refine WB 0 q1 ?_
 exact awp_ret gm
theorem ct72  {p_x:Int} {res:Int} (h:F72 p_x=some res):PCall Try.prog 72 [(.v (.int .u64 p_x))] (vi res):=by
 refine PCall.of_awp tt_ok (N:=8) Try.func72 rfl (by kernel_rfl) rfl (Nat.le_of_ble_eq_true rfl) rfl ?_
 unfold F72 at h
 refine GA [(0,.d (.v (.int .u64 p_x)))] [] ?_
 refine awp_seq (awp_cond (b:=false) (by kernel_rfl) (fun hb=>absurd hb (by decide)) (fun hb=>?_))
 refine awp_skip ?_
 show awp ..
 obtain ⟨x1,hx1,h⟩:=ob h
 refine HB [.no,.call [(.v (.int .u64 p_x))] (vi x1)] [(2,vi x1)] [PCall Try.prog 93 [(.v (.int .u64 p_x))] (vi x1)] (ct93 hx1) ?_
 obtain rfl:=oi h
 refine WB 0 [(2,vi x1)] ?_
 exact awp_ret gm
theorem ct105  {p_x:Int} {res:Bool} (h:F105 p_x=some res):PCall Try.prog 105 [(di p_x)] (vb res):=by
 refine PCall.of_awp tt_ok (N:=6) Try.func105 rfl (by kernel_rfl) rfl (Nat.le_of_ble_eq_true rfl) rfl ?_
 unfold F105 at h
 refine GA [(0,vi p_x)] [] ?_
 refine HA [(2,vb (p_x != p_x))] ?_
 obtain rfl:=oi h
 refine WB 0 [(2,vb (p_x != p_x))] ?_
 exact awp_ret gm
theorem ct94  {p_x:Int} {y:Int} {res:Int} (h:F94 p_x y=some res):PCall Try.prog 94 [(di p_x),(di y)] (vi res):=by
 refine PCall.of_awp tt_ok (N:=20) Try.func94 rfl (by kernel_rfl) rfl (Nat.le_of_ble_eq_true rfl) rfl ?_
 unfold F94 at h
 refine GA [(0,vi p_x),(1,vi y)] [] ?_
 obtain ⟨x1,hx1,h⟩:=ob h
 refine HB [.no,.call [(di p_x)] (vb x1)] [(0,vi p_x),(1,vi y),(5,vb x1)] [PCall Try.prog 105 [(di p_x)] (vb x1)] (ct105 hx1) ?_
 obtain ⟨x2,hx2,h⟩:=ob h
 refine HB [.no,.call [(di y)] (vb x2)] [(0,vi p_x),(1,vi y),(5,vb x1),(6,vb x2)] [PCall Try.prog 105 [(di y)] (vb x2)] (ct105 hx2) ?_
 refine awp_seq (HA [(0,vi p_x),(1,vi y),(6,vb x2),(11,vb x1)] ?_)
 refine cd h (fun hb3 h=>?_) (fun hb3 h=>?_)
 ·refine awp_seq (GA [(12,vb x2)] [] ?_)
  refine cd h (fun hb4 h=>?_) (fun hb4 h=>?_)
  ·refine GA [(4,vi 0)] [] ?_
   obtain rfl:=oi h
   refine WB 0 [(4,vi 0)] ?_
   exact awp_ret gm
  ·refine awp_skip ?_
   show awp ..
   refine GA [(4,vi (-1))] [] ?_
   obtain rfl:=oi h
   refine WB 0 [(4,vi (-1))] ?_
   exact awp_ret gm
 ·refine awp_skip ?_
  show awp ..
  refine awp_seq (GA [(0,vi p_x),(1,vi y),(13,vb x2)] [] ?_)
  refine cd h (fun hb5 h=>?_) (fun hb5 h=>?_)
  ·refine GA [(4,vi 1)] [] ?_
   obtain rfl:=oi h
   refine WB 0 [(4,vi 1)] ?_
   exact awp_ret gm
  ·refine awp_skip ?_
   show awp ..
   refine awp_seq (GA [(0,vi p_x),(1,vi y),(16,vb (decide (p_x<y)))] [] ?_)
   refine cd h (fun hb6 h=>?_) (fun hb6 h=>?_)
   ·refine GA [(4,vi (-1))] [] ?_
    obtain rfl:=oi h
    refine WB 0 [(4,vi (-1))] ?_
    exact awp_ret gm
   ·refine awp_skip ?_
    show awp ..
    refine awp_seq (GA [(19,vb (decide (p_x>y)))] [] ?_)
    refine cd h (fun hb7 h=>?_) (fun hb7 h=>?_)
    ·refine GA [(4,vi 1)] [] ?_
     obtain rfl:=oi h
     refine WB 0 [(4,vi 1)] ?_
     exact awp_ret gm
    ·refine awp_skip ?_
     show awp ..
     refine GA [(4,vi 0)] [] ?_
     obtain rfl:=oi h
     refine WB 0 [(4,vi 0)] ?_
     exact awp_ret gm
theorem ct73 {fuel:Nat}  {p_s1:(List Int)} {p_s2:(List Int)} {res:Int} (h:F73 fuel p_s1 p_s2=some res):PCall Try.prog 73 [(L3 p_s1),dnil] (vi res):=by
 refine PCall.of_awp tt_ok (N:=36) Try.func73 rfl (by kernel_rfl) rfl (Nat.le_of_ble_eq_true rfl) rfl ?_
 unfold F73 at h
 let q2:Nat×V:=(0,.d (L3 p_s1))
 refine GA [q2,(1,.d dnil)] [] ?_
 let q3:Nat×V:=(9,.d (L3 p_s1))
 let q4:Nat×V:=(10,vl p_s1)
 refine awp_seq (HA [q2,(1,.d dnil),q3,q4,(11,vi 0)] ?_)
 let q1:Nat×V:=(1,.d (L3 ([]:List Int)))
 refine awp_laxT 1 _ (L3 ([]:List Int)) [q1,q2,q3,q4,(11,vi 0)] (by kernel_rfl) (.nil (e:=1)) (by kernel_rfl) ?_
 refine WA 0 [q2,q1,q3,q4,(11,vi 0)] [] ?_
 refine cuo h (fun (ro2:Int)=>[(4,vi ro2)]) (fun (ro2:Int)=>[]) (fun (so2:Unit)=>[q2,q1]) (fun (so2:Unit)=>[]) (fun o2 h=>?_) (fun ro2 h=>?_) (fun so2 h=>?_)
 ·refine awp_selQ (WA 0 [q2,q1,q3,q4,(11,vi 0)] [] ?_)
  refine awp_block (awp_loop (n:=fuel) ?_)
  refine awpN_ind (fun n (c3:Int)=>F73L1 p_s1 n c3) o2 (fun (c3:Int)=>[q2,q1,q3,q4,(11,vi c3)]) (fun (c3:Int)=>[]) (fun _=>rfl) ?_ fuel 0 h
  clear h
  intro n4 c3 h hrn4
  change F73L1 p_s1 (n4+1) c3=some o2 at h
  rw [F73L1] at h
  refine GA [q2,q1,q3,q4,(11,vi c3),(12,vb (decide (c3<(p_s1.length:Int))))] [] ?_
  refine awp_seq (cd h (fun hb5 h=>?_) (fun hb5 h=>?_))
  ·refine awp_skip ?_
   show awp ..
   refine awp_seq (awp_block ?_)
   obtain ⟨x6,hx6,h⟩:=ob h
   refine GB [.no,.cells (cel3 x6)] [q2,q1,(5,vi c3),(6,vi x6),q3,q4,(11,vi c3)] [] [IX3 p_s1 c3 x6] (idxOk cel3_len hx6) ?_
   refine awp_seq (HA [q2,q1,(5,vi c3),(6,vi x6),q3,q4,(11,vi c3),(19,vb (decide (c3≥(([]:List Int).length:Int))))] ?_)
   refine cd h (fun hb7 h=>?_) (fun hb7 h=>?_)
   ·refine GA [(4,vi 1)] [] ?_
    obtain rfl:=oi h
    refine WB 0 [(4,vi 1)] ?_
    exact awp_ret (gs [] [4] OutQ.ret)
   ·refine awp_skip ?_
    show awp ..
    obtain ⟨x8,hx8,h⟩:=ob h
    refine GB [.no,.no,.cells (cel3 x8)] [q2,q1,(6,vi x6),(7,vi x8),q3,q4,(11,vi c3)] [] [IX3 ([]:List Int) c3 x8] (idxOk cel3_len hx8) ?_
    obtain ⟨x9,hx9,h⟩:=ob h
    refine HB [.no,.no,.call [(di x6),(di x8)] (vi x9)] [q2,q1,(8,vi x9),q3,q4,(11,vi c3)] [PCall Try.prog 94 [(di x6),(di x8)] (vi x9)] (ct94 hx9) ?_
    refine HA [q2,q1,(8,vi x9),q3,q4,(11,vi c3),(28,vb (x9 != 0))] ?_
    refine cd h (fun hb10 h=>?_) (fun hb10 h=>?_)
    ·refine GA [(4,vi x9)] [] ?_
     obtain rfl:=oi h
     refine WB 0 [(4,vi x9)] ?_
     exact awp_ret (gs [] [4] OutQ.ret)
    ·refine awp_skip ?_
     show awp ..
     refine XA [q2,q1,q3,q4,(11,vi (w64 (c3+1)))] [] ?_
     exact gn 0 [0,1,9,10,11] (hrn4 _ h)
  ·refine awp_exit ?_
   obtain rfl:=oi h
   exact gs [] [0,1] OutQ.norm
 ·obtain rfl:=oi h
  exact gm
 ·show awp ..
  refine awp_seq (GA [(35,vb (decide ((p_s1.length:Int)<(([]:List Int).length:Int))))] [] ?_)
  refine cd h (fun hb11 h=>?_) (fun hb11 h=>?_)
  ·refine GA [(4,vi (-1))] [] ?_
   obtain rfl:=oi h
   refine WB 0 [(4,vi (-1))] ?_
   exact awp_ret gm
  ·refine awp_skip ?_
   show awp ..
   refine GA [(4,vi 0)] [] ?_
   obtain rfl:=oi h
   refine WB 0 [(4,vi 0)] ?_
   exact awp_ret gm
theorem ct73v1 {fuel:Nat}  {p_s1:(List Int)} {p_s2:(List Int)} {res:Int} (h:F73v1 fuel p_s1 p_s2=some res):PCall Try.prog 73 [(L3 p_s1),(L3 p_s2)] (vi res):=by
 refine PCall.of_awp tt_ok (N:=36) Try.func73 rfl (by kernel_rfl) rfl (Nat.le_of_ble_eq_true rfl) rfl ?_
 unfold F73v1 at h
 let q1:Nat×V:=(0,.d (L3 p_s1))
 let q2:Nat×V:=(1,.d (L3 p_s2))
 refine GA [q1,q2] [] ?_
 let q3:Nat×V:=(9,.d (L3 p_s1))
 let q4:Nat×V:=(10,vl p_s1)
 refine awp_seq (HA [q1,q2,q3,q4,(11,vi 0)] ?_)
 refine cuo h (fun (ro1:Int)=>[(4,vi ro1)]) (fun (ro1:Int)=>[]) (fun (so1:Unit)=>[q1,q2]) (fun (so1:Unit)=>[]) (fun o1 h=>?_) (fun ro1 h=>?_) (fun so1 h=>?_)
 ·refine awp_selQ (WA 0 [q1,q2,q3,q4,(11,vi 0)] [] ?_)
  refine awp_block (awp_loop (n:=fuel) ?_)
  refine awpN_ind (fun n (c2:Int)=>F73v1L1 p_s1 p_s2 n c2) o1 (fun (c2:Int)=>[q1,q2,q3,q4,(11,vi c2)]) (fun (c2:Int)=>[]) (fun _=>rfl) ?_ fuel 0 h
  clear h
  intro n3 c2 h hrn3
  change F73v1L1 p_s1 p_s2 (n3+1) c2=some o1 at h
  rw [F73v1L1] at h
  refine GA [q1,q2,q3,q4,(11,vi c2),(12,vb (decide (c2<(p_s1.length:Int))))] [] ?_
  refine awp_seq (cd h (fun hb4 h=>?_) (fun hb4 h=>?_))
  ·refine awp_skip ?_
   show awp ..
   refine awp_seq (awp_block ?_)
   obtain ⟨x5,hx5,h⟩:=ob h
   refine GB [.no,.cells (cel3 x5)] [q1,q2,(5,vi c2),(6,vi x5),q3,q4,(11,vi c2)] [] [IX3 p_s1 c2 x5] (idxOk cel3_len hx5) ?_
   refine awp_seq (HA [q1,q2,(5,vi c2),(6,vi x5),q3,q4,(11,vi c2),(19,vb (decide (c2≥(p_s2.length:Int))))] ?_)
   refine cd h (fun hb6 h=>?_) (fun hb6 h=>?_)
   ·refine GA [(4,vi 1)] [] ?_
    obtain rfl:=oi h
    refine WB 0 [(4,vi 1)] ?_
    exact awp_ret (gs [] [4] OutQ.ret)
   ·refine awp_skip ?_
    show awp ..
    obtain ⟨x7,hx7,h⟩:=ob h
    refine GB [.no,.no,.cells (cel3 x7)] [q1,q2,(6,vi x5),(7,vi x7),q3,q4,(11,vi c2)] [] [IX3 p_s2 c2 x7] (idxOk cel3_len hx7) ?_
    obtain ⟨x8,hx8,h⟩:=ob h
    refine HB [.no,.no,.call [(di x5),(di x7)] (vi x8)] [q1,q2,(8,vi x8),q3,q4,(11,vi c2)] [PCall Try.prog 94 [(di x5),(di x7)] (vi x8)] (ct94 hx8) ?_
    refine HA [q1,q2,(8,vi x8),q3,q4,(11,vi c2),(28,vb (x8 != 0))] ?_
    refine cd h (fun hb9 h=>?_) (fun hb9 h=>?_)
    ·refine GA [(4,vi x8)] [] ?_
     obtain rfl:=oi h
     refine WB 0 [(4,vi x8)] ?_
     exact awp_ret (gs [] [4] OutQ.ret)
    ·refine awp_skip ?_
     show awp ..
     refine XA [q1,q2,q3,q4,(11,vi (w64 (c2+1)))] [] ?_
     exact gn 0 [0,1,9,10,11] (hrn3 _ h)
  ·refine awp_exit ?_
   obtain rfl:=oi h
   exact gs [] [0,1] OutQ.norm
 ·obtain rfl:=oi h
  exact gm
 ·show awp ..
  refine awp_seq (GA [(35,vb (decide ((p_s1.length:Int)<(p_s2.length:Int))))] [] ?_)
  refine cd h (fun hb10 h=>?_) (fun hb10 h=>?_)
  ·refine GA [(4,vi (-1))] [] ?_
   obtain rfl:=oi h
   refine WB 0 [(4,vi (-1))] ?_
   exact awp_ret gm
  ·refine awp_skip ?_
   show awp ..
   refine GA [(4,vi 0)] [] ?_
   obtain rfl:=oi h
   refine WB 0 [(4,vi 0)] ?_
   exact awp_ret gm
theorem ct32 {fuel:Nat}  {p_c:S_api_EdCase} {res:(List Int)×Int} (h:F32 fuel p_c=some res):PCall Try.prog 32 [(ca p_c)] (.tup [.d (L3 res.1),vi res.2]):=by
 refine PCall.of_awp tt_ok (N:=79) Try.func32 rfl (by kernel_rfl) rfl (Nat.le_of_ble_eq_true rfl) rfl ?_
 unfold F32 at h
 let q36:Nat×V:=(2,.d dnil)
 refine GA [(1,rf 0),q36,(3,vi 0)] [cs p_c] ?_
 refine awp_scope ?_
 obtain ⟨x1,hx1,h⟩:=ob h
 cases x1 with
 | inl y2 =>
  rw [outK_inl] at h
  let q2:O:=sv y2.2.1 y2.2.2.1 y2.2.2.2.1 y2.2.2.2.2.1 2
  let q6:O:=mq y2.2.2.2.2.2
  let q14:O:=sv y2.2.1 y2.2.2.1 y2.2.2.2.1 y2.2.2.2.2.1 1
  refine GB [.no,.hcall [] (.tup [rf 0,vi y2.1]) [q14,q6]] [(1,rf 0),(4,rf 1),(5,vi y2.1)] [cs p_c,q2,q6] [HCall Try.prog 57 [.d (ca p_c)] [] (.tup [rf 0,vi y2.1]) [q14,q6]] (ct57v1 hx1) ?_
  refine awp_seq (HA [(1,rf 0),(4,rf 1),(5,vi y2.1),(19,vb (y2.1 != 0))] ?_)
  refine cd h (fun hb3 h=>?_) (fun hb3 h=>?_)
  ·refine GA [q36,(3,vi y2.1)] [cs p_c,q2,q6] ?_
   obtain rfl:=oi h
   refine WB 3 [q36,(3,vi y2.1)] ?_
   refine awp_laxT 2 _ (L3 ([]:List Int)) _ (by kernel_rfl) (.nil (e:=1)) rfl ?_
   refine WA 3 [(2,.d (L3 ([]:List Int))),(3,vi y2.1)] [cs p_c,q2,q6] ?_
   exact awp_ret gm
  ·refine awp_skip ?_
   show awp ..
   refine GA [(1,rf 0),(4,rf 1),(6,.d dnil)] [cs p_c,q2,q6] ?_
   let q9:=(p_c.Edges.length:Int)
   let q29:Nat×V:=(7,vi (w64 (q9+1)))
   refine HA [(1,rf 0),(4,rf 1),(6,.d dnil),q29] ?_
   refine awp_seq (awp_label ?_)
   show awp ..
   refine awp_seq ?_
   obtain ⟨x4,hx4,h⟩:=ob h
   let q1:Nat×V:=(28,vi (w64 ((1:Int)*2^min q9.toNat 64)))
   refine GB [] [(1,rf 0),(4,rf 1),(6,.d dnil),q29,q1,(29,vi 0)] [cs p_c,q2,q6] [(0≤q9)] ((need_of hx4:0≤q9)) ?_
   refine awp_nil 6 1 (by kernel_rfl) ?_
   let q12:O:=.data (([]:List Int).flatMap cel3)
   let q30:Nat×V:=(6,.sl 1 3 0 ([]:List Int).length)
   refine awp_eq (T':=[q30,(1,rf 0),(4,rf 1),q29,q1,(29,vi 0)]) (H':=[cs p_c,q2,q6,q12]) (by kernel_rfl) (by kernel_rfl) ?_
   refine WA 4 [(1,rf 0),(4,rf 1),q30,q29,q1,(29,vi 0)] [cs p_c,q2,q6,q12] ?_
   refine cuo h (fun (ro6:(List Int)×Int)=>[(2,.d (L3 ro6.1)),(3,vi ro6.2)]) (fun (ro6:(List Int)×Int)=>[]) (fun (so6:(List Int))=>[(6,.sl 1 3 0 so6.length)]) (fun (so6:(List Int))=>[cs p_c,q2,q6,.data (so6.flatMap cel3)]) (fun o6 h=>?_) (fun ro6 h=>?_) (fun so6 h=>?_)
   ·refine awp_selQ (WA 4 [(1,rf 0),(4,rf 1),q30,q29,q1,(29,vi 0)] [cs p_c,q2,q6,q12] ?_)
    refine awp_block (awp_loop (n:=fuel) ?_)
    refine awpN_ind (fun n (c7:Int×Int×(List Int))=>F32L1 fuel p_c y2 n c7) o6 (fun (c7:Int×Int×(List Int))=>[(1,rf 0),(4,rf 1),(6,.sl 1 3 0 c7.2.2.length),(7,vi c7.1),q1,(29,vi c7.2.1)]) (fun (c7:Int×Int×(List Int))=>[cs p_c,q2,q6,.data (c7.2.2.flatMap cel3)]) (fun _=>rfl) ?_ fuel ((w64 (q9+1)),0,([]:List Int)) h
    clear h
    intro n8 c7 h hrn8
    change F32L1 fuel p_c y2 (n8+1) c7=some o6 at h
    rw [F32L1] at h
    let q4:Nat×V:=(6,.sl 1 3 0 c7.2.2.length)
    let q5:O:=.data (c7.2.2.flatMap cel3)
    let q8:Nat×V:=(29,vi c7.2.1)
    let q16:Nat×V:=(7,vi c7.1)
    refine GA [(1,rf 0),(4,rf 1),q4,q16,q1,q8,(30,vb (decide (c7.2.1<(w64 ((1:Int)*2^min q9.toNat 64)))))] [cs p_c,q2,q6,q5] ?_
    refine awp_seq (cd h (fun hb9 h=>?_) (fun hb9 h=>?_))
    ·refine awp_skip ?_
     show awp ..
     refine awp_seq (awp_block ?_)
     let q17:Nat×V:=(8,vi c7.2.1)
     refine GA [(1,rf 0),(4,rf 1),q4,q16,q17,q1,q8] [cs p_c,q2,q6,q5] ?_
     refine awp_seq ?_
     obtain ⟨x10,hx10,h⟩:=ob h
     refine HB [.no,.no,.call [(.v (.int .u64 (IntKind.u64.wrap c7.2.1)))] (vi x10)] [(1,rf 0),(4,rf 1),q4,q16,q17,q1,q8,(36,vb (decide (x10>c7.1)))] [PCall Try.prog 72 [(.v (.int .u64 (IntKind.u64.wrap c7.2.1)))] (vi x10)] (ct72 hx10) ?_
     refine cd h (fun hb11 h=>?_) (fun hb11 h=>?_)
     ·refine awp_exit ?_
      show awp ..
      refine XA [(1,rf 0),(4,rf 1),q4,q16,q1,(29,vi (w64 (c7.2.1+1)))] [cs p_c,q2,q6,q5] ?_
      exact gn 4 [1,4,6,7,28,29] (hrn8 _ h)
     ·refine awp_skip ?_
      show awp ..
      refine GA [(1,rf 0),(4,rf 1),q4,q16,q17,(9,.d dnil),q1,q8] [cs p_c,q2,q6,q5] ?_
      let q21:Nat×V:=(39,vl p_c.Edges)
      refine awp_seq (HA [(1,rf 0),(4,rf 1),q4,q16,q17,(9,.d dnil),q1,q8,q21,(40,vi 0)] ?_)
      refine awp_nil 9 1 (by kernel_rfl) ?_
      let q32:Nat×V:=(9,.sl 1 4 0 ([]:List Int).length)
      refine awp_eq (T':=[q32,(1,rf 0),(4,rf 1),q4,q16,q17,q1,q8,q21,(40,vi 0)]) (H':=[cs p_c,q2,q6,q5,q12]) (by kernel_rfl) (by kernel_rfl) ?_
      refine WA 5 [(1,rf 0),(4,rf 1),q4,q16,q17,q32,q1,q8,q21,(40,vi 0)] [cs p_c,q2,q6,q5,q12] ?_
      refine cuo h (fun (ro13:(List Int)×Int)=>[(2,.d (L3 ro13.1)),(3,vi ro13.2)]) (fun (ro13:(List Int)×Int)=>[]) (fun (so13:(List Int))=>[(1,rf 0),(4,rf 1),q4,q16,q17,(9,.sl 1 4 0 so13.length),q1,q8]) (fun (so13:(List Int))=>[cs p_c,q2,q6,q5,.data (so13.flatMap cel3)]) (fun o13 h=>?_) (fun ro13 h=>?_) (fun so13 h=>?_)
      ·refine awp_selQ (WA 5 [(1,rf 0),(4,rf 1),q4,q16,q17,q32,q1,q8,q21,(40,vi 0)] [cs p_c,q2,q6,q5,q12] ?_)
       refine awp_block (awp_loop (n:=fuel) ?_)
       refine awpN_ind (fun n (c14:Int×(List Int))=>F32L2 p_c c7 n c14) o13 (fun (c14:Int×(List Int))=>[(1,rf 0),(4,rf 1),q4,q16,q17,(9,.sl 1 4 0 c14.2.length),q1,q8,q21,(40,vi c14.1)]) (fun (c14:Int×(List Int))=>[cs p_c,q2,q6,q5,.data (c14.2.flatMap cel3)]) (fun _=>rfl) ?_ fuel (0,([]:List Int)) h
       clear h
       intro n15 c14 h hrn15
       change F32L2 p_c c7 (n15+1) c14=some o13 at h
       rw [F32L2] at h
       let q26:Nat×V:=(9,.sl 1 4 0 c14.2.length)
       refine GA [(1,rf 0),(4,rf 1),q4,q16,q17,q26,q1,q8,q21,(40,vi c14.1),(41,vb (decide (c14.1<q9)))] [cs p_c,q2,q6,q5,.data (c14.2.flatMap cel3)] ?_
       refine awp_seq (cd h (fun hb16 h=>?_) (fun hb16 h=>?_))
       ·refine awp_skip ?_
        show awp ..
        refine awp_seq (awp_block ?_)
        refine GA [(1,rf 0),(4,rf 1),q4,q16,q17,q26,(10,vi c14.1),q1,q8,q21,(40,vi c14.1)] [cs p_c,q2,q6,q5,.data (c14.2.flatMap cel3)] ?_
        obtain ⟨x17,hx17,h⟩:=ob h
        refine HB [] [(1,rf 0),(4,rf 1),q4,q16,q17,q26,(10,vi c14.1),q1,q8,q21,(40,vi c14.1),(47,vb ((Go.bits .and .i64 (c7.2.1 / 2^min c14.1.toNat 64) 1)==1))] [(0≤c14.1)] ((need_of hx17:0≤c14.1)) ?_
        refine cd h (fun hb18 h=>?_) (fun hb18 h=>?_)
        ·obtain ⟨x19,hx19,h⟩:=ob h
         let q18:=(c14.2++([c14.1]:List Int))
         refine XB [.no,.no,.no,.list q18.length (q18.flatMap cel3)] [(1,rf 0),(4,rf 1),q4,q16,q17,(9,.sl 1 4 0 q18.length),q1,q8,q21,(40,vi c14.1)] [cs p_c,q2,q6,q5,.data (q18.flatMap cel3)] [AppendOk ((c14.2.flatMap cel3).map .d) c14.2.length ([c14.1]:List Int).length q18.length 1 8 (([c14.1]:List Int).flatMap cel3) (q18.flatMap cel3)] (appendOk cel3_len (need_of hx19)) ?_
         show awp ..
         refine YA [(1,rf 0),(4,rf 1),q4,q16,q17,(9,.sl 1 4 0 q18.length),q1,q8,q21,(40,vi (w64 (c14.1+1)))] ?_
         exact gn 5 [1,4,6,7,8,9,28,29,39,40] (hrn15 _ h)
        ·refine awp_skip ?_
         show awp ..
         refine XA [(1,rf 0),(4,rf 1),q4,q16,q17,q26,q1,q8,q21,(40,vi (w64 (c14.1+1)))] [cs p_c,q2,q6,q5,.data (c14.2.flatMap cel3)] ?_
         exact gn 5 [1,4,6,7,8,9,28,29,39,40] (hrn15 _ h)
       ·refine awp_exit ?_
        obtain rfl:=oi h
        exact gs [0,1,2,3,4] [1,4,6,7,8,9,28,29] OutQ.norm
      ·obtain rfl:=oi h
       exact gs [] [2,3] OutQ.ret
      ·show awp ..
       refine awp_seq ?_
       obtain ⟨x20,hx20,h⟩:=ob h
       let q28:=(so13.length:Int)
       let q13:=((q28==c7.1)=true→(q28==c7.1)=true)
       let q23:O:=.data (so13.flatMap cel3)
       refine GB [.no,.no,.no,.no,.no,.no,.no,.call [(L3 so13),(L3 c7.2.2)] (vi x20)] [(1,rf 0),(4,rf 1),q4,q16,q17,(9,.sl 1 4 0 so13.length),q1,q8,(62,vb (cond (q28==c7.1) (decide (x20≥0)) false))] [cs p_c,q2,q6,q5,q23] [q13,q13,((q28==c7.1)=true→argsOk [cs p_c,q2,q6,q5,q23] [.sl 1 4 0 so13.length,.sl 1 3 0 c7.2.2.length] [(L3 so13),(L3 c7.2.2)]),((q28==c7.1)=true→PCall Try.prog 73 [(L3 so13),(L3 c7.2.2)] (vi x20)),q13,q13] (And.intro (id) (And.intro (id) (And.intro ((fun hg=>(And.intro (lentOk cel3_len rfl) (And.intro (lentOk cel3_len rfl) trivial)))) (And.intro ((fun hg=>ct73v1 (optG_of hx20 hg))) (And.intro (id) (id)))))) ?_
       refine cd h (fun hb21 h=>?_) (fun hb21 h=>?_)
       ·refine awp_exit ?_
        show awp ..
        refine XA [(1,rf 0),(4,rf 1),q4,q16,q1,(29,vi (w64 (c7.2.1+1)))] [cs p_c,q2,q6,q5,q23] ?_
        exact gn 4 [1,4,6,7,28,29] (hrn8 _ h)
       ·refine awp_skip ?_
        show awp ..
        obtain ⟨x22,hx22,h⟩:=ob h
        refine GB [.no,.no,.no,.no,.no,.hcall [(1,false),(2,false)] (.tup [.d (NL3 x22.1),.d (NL126 x22.2)]) [q14,q6]] [(1,rf 0),(4,rf 1),q4,q16,(9,.sl 1 4 0 so13.length),(12,.d (NL126 x22.2)),q1,q8] [cs p_c,q2,q6,q5,q23] [HCall Try.prog 64 [rf 0,vl p_c.Sheets,vi c7.2.1] [q14,q6] (.tup [.d (NL3 x22.1),.d (NL126 x22.2)]) [q14,q6]] (ct64 hx22) ?_
        refine HB [.no,.nil (Nat.beq x22.2.length 0)] [(1,rf 0),(4,rf 1),q4,q16,(9,.sl 1 4 0 so13.length),q1,q8,(73,vb (Nat.beq x22.2.length 0))] [NilIs (NL126 x22.2) (Nat.beq x22.2.length 0)] (nilIs_nl) ?_
        refine cd h (fun hb23 h=>?_) (fun hb23 h=>?_)
        ·refine XA [(1,rf 0),(4,rf 1),(6,.sl 1 4 0 so13.length),(7,vl so13),q1,q8] [cs p_c,q2,q6,q5,q23] ?_
         show awp ..
         refine YA [(1,rf 0),(4,rf 1),(6,.sl 1 4 0 so13.length),(7,vl so13),q1,(29,vi (w64 (c7.2.1+1)))] ?_
         exact awpN_sel [0,1,2,4] [1,4,6,7,28,29] _ _ (by kernel_rfl) (by kernel_rfl) (by kernel_rfl) (hrn8 (q28,(w64 (c7.2.1+1)),so13) h)
        ·refine awp_skip ?_
         show awp ..
         refine XA [(1,rf 0),(4,rf 1),q4,q16,q1,(29,vi (w64 (c7.2.1+1)))] [cs p_c,q2,q6,q5,q23] ?_
         exact gn 4 [1,4,6,7,28,29] (hrn8 _ h)
    ·refine awp_exit ?_
     obtain rfl:=oi h
     exact gs [0,1,2,3] [6] OutQ.norm
   ·obtain rfl:=oi h
    exact gm
   ·show awp ..
    refine GA [(2,.sl 1 3 0 so6.length),(3,vi 0)] [cs p_c,q2,q6,.data (so6.flatMap cel3)] ?_
    obtain rfl:=oi h
    refine WB 4 [(2,.sl 1 3 0 so6.length),(3,vi 0)] ?_
    refine awp_freeze 2 3 (so6.flatMap cel3) (.sl 1 3 0 so6.length) (.d (L3 so6)) _ _ (ps:=[(so6.flatMap cel3).length=so6.length*1]) (by kernel_rfl) (by kernel_rfl) (by kernel_rfl) (flatMap_len cel3 1 cel3_len so6) rfl rfl ?_
    refine WA 4 [(2,.d (L3 so6)),(3,vi 0)] [cs p_c,q2,q6,q12] ?_
    exact awp_ret gm
 | inr y24 =>
  rw [outK_inr] at h
  let q3:Nat×V:=(4,.d (.v (.pointer none)))
  refine GB [.no,.hcall [] (.tup [.d (.v (.pointer none)),vi y24]) []] [(1,rf 0),q3,(5,vi y24)] [cs p_c] [HCall Try.prog 57 [.d (ca p_c)] [] (.tup [.d (.v (.pointer none)),vi y24]) []] (ct57v1 hx1) ?_
  refine awp_seq (HA [(1,rf 0),q3,(5,vi y24),(19,vb (y24 != 0))] ?_)
  refine cd h (fun hb25 h=>?_) (fun hb25 h=>?_)
  ·refine GA [q36,(3,vi y24)] [cs p_c] ?_
   obtain rfl:=oi h
   refine WB 1 [q36,(3,vi y24)] ?_
   refine awp_laxT 2 _ (L3 ([]:List Int)) _ (by kernel_rfl) (.nil (e:=1)) rfl ?_
   refine WA 1 [(2,.d (L3 ([]:List Int))),(3,vi y24)] [cs p_c] ?_
   exact awp_ret gm
  ·refine awp_skip ?_
   show awp ..
   refine GA [(1,rf 0),q3,(6,.d dnil)] [cs p_c] ?_
   let q11:=(w64 ((p_c.Edges.length:Int)+1))
   let q19:Nat×V:=(7,vi q11)
   refine HA [(1,rf 0),q3,(6,.d dnil),q19] ?_
   refine awp_seq (awp_label ?_)
   show awp ..
   refine awp_seq ?_
   obtain ⟨x26,hx26,h⟩:=ob h
   let q10:=(w64 ((1:Int)*2^min (p_c.Edges.length:Int).toNat 64))
   let q15:Nat×V:=(28,vi q10)
   refine GB [] [(1,rf 0),q3,(6,.d dnil),q19,q15,(29,vi 0)] [cs p_c] [(0≤(p_c.Edges.length:Int))] ((need_of hx26:0≤(p_c.Edges.length:Int))) ?_
   refine cuo h (fun (ro27:(List Int)×Int)=>[(2,.d (L3 ro27.1)),(3,vi ro27.2)]) (fun (ro27:(List Int)×Int)=>[]) (fun (so27:Unit)=>[(6,.d dnil)]) (fun (so27:Unit)=>[cs p_c]) (fun o27 h=>?_) (fun ro27 h=>?_) (fun so27 h=>?_)
   ·refine awp_selQ (WA 1 [(1,rf 0),q3,(6,.d dnil),q19,q15,(29,vi 0)] [cs p_c] ?_)
    refine awp_block (awp_loop (n:=fuel) ?_)
    refine awpN_ind (fun n (c28:Int)=>F32L3 fuel p_c n c28) o27 (fun (c28:Int)=>[(1,rf 0),q3,(6,.d dnil),q19,q15,(29,vi c28)]) (fun (c28:Int)=>[cs p_c]) (fun _=>rfl) ?_ fuel 0 h
    clear h
    intro n29 c28 h hrn29
    change F32L3 fuel p_c (n29+1) c28=some o27 at h
    rw [F32L3] at h
    let q22:Nat×V:=(29,vi c28)
    refine GA [(1,rf 0),q3,(6,.d dnil),q19,q15,q22,(30,vb (decide (c28<q10)))] [cs p_c] ?_
    refine awp_seq (cd h (fun hb30 h=>?_) (fun hb30 h=>?_))
    ·refine awp_skip ?_
     show awp ..
     refine awp_seq (awp_block ?_)
     let q24:Nat×V:=(8,vi c28)
     refine GA [(1,rf 0),q3,(6,.d dnil),q19,q24,q15,q22] [cs p_c] ?_
     refine awp_seq ?_
     obtain ⟨x31,hx31,h⟩:=ob h
     refine HB [.no,.no,.call [(.v (.int .u64 (IntKind.u64.wrap c28)))] (vi x31)] [(1,rf 0),q3,(6,.d dnil),q19,q24,q15,q22,(36,vb (decide (x31>q11)))] [PCall Try.prog 72 [(.v (.int .u64 (IntKind.u64.wrap c28)))] (vi x31)] (ct72 hx31) ?_
     refine cd h (fun hb32 h=>?_) (fun hb32 h=>?_)
     ·refine awp_exit ?_
      show awp ..
      refine XA [(1,rf 0),q3,(6,.d dnil),q19,q15,(29,vi (w64 (c28+1)))] [cs p_c] ?_
      exact gn 1 [1,4,6,7,28,29] (hrn29 _ h)
     ·refine awp_skip ?_
      show awp ..
      refine GA [(1,rf 0),q3,(6,.d dnil),q19,q24,(9,.d dnil),q15,q22] [cs p_c] ?_
      refine awp_seq (HA [(1,rf 0),q3,(6,.d dnil),q19,q24,(9,.d dnil),q15,q22,(39,vl p_c.Edges),(40,vi 0)] ?_)
      refine awp_nil 9 1 (by kernel_rfl) ?_
      let q25:List O:=[cs p_c,.data (([]:List Int).flatMap cel3)]
      let q33:Nat×V:=(9,.sl 1 1 0 ([]:List Int).length)
      refine awp_eq (T':=[q33,(1,rf 0),q3,(6,.d dnil),q19,q24,q15,q22,(39,vl p_c.Edges),(40,vi 0)]) (H':=[cs p_c,.data (([]:List Int).flatMap cel3)]) (by kernel_rfl) (by kernel_rfl) ?_
      refine WA 2 [(1,rf 0),q3,(6,.d dnil),q19,q24,q33,q15,q22,(39,vl p_c.Edges),(40,vi 0)] q25 ?_
      refine cuo h (fun (ro34:(List Int)×Int)=>[(2,.d (L3 ro34.1)),(3,vi ro34.2)]) (fun (ro34:(List Int)×Int)=>[]) (fun (so34:(List Int))=>[(1,rf 0),q3,(6,.d dnil),q19,q24,(9,.sl 1 1 0 so34.length),q15,q22]) (fun (so34:(List Int))=>[cs p_c,.data (so34.flatMap cel3)]) (fun o34 h=>?_) (fun ro34 h=>?_) (fun so34 h=>?_)
      ·refine awp_selQ (WA 2 [(1,rf 0),q3,(6,.d dnil),q19,q24,q33,q15,q22,(39,vl p_c.Edges),(40,vi 0)] q25 ?_)
       refine awp_block (awp_loop (n:=fuel) ?_)
       refine awpN_ind (fun n (c35:Int×(List Int))=>F32L4 p_c c28 n c35) o34 (fun (c35:Int×(List Int))=>[(1,rf 0),q3,(6,.d dnil),q19,q24,(9,.sl 1 1 0 c35.2.length),q15,q22,(39,vl p_c.Edges),(40,vi c35.1)]) (fun (c35:Int×(List Int))=>[cs p_c,.data (c35.2.flatMap cel3)]) (fun _=>rfl) ?_ fuel (0,([]:List Int)) h
       clear h
       intro n36 c35 h hrn36
       change F32L4 p_c c28 (n36+1) c35=some o34 at h
       rw [F32L4] at h
       let q27:Nat×V:=(9,.sl 1 1 0 c35.2.length)
       let q31:List O:=[cs p_c,.data (c35.2.flatMap cel3)]
       refine GA [(1,rf 0),q3,(6,.d dnil),q19,q24,q27,q15,q22,(39,vl p_c.Edges),(40,vi c35.1),(41,vb (decide (c35.1<(p_c.Edges.length:Int))))] q31 ?_
       refine awp_seq (cd h (fun hb37 h=>?_) (fun hb37 h=>?_))
       ·refine awp_skip ?_
        show awp ..
        refine awp_seq (awp_block ?_)
        refine GA [(1,rf 0),q3,(6,.d dnil),q19,q24,q27,(10,vi c35.1),q15,q22,(39,vl p_c.Edges),(40,vi c35.1)] q31 ?_
        obtain ⟨x38,hx38,h⟩:=ob h
        refine HB [] [(1,rf 0),q3,(6,.d dnil),q19,q24,q27,(10,vi c35.1),q15,q22,(39,vl p_c.Edges),(40,vi c35.1),(47,vb ((Go.bits .and .i64 (c28 / 2^min c35.1.toNat 64) 1)==1))] [(0≤c35.1)] ((need_of hx38:0≤c35.1)) ?_
        refine cd h (fun hb39 h=>?_) (fun hb39 h=>?_)
        ·obtain ⟨x40,hx40,h⟩:=ob h
         let q20:=(c35.2++([c35.1]:List Int))
         refine XB [.no,.no,.no,.list q20.length (q20.flatMap cel3)] [(1,rf 0),q3,(6,.d dnil),q19,q24,(9,.sl 1 1 0 q20.length),q15,q22,(39,vl p_c.Edges),(40,vi c35.1)] [cs p_c,.data (q20.flatMap cel3)] [AppendOk ((c35.2.flatMap cel3).map .d) c35.2.length ([c35.1]:List Int).length q20.length 1 8 (([c35.1]:List Int).flatMap cel3) (q20.flatMap cel3)] (appendOk cel3_len (need_of hx40)) ?_
         show awp ..
         refine YA [(1,rf 0),q3,(6,.d dnil),q19,q24,(9,.sl 1 1 0 q20.length),q15,q22,(39,vl p_c.Edges),(40,vi (w64 (c35.1+1)))] ?_
         exact gn 2 [1,4,6,7,8,9,28,29,39,40] (hrn36 _ h)
        ·refine awp_skip ?_
         show awp ..
         refine XA [(1,rf 0),q3,(6,.d dnil),q19,q24,q27,q15,q22,(39,vl p_c.Edges),(40,vi (w64 (c35.1+1)))] q31 ?_
         exact gn 2 [1,4,6,7,8,9,28,29,39,40] (hrn36 _ h)
       ·refine awp_exit ?_
        obtain rfl:=oi h
        exact gs [0,1] [1,4,6,7,8,9,28,29] OutQ.norm
      ·obtain rfl:=oi h
       exact gs [] [2,3] OutQ.ret
      ·show awp ..
       refine awp_seq ?_
       obtain ⟨x41,hx41,h⟩:=ob h
       let q35:=(so34.length:Int)
       let q7:=((q35==q11)=true→(q35==q11)=true)
       let q34:List O:=[cs p_c,.data (so34.flatMap cel3)]
       refine GB [.no,.no,.no,.no,.no,.no,.no,.call [(L3 so34),dnil] (vi x41)] [(1,rf 0),q3,(6,.d dnil),q19,q24,(9,.sl 1 1 0 so34.length),q15,q22,(62,vb (cond (q35==q11) (decide (x41≥0)) false))] q34 [q7,q7,((q35==q11)=true→argsOk q34 [.sl 1 1 0 so34.length,.d dnil] [(L3 so34),dnil]),((q35==q11)=true→PCall Try.prog 73 [(L3 so34),dnil] (vi x41)),q7,q7] (And.intro (id) (And.intro (id) (And.intro ((fun hg=>(And.intro (lentOk cel3_len rfl) (And.intro (rfl) trivial)))) (And.intro ((fun hg=>ct73 (optG_of hx41 hg))) (And.intro (id) (id)))))) ?_
       refine cd h (fun hb42 h=>?_) (fun hb42 h=>?_)
       ·refine awp_exit ?_
        show awp ..
        refine XA [(1,rf 0),q3,(6,.d dnil),q19,q15,(29,vi (w64 (c28+1)))] q34 ?_
        exact gn 1 [1,4,6,7,28,29] (hrn29 _ h)
       ·refine awp_skip ?_
        show awp ..
        exact absurd h (by simp)
    ·refine awp_exit ?_
     obtain rfl:=oi h
     exact gs [0] [6] OutQ.norm
   ·obtain rfl:=oi h
    exact gm
   ·show awp ..
    refine GA [q36,(3,vi 0)] [cs p_c] ?_
    obtain rfl:=oi h
    refine WB 1 [q36,(3,vi 0)] ?_
    refine awp_laxT 2 _ (L3 ([]:List Int)) _ (by kernel_rfl) (.nil (e:=1)) rfl ?_
    refine WA 1 [(2,.d (L3 ([]:List Int))),(3,vi 0)] [cs p_c] ?_
    exact awp_ret gm
end Go.Proofs.Ytallnifoeahpiaa
