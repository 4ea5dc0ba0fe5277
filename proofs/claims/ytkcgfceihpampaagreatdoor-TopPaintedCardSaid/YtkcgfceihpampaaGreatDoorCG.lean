/- That functions of the seat compute this. Printed by a program of mine. -/
import Derived.Test.YtkcgfceihpampaaGreatDoorS
import Derived.Test.YtkcgfceihpampaaGreatDoorDG
namespace Go.Proofs.YtkcgfceihpampaaGreatDoor
open Go Go.Sx
set_option maxRecDepth 100000
set_option linter.unusedVariables false
theorem ct191  {p_n:Int} {b0x0:Int} {b1x0:Int} {res:Bool} (h:F191 p_n b0x0 b1x0=some res):HCall Tryz.prog 191 [vi p_n,rf 0,rf 1] [.cells [vi b0x0],.cells [vi b1x0]] (vb res) [.cells [vi b0x0],.cells [vi b1x0]]:=by
 refine HCall.of_awpS tt_ok (N:=13) (fl:=2) Tryz.func191 rfl (by kernel_rfl) rfl rfl (Nat.le_of_ble_eq_true rfl) ?_
 unfold F191 at h
 refine EN ?_
 refine R0 ?_
 let g1 := !(decide (p_n<b0x0))
 refine RT (.n 6 (.i g1 (.i g1 (.n 1 (.p (show ((decide (p_n<b0x0))=false→(!(decide (p_n<b0x0)))=true) from not_of) (.n 1 .nil)))))) ?_
 obtain rfl:=oi h
 exact awp_ret (main_retS [0,1] (vb (cond (decide (p_n<b0x0)) true (decide (p_n>b1x0)))) (by kernel_rfl) (by kernel_rfl) (by kernel_rfl) (by kernel_rfl))
theorem ct207v2 {fuel:Nat}  {p_s:(List Int)} {b0x0:Int} {b1x0:Int} {res:Int} (h:F207v2 fuel p_s b0x0 b1x0=some res):HCall Tryz.prog 207 [.d (L3 p_s),.fn (.func 191) [] [rf 0,rf 1]] [.cells [vi b0x0],.cells [vi b1x0]] (vi res) [.cells [vi b0x0],.cells [vi b1x0]]:=by
 refine HCall.of_awpS tt_ok (N:=19) (fl:=2) Tryz.func207 rfl (by kernel_rfl) rfl rfl (Nat.le_of_ble_eq_true rfl) ?_
 unfold F207v2 at h
 refine EN ?_
 refine R0 ?_
 refine awp_seq (R0 ?_)
 refine cuo h (fun (ro1:Int)=>[(4,vi ro1)]) (fun (ro1:Int)=>[.cells [vi b0x0],.cells [vi b1x0]]) (fun (so1:Unit)=>[]) (fun (so1:Unit)=>[.cells [vi b0x0],.cells [vi b1x0]]) (fun o1 h=>?_) (fun ro1 h=>?_) (fun so1 h=>?_)
 ·refine awp_selQ (LP 2 [0,1,7,8] (F207v2L1 p_s b0x0 b1x0) o1 (fun (c2:Int)=>pr [(0,.d (L3 p_s)),(1,.fn (.func 191) [] [rf 0,rf 1]),(7,vl p_s),(8,vi c2)] [.cells [vi b0x0],.cells [vi b1x0]]) fuel 0 h (fun _=>rfl) ?_)
  clear h
  intro n3 c2 h hrn3
  rw [F207v2L1] at h
  refine R0 ?_
  refine awp_seq (cd h (fun hb4 h=>?_) (fun hb4 h=>?_))
  ·refine awp_skip ?_
   show awp ..
   refine awp_seq (awp_block ?_)
   refine R0 ?_
   obtain ⟨x5,hx5,h⟩:=ob h
   obtain ⟨x6,hx6,h⟩:=ob h
   refine RT (.n 3 (.ix (idxOk cel3_len hx5) (.n 1 (.hc [(0,false),(1,false)] (ct191 hx6) .nil)))) ?_
   refine cd h (fun hb7 h=>?_) (fun hb7 h=>?_)
   ·refine R0 ?_
    obtain rfl:=oi h
    exact awp_ret (gs [0,1] [4] OutQ.ret)
   ·refine awp_skip ?_
    show awp ..
    refine X0 ?_
    exact gn 2 [0,1,7,8] (hrn3 _ h)
  ·refine awp_exit ?_
   obtain rfl:=oi h
   exact gs [0,1] [] OutQ.norm
 ·obtain rfl:=oi h
  exact (main_retS [0,1] (vi ro1) (by kernel_rfl) (by kernel_rfl) (by kernel_rfl) (by kernel_rfl))
 ·show awp ..
  refine EN ?_
  refine R0 ?_
  obtain rfl:=oi h
  exact awp_ret (main_retS [0,1] (vi (-1)) (by kernel_rfl) (by kernel_rfl) (by kernel_rfl) (by kernel_rfl))
theorem ct171v2 {fuel:Nat}  {p_s:(List Int)} {b0x0:Int} {b1x0:Int} {res:Bool} (h:F171v2 fuel p_s b0x0 b1x0=some res):HCall Tryz.prog 171 [.d (L3 p_s),.fn (.func 191) [] [rf 0,rf 1]] [.cells [vi b0x0],.cells [vi b1x0]] (vb res) [.cells [vi b0x0],.cells [vi b1x0]]:=by
 refine HCall.of_awpS tt_ok (N:=9) (fl:=2) Tryz.func171 rfl (by kernel_rfl) rfl rfl (Nat.le_of_ble_eq_true rfl) ?_
 unfold F171v2 at h
 refine EN ?_
 refine R0 ?_
 obtain ⟨x1,hx1,h⟩:=ob h
 refine RT (.n 2 (.hc [(0,false),(1,false)] (ct207v2 hx1) .nil)) ?_
 obtain rfl:=oi h
 exact awp_ret (main_retS [0,1] (vb (decide (x1≥0))) (by kernel_rfl) (by kernel_rfl) (by kernel_rfl) (by kernel_rfl))
theorem ct144 {fuel:Nat}  {lo:Int} {hi:Int} {numbers:(List Int)} {res:Bool} (h:F144 fuel lo hi numbers=some res):PCall Tryz.prog 144 [(di lo),(di hi),(L3 numbers)] (vb res):=by
 refine PCall.of_awp tt_ok (N:=10) Tryz.func144 rfl (by kernel_rfl) rfl (Nat.le_of_ble_eq_true rfl) rfl ?_
 unfold F144 at h
 refine EN ?_
 refine R0 ?_
 obtain ⟨x1,hx1,h⟩:=ob h
 refine RT (.n 2 (.hc [(0,false),(1,false)] (ct171v2 hx1) .nil)) ?_
 obtain rfl:=oi h
 exact awp_ret gm
theorem ct149 {fuel:Nat}  {p_s:S_api_Span} {wide:Int} {res:Int} (h:F149 fuel p_s wide=some res):PCall Tryz.prog 149 [(.agg [(di p_s.Lo),(di p_s.Hi)]),(di wide)] (vi res):=by
 refine PCall.of_awp tt_ok (N:=23) Tryz.func149 rfl (by kernel_rfl) rfl (Nat.le_of_ble_eq_true rfl) rfl ?_
 unfold F149 at h
 refine EN ?_
 refine R0 ?_
 refine awp_seq (awp_block ?_)
 obtain ⟨x1,hx1,h⟩:=ob h
 refine RT (.n 5 (.pc (ct144 hx1) .nil)) ?_
 refine cd h (fun hb2 h=>?_) (fun hb2 h=>?_)
 ·refine R0 ?_
  obtain rfl:=oi h
  exact awp_ret gm
 ·obtain ⟨x3,hx3,h⟩:=ob h
  refine RT (.n 9 (.pc (ct144 hx3) .nil)) ?_
  refine cd h (fun hb4 h=>?_) (fun hb4 h=>?_)
  ·refine R0 ?_
   obtain rfl:=oi h
   exact awp_ret gm
  ·refine awp_skip ?_
   show awp ..
   refine R0 ?_
   obtain rfl:=oi h
   exact awp_ret gm
theorem ct148 {fuel:Nat}  {p_s:S_api_Span} {res:Int} (h:F148 fuel p_s=some res):PCall Tryz.prog 148 [(.agg [(di p_s.Lo),(di p_s.Hi)])] (vi res):=by
 refine PCall.of_awp tt_ok (N:=5) Tryz.func148 rfl (by kernel_rfl) rfl (Nat.le_of_ble_eq_true rfl) rfl ?_
 unfold F148 at h
 refine EN ?_
 refine R0 ?_
 obtain ⟨x1,hx1,h⟩:=ob h
 refine RT (.n 1 (.pc (ct149 hx1) .nil)) ?_
 obtain rfl:=oi h
 exact awp_ret gm
theorem ct147 {fuel:Nat}  {l:(List S_api_Span)} {res:Int×Int} (h:F147 fuel l=some res):HCall Tryz.prog 147 [.d (L66 l),.fn (.func 148) [] []] [] (.tup [vi res.1,vi res.2]) []:=by
 refine HCall.of_awpS tt_ok (N:=24) (fl:=0) Tryz.func147 rfl (by kernel_rfl) rfl rfl (Nat.le_of_ble_eq_true rfl) ?_
 unfold F147 at h
 refine EN ?_
 refine R0 ?_
 refine awp_seq (R0 ?_)
 refine cuo h (fun (ro1:Int×Int)=>[(4,vi ro1.1),(5,vi ro1.2)]) (fun (ro1:Int×Int)=>[]) (fun (so1:Unit)=>[]) (fun (so1:Unit)=>[]) (fun o1 h=>?_) (fun ro1 h=>?_) (fun so1 h=>?_)
 ·refine awp_selQ (LP 0 [1,9,10,11] (F147L1 fuel l) o1 (fun (c2:Int)=>pr [(1,.fn (.func 148) [] []),(9,.d (L66 l)),(10,vl l),(11,vi c2)] []) fuel 0 h (fun _=>rfl) ?_)
  clear h
  intro n3 c2 h hrn3
  rw [F147L1] at h
  refine R0 ?_
  refine awp_seq (cd h (fun hb4 h=>?_) (fun hb4 h=>?_))
  ·refine awp_skip ?_
   show awp ..
   refine awp_seq (awp_block ?_)
   obtain ⟨x5,hx5,h⟩:=ob h
   refine RT (.n 1 (.ix (idxOk cel66_len hx5) .nil)) ?_
   obtain ⟨x6,hx6,h⟩:=ob h
   refine RT (.n 2 (.pc (ct148 hx6) .nil)) ?_
   refine R0 ?_
   refine cd h (fun hb7 h=>?_) (fun hb7 h=>?_)
   ·refine R0 ?_
    obtain rfl:=oi h
    exact awp_ret (gs [] [4,5] OutQ.ret)
   ·refine awp_skip ?_
    show awp ..
    refine X0 ?_
    exact gn 0 [1,9,10,11] (hrn3 _ h)
  ·refine awp_exit ?_
   obtain rfl:=oi h
   exact gs [] [] OutQ.norm
 ·obtain rfl:=oi h
  exact (main_retS [] (.tup [vi ro1.1,vi ro1.2]) (by kernel_rfl) (by kernel_rfl) (by kernel_rfl) (by kernel_rfl))
 ·show awp ..
  refine EN ?_
  refine R0 ?_
  obtain rfl:=oi h
  exact awp_ret (main_retS [] (.tup [vi 0,vi 0]) (by kernel_rfl) (by kernel_rfl) (by kernel_rfl) (by kernel_rfl))
theorem ct150 {fuel:Nat}  {p_s:S_api_Span} {res:Int} (h:F150 fuel p_s=some res):PCall Tryz.prog 150 [(.agg [(di p_s.Lo),(di p_s.Hi)])] (vi res):=by
 refine PCall.of_awp tt_ok (N:=5) Tryz.func150 rfl (by kernel_rfl) rfl (Nat.le_of_ble_eq_true rfl) rfl ?_
 unfold F150 at h
 refine EN ?_
 refine R0 ?_
 obtain ⟨x1,hx1,h⟩:=ob h
 refine RT (.n 1 (.pc (ct149 hx1) .nil)) ?_
 obtain rfl:=oi h
 exact awp_ret gm
theorem ct147v1 {fuel:Nat}  {l:(List S_api_Span)} {res:Int×Int} (h:F147v1 fuel l=some res):HCall Tryz.prog 147 [.d (L66 l),.fn (.func 150) [] []] [] (.tup [vi res.1,vi res.2]) []:=by
 refine HCall.of_awpS tt_ok (N:=24) (fl:=0) Tryz.func147 rfl (by kernel_rfl) rfl rfl (Nat.le_of_ble_eq_true rfl) ?_
 unfold F147v1 at h
 refine EN ?_
 refine R0 ?_
 refine awp_seq (R0 ?_)
 refine cuo h (fun (ro1:Int×Int)=>[(4,vi ro1.1),(5,vi ro1.2)]) (fun (ro1:Int×Int)=>[]) (fun (so1:Unit)=>[]) (fun (so1:Unit)=>[]) (fun o1 h=>?_) (fun ro1 h=>?_) (fun so1 h=>?_)
 ·refine awp_selQ (LP 0 [1,9,10,11] (F147v1L1 fuel l) o1 (fun (c2:Int)=>pr [(1,.fn (.func 150) [] []),(9,.d (L66 l)),(10,vl l),(11,vi c2)] []) fuel 0 h (fun _=>rfl) ?_)
  clear h
  intro n3 c2 h hrn3
  rw [F147v1L1] at h
  refine R0 ?_
  refine awp_seq (cd h (fun hb4 h=>?_) (fun hb4 h=>?_))
  ·refine awp_skip ?_
   show awp ..
   refine awp_seq (awp_block ?_)
   obtain ⟨x5,hx5,h⟩:=ob h
   refine RT (.n 1 (.ix (idxOk cel66_len hx5) .nil)) ?_
   obtain ⟨x6,hx6,h⟩:=ob h
   refine RT (.n 2 (.pc (ct150 hx6) .nil)) ?_
   refine R0 ?_
   refine cd h (fun hb7 h=>?_) (fun hb7 h=>?_)
   ·refine R0 ?_
    obtain rfl:=oi h
    exact awp_ret (gs [] [4,5] OutQ.ret)
   ·refine awp_skip ?_
    show awp ..
    refine X0 ?_
    exact gn 0 [1,9,10,11] (hrn3 _ h)
  ·refine awp_exit ?_
   obtain rfl:=oi h
   exact gs [] [] OutQ.norm
 ·obtain rfl:=oi h
  exact (main_retS [] (.tup [vi ro1.1,vi ro1.2]) (by kernel_rfl) (by kernel_rfl) (by kernel_rfl) (by kernel_rfl))
 ·show awp ..
  refine EN ?_
  refine R0 ?_
  obtain rfl:=oi h
  exact awp_ret (main_retS [] (.tup [vi 0,vi 0]) (by kernel_rfl) (by kernel_rfl) (by kernel_rfl) (by kernel_rfl))
theorem ct153 {fuel:Nat}  {p:S_api_ClPair} {below:Int} {res:Int} (h:F153 fuel p below=some res):PCall Tryz.prog 153 [(.agg [(di p.A),(di p.B)]),(di below)] (vi res):=by
 refine PCall.of_awp tt_ok (N:=20) Tryz.func153 rfl (by kernel_rfl) rfl (Nat.le_of_ble_eq_true rfl) rfl ?_
 unfold F153 at h
 refine EN ?_
 refine R0 ?_
 refine awp_seq (awp_block ?_)
 obtain ⟨x1,hx1,h⟩:=ob h
 refine RT (.n 7 (.pc (ct144 hx1) .nil)) ?_
 refine cd h (fun hb2 h=>?_) (fun hb2 h=>?_)
 ·refine R0 ?_
  obtain rfl:=oi h
  exact awp_ret gm
 ·refine R0 ?_
  refine cd h (fun hb3 h=>?_) (fun hb3 h=>?_)
  ·refine R0 ?_
   obtain rfl:=oi h
   exact awp_ret gm
  ·refine awp_skip ?_
   show awp ..
   refine R0 ?_
   obtain rfl:=oi h
   exact awp_ret gm
theorem ct152 {fuel:Nat}  {p:S_api_ClPair} {b0x0:List S_api_Span} {b0x1:Int} {b0x2:List S_api_Span} {b0x3:List S_api_ClPair} {b0x4:Int} {b0x5:List S_api_ClPair} {res:Int} (h:F152 fuel p b0x0 b0x1 b0x2 b0x3 b0x4 b0x5=some res):HCall Tryz.prog 152 [.d (.agg [(di p.A),(di p.B)]),rf 0] [.cells [.d (L66 b0x0),vi b0x1,.d (L66 b0x2),.d (L70 b0x3),vi b0x4,.d (L70 b0x5)]] (vi res) [.cells [.d (L66 b0x0),vi b0x1,.d (L66 b0x2),.d (L70 b0x3),vi b0x4,.d (L70 b0x5)]]:=by
 refine HCall.of_awpS tt_ok (N:=9) (fl:=1) Tryz.func152 rfl (by kernel_rfl) rfl rfl (Nat.le_of_ble_eq_true rfl) ?_
 unfold F152 at h
 refine EN ?_
 refine R0 ?_
 obtain ⟨x1,hx1,h⟩:=ob h
 refine RT (.n 4 (.pc (ct153 hx1) .nil)) ?_
 obtain rfl:=oi h
 exact awp_ret (main_retS [0] (vi x1) (by kernel_rfl) (by kernel_rfl) (by kernel_rfl) (by kernel_rfl))
theorem ct151 {fuel:Nat}  {l:(List S_api_ClPair)} {b0x0:List S_api_Span} {b0x1:Int} {b0x2:List S_api_Span} {b0x3:List S_api_ClPair} {b0x4:Int} {b0x5:List S_api_ClPair} {res:Int×Int} (h:F151 fuel l b0x0 b0x1 b0x2 b0x3 b0x4 b0x5=some res):HCall Tryz.prog 151 [.d (L70 l),.fn (.func 152) [] [rf 0]] [.cells [.d (L66 b0x0),vi b0x1,.d (L66 b0x2),.d (L70 b0x3),vi b0x4,.d (L70 b0x5)]] (.tup [vi res.1,vi res.2]) [.cells [.d (L66 b0x0),vi b0x1,.d (L66 b0x2),.d (L70 b0x3),vi b0x4,.d (L70 b0x5)]]:=by
 refine HCall.of_awpS tt_ok (N:=24) (fl:=1) Tryz.func151 rfl (by kernel_rfl) rfl rfl (Nat.le_of_ble_eq_true rfl) ?_
 unfold F151 at h
 refine EN ?_
 refine R0 ?_
 refine awp_seq (R0 ?_)
 refine cuo h (fun (ro1:Int×Int)=>[(4,vi ro1.1),(5,vi ro1.2)]) (fun (ro1:Int×Int)=>[.cells [.d (L66 b0x0),vi b0x1,.d (L66 b0x2),.d (L70 b0x3),vi b0x4,.d (L70 b0x5)]]) (fun (so1:Unit)=>[]) (fun (so1:Unit)=>[.cells [.d (L66 b0x0),vi b0x1,.d (L66 b0x2),.d (L70 b0x3),vi b0x4,.d (L70 b0x5)]]) (fun o1 h=>?_) (fun ro1 h=>?_) (fun so1 h=>?_)
 ·refine awp_selQ (LP 1 [1,9,10,11] (F151L1 fuel l b0x0 b0x1 b0x2 b0x3 b0x4 b0x5) o1 (fun (c2:Int)=>pr [(1,.fn (.func 152) [] [rf 0]),(9,.d (L70 l)),(10,vl l),(11,vi c2)] [.cells [.d (L66 b0x0),vi b0x1,.d (L66 b0x2),.d (L70 b0x3),vi b0x4,.d (L70 b0x5)]]) fuel 0 h (fun _=>rfl) ?_)
  clear h
  intro n3 c2 h hrn3
  rw [F151L1] at h
  refine R0 ?_
  refine awp_seq (cd h (fun hb4 h=>?_) (fun hb4 h=>?_))
  ·refine awp_skip ?_
   show awp ..
   refine awp_seq (awp_block ?_)
   obtain ⟨x5,hx5,h⟩:=ob h
   refine RT (.n 1 (.ix (idxOk cel70_len hx5) .nil)) ?_
   obtain ⟨x6,hx6,h⟩:=ob h
   refine RT (.n 2 (.hc [(0,false)] (ct152 hx6) .nil)) ?_
   refine R0 ?_
   refine cd h (fun hb7 h=>?_) (fun hb7 h=>?_)
   ·refine R0 ?_
    obtain rfl:=oi h
    exact awp_ret (gs [0] [4,5] OutQ.ret)
   ·refine awp_skip ?_
    show awp ..
    refine X0 ?_
    exact gn 1 [1,9,10,11] (hrn3 _ h)
  ·refine awp_exit ?_
   obtain rfl:=oi h
   exact gs [0] [] OutQ.norm
 ·obtain rfl:=oi h
  exact (main_retS [0] (.tup [vi ro1.1,vi ro1.2]) (by kernel_rfl) (by kernel_rfl) (by kernel_rfl) (by kernel_rfl))
 ·show awp ..
  refine EN ?_
  refine R0 ?_
  obtain rfl:=oi h
  exact awp_ret (main_retS [0] (.tup [vi 0,vi 0]) (by kernel_rfl) (by kernel_rfl) (by kernel_rfl) (by kernel_rfl))
theorem ct154 {fuel:Nat}  {p:S_api_ClPair} {b0x0:List S_api_Span} {b0x1:Int} {b0x2:List S_api_Span} {b0x3:List S_api_ClPair} {b0x4:Int} {b0x5:List S_api_ClPair} {res:Int} (h:F154 fuel p b0x0 b0x1 b0x2 b0x3 b0x4 b0x5=some res):HCall Tryz.prog 154 [.d (.agg [(di p.A),(di p.B)]),rf 0] [.cells [.d (L66 b0x0),vi b0x1,.d (L66 b0x2),.d (L70 b0x3),vi b0x4,.d (L70 b0x5)]] (vi res) [.cells [.d (L66 b0x0),vi b0x1,.d (L66 b0x2),.d (L70 b0x3),vi b0x4,.d (L70 b0x5)]]:=by
 refine HCall.of_awpS tt_ok (N:=8) (fl:=1) Tryz.func154 rfl (by kernel_rfl) rfl rfl (Nat.le_of_ble_eq_true rfl) ?_
 unfold F154 at h
 refine EN ?_
 refine R0 ?_
 obtain ⟨x1,hx1,h⟩:=ob h
 refine RT (.n 3 (.pc (ct153 hx1) .nil)) ?_
 obtain rfl:=oi h
 exact awp_ret (main_retS [0] (vi x1) (by kernel_rfl) (by kernel_rfl) (by kernel_rfl) (by kernel_rfl))
theorem ct151v1 {fuel:Nat}  {l:(List S_api_ClPair)} {b0x0:List S_api_Span} {b0x1:Int} {b0x2:List S_api_Span} {b0x3:List S_api_ClPair} {b0x4:Int} {b0x5:List S_api_ClPair} {res:Int×Int} (h:F151v1 fuel l b0x0 b0x1 b0x2 b0x3 b0x4 b0x5=some res):HCall Tryz.prog 151 [.d (L70 l),.fn (.func 154) [] [rf 0]] [.cells [.d (L66 b0x0),vi b0x1,.d (L66 b0x2),.d (L70 b0x3),vi b0x4,.d (L70 b0x5)]] (.tup [vi res.1,vi res.2]) [.cells [.d (L66 b0x0),vi b0x1,.d (L66 b0x2),.d (L70 b0x3),vi b0x4,.d (L70 b0x5)]]:=by
 refine HCall.of_awpS tt_ok (N:=24) (fl:=1) Tryz.func151 rfl (by kernel_rfl) rfl rfl (Nat.le_of_ble_eq_true rfl) ?_
 unfold F151v1 at h
 refine EN ?_
 refine R0 ?_
 refine awp_seq (R0 ?_)
 refine cuo h (fun (ro1:Int×Int)=>[(4,vi ro1.1),(5,vi ro1.2)]) (fun (ro1:Int×Int)=>[.cells [.d (L66 b0x0),vi b0x1,.d (L66 b0x2),.d (L70 b0x3),vi b0x4,.d (L70 b0x5)]]) (fun (so1:Unit)=>[]) (fun (so1:Unit)=>[.cells [.d (L66 b0x0),vi b0x1,.d (L66 b0x2),.d (L70 b0x3),vi b0x4,.d (L70 b0x5)]]) (fun o1 h=>?_) (fun ro1 h=>?_) (fun so1 h=>?_)
 ·refine awp_selQ (LP 1 [1,9,10,11] (F151v1L1 fuel l b0x0 b0x1 b0x2 b0x3 b0x4 b0x5) o1 (fun (c2:Int)=>pr [(1,.fn (.func 154) [] [rf 0]),(9,.d (L70 l)),(10,vl l),(11,vi c2)] [.cells [.d (L66 b0x0),vi b0x1,.d (L66 b0x2),.d (L70 b0x3),vi b0x4,.d (L70 b0x5)]]) fuel 0 h (fun _=>rfl) ?_)
  clear h
  intro n3 c2 h hrn3
  rw [F151v1L1] at h
  refine R0 ?_
  refine awp_seq (cd h (fun hb4 h=>?_) (fun hb4 h=>?_))
  ·refine awp_skip ?_
   show awp ..
   refine awp_seq (awp_block ?_)
   obtain ⟨x5,hx5,h⟩:=ob h
   refine RT (.n 1 (.ix (idxOk cel70_len hx5) .nil)) ?_
   obtain ⟨x6,hx6,h⟩:=ob h
   refine RT (.n 2 (.hc [(0,false)] (ct154 hx6) .nil)) ?_
   refine R0 ?_
   refine cd h (fun hb7 h=>?_) (fun hb7 h=>?_)
   ·refine R0 ?_
    obtain rfl:=oi h
    exact awp_ret (gs [0] [4,5] OutQ.ret)
   ·refine awp_skip ?_
    show awp ..
    refine X0 ?_
    exact gn 1 [1,9,10,11] (hrn3 _ h)
  ·refine awp_exit ?_
   obtain rfl:=oi h
   exact gs [0] [] OutQ.norm
 ·obtain rfl:=oi h
  exact (main_retS [0] (.tup [vi ro1.1,vi ro1.2]) (by kernel_rfl) (by kernel_rfl) (by kernel_rfl) (by kernel_rfl))
 ·show awp ..
  refine EN ?_
  refine R0 ?_
  obtain rfl:=oi h
  exact awp_ret (main_retS [0] (.tup [vi 0,vi 0]) (by kernel_rfl) (by kernel_rfl) (by kernel_rfl) (by kernel_rfl))
theorem ct85 {fuel:Nat}  {p_m:S_api_ClMap} {res:Int×Int×Int} (h:F85 fuel p_m=some res):PCall Tryz.prog 85 [(.agg [(L66 p_m.Borders),(di p_m.Step),(L66 p_m.Heights),(L70 p_m.Sides),(di p_m.Inks),(L70 p_m.Like)])] (.tup [vi res.1,vi res.2.1,vi res.2.2]):=by
 refine PCall.of_awp tt_ok (N:=83) Tryz.func85 rfl (by kernel_rfl) rfl (Nat.le_of_ble_eq_true rfl) rfl ?_
 unfold F85 at h
 refine EN ?_
 refine R0 ?_
 refine awp_seq (awp_block ?_)
 obtain ⟨x1,hx1,h⟩:=ob h
 obtain ⟨x2,hx2,h⟩:=ob h
 let g2 := !(cond x1 true x2)
 let g1 := !(cond (cond x1 true x2) true (decide ((p_m.Sides.length:Int)>10)))
 refine RT (.n 4 (.pc (ct144 hx1) (.n 2 (.i (!x1) (.n 1 (.i (!x1) (.n 1 (.i (!x1) (.n 1 (.i (!x1) (.p (show ((!x1)=true→PCall Tryz.prog 144 [(di 1),(di 8),(L3 ([(p_m.Heights.length:Int)]:List Int))] (vb x2)) from (fun hg=>ct144 (optG_of hx2 hg))) (.h (.call [(di 1),(di 8),(L3 ([(p_m.Heights.length:Int)]:List Int))] (vb x2)) (.p (show (x1=false→(!x1)=true) from not_of) (.n 1 (.n 2 (.i g2 (.n 1 (.i g2 (.n 1 (.i g2 (.n 1 (.p (show ((cond x1 true x2)=false→(!(cond x1 true x2))=true) from not_of) (.n 1 (.n 2 (.i g1 (.n 1 (.i g1 (.n 1 (.i g1 (.n 1 (.p (show ((cond (cond x1 true x2) true (decide ((p_m.Sides.length:Int)>10)))=false→(!(cond (cond x1 true x2) true (decide ((p_m.Sides.length:Int)>10))))=true) from not_of) (.n 1 .nil)))))))))))))))))))))))))))))))) ?_
 refine cd h (fun hb3 h=>?_) (fun hb3 h=>?_)
 ·refine R0 ?_
  obtain rfl:=oi h
  exact awp_ret gm
 ·obtain ⟨x4,hx4,h⟩:=ob h
  obtain ⟨x5,hx5,h⟩:=ob h
  refine RT (.n 3 (.pc (ct144 hx4) (.n 2 (.i (!x4) (.n 1 (.i (!x4) (.n 1 (.i (!x4) (.p (show ((!x4)=true→PCall Tryz.prog 144 [(di 1),(di 6),(L3 ([p_m.Inks]:List Int))] (vb x5)) from (fun hg=>ct144 (optG_of hx5 hg))) (.h (.call [(di 1),(di 6),(L3 ([p_m.Inks]:List Int))] (vb x5)) (.p (show (x4=false→(!x4)=true) from not_of) (.n 1 .nil)))))))))))) ?_
  refine cd h (fun hb6 h=>?_) (fun hb6 h=>?_)
  ·refine R0 ?_
   obtain rfl:=oi h
   exact awp_ret gm
  ·refine awp_skip ?_
   show awp ..
   refine awp_seq ?_
   obtain ⟨x7,hx7,h⟩:=ob h
   refine RT (.n 2 (.hc [] (ct147 hx7) .nil)) ?_
   refine R0 ?_
   refine cd h (fun hb8 h=>?_) (fun hb8 h=>?_)
   ·refine R0 ?_
    obtain rfl:=oi h
    exact awp_ret gm
   ·refine awp_skip ?_
    show awp ..
    refine awp_seq ?_
    obtain ⟨x9,hx9,h⟩:=ob h
    refine RT (.n 2 (.hc [] (ct147v1 hx9) .nil)) ?_
    refine R0 ?_
    refine cd h (fun hb10 h=>?_) (fun hb10 h=>?_)
    ·refine R0 ?_
     obtain rfl:=oi h
     exact awp_ret gm
    ·refine awp_skip ?_
     show awp ..
     refine awp_seq ?_
     obtain ⟨x11,hx11,h⟩:=ob h
     refine RT (.n 3 (.hc [(0,false)] (ct151 hx11) .nil)) ?_
     refine R0 ?_
     refine cd h (fun hb12 h=>?_) (fun hb12 h=>?_)
     ·refine R0 ?_
      obtain rfl:=oi h
      exact awp_ret gm
     ·refine awp_skip ?_
      show awp ..
      refine awp_seq ?_
      obtain ⟨x13,hx13,h⟩:=ob h
      refine RT (.n 3 (.hc [(0,false)] (ct151v1 hx13) .nil)) ?_
      refine R0 ?_
      refine cd h (fun hb14 h=>?_) (fun hb14 h=>?_)
      ·refine R0 ?_
       obtain rfl:=oi h
       exact awp_ret gm
      ·refine awp_skip ?_
       show awp ..
       refine R0 ?_
       obtain rfl:=oi h
       exact awp_ret gm
theorem ct155 {fuel:Nat}  {p_m:S_api_ClMap} {legend:(List Int)} {res:Int×Int} (h:F155 fuel p_m legend=some res):PCall Tryz.prog 155 [(.agg [(L66 p_m.Borders),(di p_m.Step),(L66 p_m.Heights),(L70 p_m.Sides),(di p_m.Inks),(L70 p_m.Like)]),(L3 legend)] (.tup [vi res.1,vi res.2]):=by
 refine PCall.of_awp tt_ok (N:=64) Tryz.func155 rfl (by kernel_rfl) rfl (Nat.le_of_ble_eq_true rfl) rfl ?_
 unfold F155 at h
 refine EN ?_
 refine R0 ?_
 refine awp_seq ?_
 obtain ⟨x1,hx1,h⟩:=ob h
 refine RT (.n 1 (.pc (ct85 hx1) .nil)) ?_
 refine R0 ?_
 refine cd h (fun hb2 h=>?_) (fun hb2 h=>?_)
 ·refine R0 ?_
  obtain rfl:=oi h
  exact awp_ret gm
 ·refine awp_skip ?_
  show awp ..
  refine awp_seq (R0 ?_)
  refine cd h (fun hb3 h=>?_) (fun hb3 h=>?_)
  ·refine R0 ?_
   obtain rfl:=oi h
   exact awp_ret gm
  ·refine awp_skip ?_
   show awp ..
   refine awp_seq (R0 ?_)
   refine cuo h (fun (ro4:Int×Int)=>[(4,vi ro4.1),(5,vi ro4.2)]) (fun (ro4:Int×Int)=>[]) (fun (so4:Unit)=>[]) (fun (so4:Unit)=>[.cells [.d (L66 p_m.Borders),vi p_m.Step,.d (L66 p_m.Heights),.d (L70 p_m.Sides),vi p_m.Inks,.d (L70 p_m.Like)]]) (fun o4 h=>?_) (fun ro4 h=>?_) (fun so4 h=>?_)
   ·refine awp_selQ (LP 1 [1,2,23,24,25] (F155L1 fuel p_m legend) o4 (fun (c5:Int)=>pr [(1,.d (L3 legend)),(2,rf 0),(23,.d (L3 legend)),(24,vl legend),(25,vi c5)] [.cells [.d (L66 p_m.Borders),vi p_m.Step,.d (L66 p_m.Heights),.d (L70 p_m.Sides),vi p_m.Inks,.d (L70 p_m.Like)]]) fuel 0 h (fun _=>rfl) ?_)
    clear h
    intro n6 c5 h hrn6
    rw [F155L1] at h
    refine R0 ?_
    refine awp_seq (cd h (fun hb7 h=>?_) (fun hb7 h=>?_))
    ·refine awp_skip ?_
     show awp ..
     refine awp_seq (awp_block ?_)
     obtain ⟨x8,hx8,h⟩:=ob h
     refine RT (.n 1 (.ix (idxOk cel3_len hx8) .nil)) ?_
     refine awp_block ?_
     obtain ⟨x9,hx9,h⟩:=ob h
     obtain ⟨x10,hx10,h⟩:=ob h
     obtain ⟨x11,hx11,h⟩:=ob h
     refine DT 14 (.n 3 (.ix (idxOk cel66_len hx9) (.n 5 (.ix (idxOk cel66_len hx10) (.n 4 (.pc (ct144 hx11) .nil)))))) ?_
     refine cd h (fun hb12 h=>?_) (fun hb12 h=>?_)
     ·refine R0 ?_
      obtain rfl:=oi h
      exact awp_ret (gs [] [4,5] OutQ.ret)
     ·obtain ⟨x13,hx13,h⟩:=ob h
      let g1:=(decide (c5>0))
      refine DT 12 (.n 6 (.i g1 (.n 1 (.i g1 (.i g1 (.p (show (g1=true→IX3 legend (w64 (c5-1)) x13) from (fun hg=>idxOk cel3_len (optG_of hx13 hg))) (.h (.cells (cel3 x13)) (.i g1 (.n 1 (.n 1 (.i g1 (.n 1 (.i g1 (.i g1 (.n 1 (.i g1 (.i g1 (.n 1 (.i g1 (.n 1 .nil)))))))))))))))))))) ?_
      refine cd h (fun hb14 h=>?_) (fun hb14 h=>?_)
      ·refine R0 ?_
       obtain rfl:=oi h
       exact awp_ret (gs [] [4,5] OutQ.ret)
      ·refine awp_skip ?_
       show awp ..
       refine X0 ?_
       exact gn 1 [1,2,23,24,25] (hrn6 _ h)
    ·refine awp_exit ?_
     obtain rfl:=oi h
     exact gs [0] [] OutQ.norm
   ·obtain rfl:=oi h
    exact gm
   ·show awp ..
    refine EN ?_
    refine R0 ?_
    obtain rfl:=oi h
    exact awp_ret gm
theorem ct219  {p_x:Int} {res:Bool} (h:F219 p_x=some res):PCall Tryz.prog 219 [(di p_x)] (vb res):=by
 refine PCall.of_awp tt_ok (N:=6) Tryz.func219 rfl (by kernel_rfl) rfl (Nat.le_of_ble_eq_true rfl) rfl ?_
 unfold F219 at h
 refine EN ?_
 refine R0 ?_
 refine R0 ?_
 obtain rfl:=oi h
 exact awp_ret gm
theorem ct217  {p_x:Int} {y:Int} {res:Bool} (h:F217 p_x y=some res):PCall Tryz.prog 217 [(di p_x),(di y)] (vb res):=by
 refine PCall.of_awp tt_ok (N:=17) Tryz.func217 rfl (by kernel_rfl) rfl (Nat.le_of_ble_eq_true rfl) rfl ?_
 unfold F217 at h
 refine EN ?_
 refine R0 ?_
 obtain ⟨x1,hx1,h⟩:=ob h
 obtain ⟨x2,hx2,h⟩:=ob h
 let g1 := !(cond x1 (!x2) false)
 refine RT (.n 1 (.pc (ct219 hx1) (.n 2 (.i x1 (.p (show (x1=true→PCall Tryz.prog 219 [(di y)] (vb x2)) from (fun hg=>ct219 (optG_of hx2 hg))) (.h (.call [(di y)] (vb x2)) (.i x1 (.n 1 (.i x1 (.n 1 (.n 3 (.i g1 (.i g1 (.n 1 (.p (show ((cond x1 (!x2) false)=false→(!(cond x1 (!x2) false))=true) from not_of) (.n 1 .nil)))))))))))))))) ?_
 obtain rfl:=oi h
 exact awp_ret gm
theorem ct218  {p_x:Int} {res:Bool} (h:F218 p_x=some res):PCall Tryz.prog 218 [(di p_x)] (vb res):=by
 refine PCall.of_awp tt_ok (N:=6) Tryz.func218 rfl (by kernel_rfl) rfl (Nat.le_of_ble_eq_true rfl) rfl ?_
 unfold F218 at h
 refine EN ?_
 refine R0 ?_
 refine R0 ?_
 obtain rfl:=oi h
 exact awp_ret gm
theorem ct193 {fuel:Nat}  {p_x:(List Int)} {target:Int} {res:Int×Bool} (h:F193 fuel p_x target=some res):PCall Tryz.prog 193 [(L3 p_x),(di target)] (.tup [vi res.1,vb res.2]):=by
 refine PCall.of_awp tt_ok (N:=54) Tryz.func193 rfl (by kernel_rfl) rfl (Nat.le_of_ble_eq_true rfl) rfl ?_
 unfold F193 at h
 refine EN ?_
 refine R0 ?_
 refine R0 ?_
 refine R0 ?_
 refine awp_seq ?_
 refine cuo h (fun (ro1:Int×Bool)=>[(4,vi ro1.1),(5,vb ro1.2)]) (fun (ro1:Int×Bool)=>[]) (fun (so1:Int)=>[(0,.d (L3 p_x)),(1,vi target),(6,vl p_x),(7,vi so1)]) (fun (so1:Int)=>[]) (fun o1 h=>?_) (fun ro1 h=>?_) (fun so1 h=>?_)
 ·refine awp_selQ (LP 0 [0,1,6,7,8] (F193L1 p_x target) o1 (fun (c2:Int×Int)=>pr [(0,.d (L3 p_x)),(1,vi target),(6,vl p_x),(7,vi c2.1),(8,vi c2.2)] []) fuel (0,(p_x.length:Int)) h (fun _=>rfl) ?_)
  clear h
  intro n3 c2 h hrn3
  rw [F193L1] at h
  refine awp_seq (R0 ?_)
  refine cd h (fun hb4 h=>?_) (fun hb4 h=>?_)
  ·refine awp_skip ?_
   show awp ..
   refine awp_block (RT (.n 4 (.p (by decide:0≤(1:Int)) (.n 1 .nil))) ?_)
   obtain ⟨x5,hx5,h⟩:=ob h
   obtain ⟨x6,hx6,h⟩:=ob h
   refine RT (.n 2 (.ix (idxOk cel3_len hx5) (.n 2 (.pc (ct217 hx6) .nil)))) ?_
   refine cd h (fun hb7 h=>?_) (fun hb7 h=>?_)
   ·refine X0 ?_
    exact gn 0 [0,1,6,7,8] (hrn3 _ h)
   ·refine X0 ?_
    exact gn 0 [0,1,6,7,8] (hrn3 _ h)
  ·refine awp_exit ?_
   obtain rfl:=oi h
   exact gs [] [0,1,6,7] OutQ.norm
 ·obtain rfl:=oi h
  exact gm
 ·show awp ..
  obtain ⟨x8,hx8,h⟩:=ob h
  obtain ⟨x9,hx9,h⟩:=ob h
  obtain ⟨x10,hx10,h⟩:=ob h
  obtain ⟨x11,hx11,h⟩:=ob h
  refine EN ?_
  let g1:=(decide (so1<(p_x.length:Int)))
  let g2:=(g1&&(!(x8==target)))
  let g3:=(g2&&x10)
  refine RT (.n 7 (.i g1 (.i g1 (.p (show (g1=true→IX3 p_x so1 x8) from (fun hg=>idxOk cel3_len (optG_of hx8 hg))) (.h (.cells (cel3 x8)) (.i g1 (.n 1 (.n 1 (.i g1 (.i g1 (.n 1 (.i g1 (.n 1 (.n 2 (.i g2 (.i g2 (.p (show (g2=true→IX3 p_x so1 x9) from (fun hg=>idxOk cel3_len (optG_of hx9 hg))) (.h (.cells (cel3 x9)) (.i g2 (.n 1 (.i g2 (.p (show (g2=true→PCall Tryz.prog 218 [(di x9)] (vb x10)) from (fun hg=>ct218 (optG_of hx10 hg))) (.h (.call [(di x9)] (vb x10)) (.i g2 (.n 1 (.n 1 (.i g3 (.p (show (g3=true→PCall Tryz.prog 218 [(di target)] (vb x11)) from (fun hg=>ct218 (optG_of hx11 hg))) (.h (.call [(di target)] (vb x11)) (.i g2 (.p (show (((decide (so1<(p_x.length:Int)))&&(!(x8==target)))=true→x10=true→(((decide (so1<(p_x.length:Int)))&&(!(x8==target)))&&x10)=true) from (fun hg h1=>by first|exact hg|exact h1|(rw [hg,h1];rfl)|(simp only [hg,h1,Bool.not_true,Bool.not_false,Bool.and_self,Bool.true_and,Bool.and_true];done)|(simp only [Bool.and_eq_true] at hg;simp only [hg,h1,Bool.not_true,Bool.not_false,Bool.and_self,Bool.true_and,Bool.and_true];done)|simp_all)) (.h (.own) (.i g1 (.p (show ((decide (so1<(p_x.length:Int)))=true→(x8==target)=false→((decide (so1<(p_x.length:Int)))&&(!(x8==target)))=true) from (fun hg h1=>by first|exact hg|exact h1|(rw [hg,h1];rfl)|(simp only [hg,h1,Bool.not_true,Bool.not_false,Bool.and_self,Bool.true_and,Bool.and_true];done)|(simp only [Bool.and_eq_true] at hg;simp only [hg,h1,Bool.not_true,Bool.not_false,Bool.and_self,Bool.true_and,Bool.and_true];done)|simp_all)) (.h (.own) (.i g1 (.n 1 .nil))))))))))))))))))))))))))))))))))))) ?_
  obtain rfl:=oi h
  exact awp_ret gm
theorem ct156v1 {fuel:Nat}  {high:Int} {b0x0:List S_api_Span} {b0x1:Int} {b0x2:List S_api_Span} {b0x3:List S_api_ClPair} {b0x4:Int} {b0x5:List S_api_ClPair} {b0x6:List Int} {b0x8:List Int} {a1:List S_api_Span} {res:Int} (h:F156v1 fuel high b0x0 b0x1 b0x2 b0x3 b0x4 b0x5 b0x6 b0x8 a1=some res):HCall Tryz.prog 156 [rf 0,vi high] [.vec [.d (L66 b0x0),vi b0x1,.d (L66 b0x2),.d (L70 b0x3),vi b0x4,.d (L70 b0x5),.d (L3 b0x6),.sl 2 1 0 a1.length] b0x8 [],.fixed (a1.flatMap cel66)] (vi res) [.vec [.d (L66 b0x0),vi b0x1,.d (L66 b0x2),.d (L70 b0x3),vi b0x4,.d (L70 b0x5),.d (L3 b0x6),.sl 2 1 0 a1.length] b0x8 [],.fixed (a1.flatMap cel66)]:=by
 refine HCall.of_awpS tt_ok (N:=20) (fl:=2) Tryz.func156 rfl (by kernel_rfl) rfl rfl (Nat.le_of_ble_eq_true rfl) ?_
 unfold F156v1 at h
 refine EN ?_
 refine R0 ?_
 obtain ⟨x1,hx1,h⟩:=ob h
 refine RT (.n 5 (.pc (ct193 hx1) .nil)) ?_
 refine awp_seq (R0 ?_)
 refine cd h (fun hb2 h=>?_) (fun hb2 h=>?_)
 ·refine X0 ?_
  show awp ..
  refine R0 ?_
  obtain rfl:=oi h
  exact awp_ret (main_retS [0,1] (vi (w64 (x1.1+1))) (by kernel_rfl) (by kernel_rfl) (by kernel_rfl) (by kernel_rfl))
 ·refine awp_skip ?_
  show awp ..
  refine R0 ?_
  obtain rfl:=oi h
  exact awp_ret (main_retS [0,1] (vi x1.1) (by kernel_rfl) (by kernel_rfl) (by kernel_rfl) (by kernel_rfl))
theorem ct145  {p_s:S_api_ClPair} {b0x0:List S_api_Span} {b0x1:Int} {b0x2:List S_api_Span} {b0x3:List S_api_ClPair} {b0x4:Int} {b0x5:List S_api_ClPair} {b0x6:List Int} {b0x8:List Int} {a1:List S_api_Span} {res:Int×Int} (h:F145 p_s b0x0 b0x1 b0x2 b0x3 b0x4 b0x5 b0x6 b0x8 a1=some res):HCall Tryz.prog 145 [rf 0,.d (.agg [(di p_s.A),(di p_s.B)])] [.vec [.d (L66 b0x0),vi b0x1,.d (L66 b0x2),.d (L70 b0x3),vi b0x4,.d (L70 b0x5),.d (L3 b0x6),.sl 2 1 0 a1.length] b0x8 [],.fixed (a1.flatMap cel66)] (.fn (.func 192) [] [rf 2,rf 3]) [.vec [.d (L66 b0x0),vi b0x1,.d (L66 b0x2),.d (L70 b0x3),vi b0x4,.d (L70 b0x5),.d (L3 b0x6),.sl 2 1 0 a1.length] b0x8 [],.fixed (a1.flatMap cel66),.cells [rf 0],.cells [vi res.1,vi res.2]]:=by
 refine HCall.of_awpS tt_ok (N:=6) (fl:=2) Tryz.func145 rfl (by kernel_rfl) rfl rfl (Nat.le_of_ble_eq_true rfl) ?_
 unfold F145 at h
 refine EN ?_
 refine R0 ?_
 refine R0 ?_
 obtain rfl:=oi h
 exact awp_ret (main_retS [0,1,2,3] (.fn (.func 192) [] [rf 2,rf 3]) (by kernel_rfl) (by kernel_rfl) (by kernel_rfl) (by kernel_rfl))
theorem ct90r  {y1:Int} {y2:Int} {b2x0:List S_api_Span} {b2x1:Int} {b2x2:List S_api_Span} {b2x3:List S_api_ClPair} {b2x4:Int} {b2x5:List S_api_ClPair} {b2x6:List Int} {b2x8:List Int} {a3:List S_api_Span} {res:(List Int)} (h:F90r y1 y2 b2x0 b2x1 b2x2 b2x3 b2x4 b2x5 b2x6 b2x8 a3=some res):YCall Tryz.prog [.yld 0,vi y1,vi y2] [.loop (some none) [73,74] asn90x0 bdy90x0 158 [(8,rf 1)],.cells [rf 2],.vec [.d (L66 b2x0),vi b2x1,.d (L66 b2x2),.d (L70 b2x3),vi b2x4,.d (L70 b2x5),.d (L3 b2x6),.sl 2 3 0 a3.length] b2x8 [],.fixed (a3.flatMap cel66)] (vb true) [.loop (some none) [73,74] asn90x0 bdy90x0 158 [(8,rf 1)],.cells [rf 2],.vec [.d (L66 b2x0),vi b2x1,.d (L66 b2x2),.d (L70 b2x3),vi b2x4,.d (L70 b2x5),.d (L3 b2x6),.sl 2 3 0 a3.length] res [],.fixed (a3.flatMap cel66)]:=by
 refine YCall.of_awp (N:=158) (k:=0) (ps:=[73,74]) (asg:=asn90x0) (bd:=bdy90x0) (Tl:=[(8,rf 1)]) rfl (by kernel_rfl) rfl ?_
 refine awp_eq (T':=[(74,vi y2),(73,vi y1),(8,rf 1)]) (H':=[.loop (some none) [73,74] asn90x0 bdy90x0 158 [(8,rf 1)],.cells [rf 2],.vec [.d (L66 b2x0),vi b2x1,.d (L66 b2x2),.d (L70 b2x3),vi b2x4,.d (L70 b2x5),.d (L3 b2x6),.sl 2 3 0 a3.length] b2x8 [],.fixed (a3.flatMap cel66)]) (by kernel_rfl) rfl ?_
 change awp _ _ _ _ asn90x0 _ _ _
 unfold F90r at h
 refine GA [(8,rf 1),(13,vi y1),(74,vi y2)] [.loop (some none) [73,74] asn90x0 bdy90x0 158 [(8,rf 1)],.cells [rf 2],.vec [.d (L66 b2x0),vi b2x1,.d (L66 b2x2),.d (L70 b2x3),vi b2x4,.d (L70 b2x5),.d (L3 b2x6),.sl 2 3 0 a3.length] b2x8 [],.fixed (a3.flatMap cel66)] ?_
 refine YA [(8,rf 1),(13,vi y1),(14,vi y2)] ?_
 refine ⟨rfl,by kernel_rfl,?_⟩
 refine awp_eq (T':=[(8,rf 1),(13,vi y1),(14,vi y2)]) (H':=[.loop (none) [73,74] asn90x0 bdy90x0 158 [(8,rf 1)],.cells [rf 2],.vec [.d (L66 b2x0),vi b2x1,.d (L66 b2x2),.d (L70 b2x3),vi b2x4,.d (L70 b2x5),.d (L3 b2x6),.sl 2 3 0 a3.length] b2x8 [],.fixed (a3.flatMap cel66)]) rfl rfl ?_
 refine awp_wkQ ?_
 refine awp_block ?_
 obtain ⟨x1,hx1,h⟩:=ob h
 obtain ⟨x2,hx2,h⟩:=ob h
 obtain ⟨x3,hx3,h⟩:=ob h
 obtain ⟨x4,hx4,h⟩:=ob h
 obtain ⟨x5,hx5,h⟩:=ob h
 obtain ⟨x6,hx6,h⟩:=ob h
 refine EN ?_
 refine DT 12 (.n 5 (.p (need_of hx1:0≤y1∧y1<((6:Nat):Int)) (.n 1 (.p (need_of hx2:0≤y2∧y2<((6:Nat):Int)) (.n 1 (.p (show LoadOk (([.d (L66 b2x0),vi b2x1,.d (L66 b2x2),.d (L70 b2x3),vi b2x4,.d (L70 b2x5),.d (L3 b2x6),.sl 2 3 0 a3.length]:List V)++b2x8.map vi) (8+y1.toNat*6+y2.toNat*1) 1 [vi x3] from vecLoad (p:=8) (pre:=[.d (L66 b2x0),vi b2x1,.d (L66 b2x2),.d (L70 b2x3),vi b2x4,.d (L70 b2x5),.d (L3 b2x6),.sl 2 3 0 a3.length]) (k:=0+y1.toNat*6+y2.toNat*1) rfl hx3 (by omega)) (.h (.vals [vi x3]) (.n 3 (.p (need_of hx4:0≤y1∧y1<((6:Nat):Int)) (.n 1 (.p (need_of hx5:0≤y2∧y2<((6:Nat):Int)) (.n 1 (.p (show (([vi (w64 (x3+1))]:List V).length=1) from (rfl:([vi (w64 (x3+1))]:List V).length=1)) (.p (show StoreOk (([.d (L66 b2x0),vi b2x1,.d (L66 b2x2),.d (L70 b2x3),vi b2x4,.d (L70 b2x5),.d (L3 b2x6),.sl 2 3 0 a3.length]:List V)++b2x8.map vi) (8+y1.toNat*6+y2.toNat*1) [vi (w64 (x3+1))] (([.d (L66 b2x0),vi b2x1,.d (L66 b2x2),.d (L70 b2x3),vi b2x4,.d (L70 b2x5),.d (L3 b2x6),.sl 2 3 0 a3.length]:List V)++(b2x8.set (0+y1.toNat*6+y2.toNat*1) (w64 (x3+1))).map vi) from vecStore (p:=8) (pre:=[.d (L66 b2x0),vi b2x1,.d (L66 b2x2),.d (L70 b2x3),vi b2x4,.d (L70 b2x5),.d (L3 b2x6),.sl 2 3 0 a3.length]) (k:=0+y1.toNat*6+y2.toNat*1) rfl hx6 (by omega)) (.h (.nums (b2x8.set (0+y1.toNat*6+y2.toNat*1) (w64 (x3+1)))) .nil))))))))))))))) ?_
 obtain ⟨x7,hx7,h⟩:=ob h
 obtain ⟨x8,hx8,h⟩:=ob h
 obtain ⟨x9,hx9,h⟩:=ob h
 obtain ⟨x10,hx10,h⟩:=ob h
 obtain ⟨x11,hx11,h⟩:=ob h
 obtain ⟨x12,hx12,h⟩:=ob h
 refine ET 12 (.n 5 (.p (need_of hx7:0≤y2∧y2<((6:Nat):Int)) (.n 1 (.p (need_of hx8:0≤y1∧y1<((6:Nat):Int)) (.n 1 (.p (show LoadOk (([.d (L66 b2x0),vi b2x1,.d (L66 b2x2),.d (L70 b2x3),vi b2x4,.d (L70 b2x5),.d (L3 b2x6),.sl 2 3 0 a3.length]:List V)++(b2x8.set (0+y1.toNat*6+y2.toNat*1) (w64 (x3+1))).map vi) (8+y2.toNat*6+y1.toNat*1) 1 [vi x9] from vecLoad (p:=8) (pre:=[.d (L66 b2x0),vi b2x1,.d (L66 b2x2),.d (L70 b2x3),vi b2x4,.d (L70 b2x5),.d (L3 b2x6),.sl 2 3 0 a3.length]) (k:=0+y2.toNat*6+y1.toNat*1) rfl hx9 (by omega)) (.h (.vals [vi x9]) (.n 3 (.p (need_of hx10:0≤y2∧y2<((6:Nat):Int)) (.n 1 (.p (need_of hx11:0≤y1∧y1<((6:Nat):Int)) (.n 1 (.p (show (([vi (w64 (x9+1))]:List V).length=1) from (rfl:([vi (w64 (x9+1))]:List V).length=1)) (.p (show StoreOk (([.d (L66 b2x0),vi b2x1,.d (L66 b2x2),.d (L70 b2x3),vi b2x4,.d (L70 b2x5),.d (L3 b2x6),.sl 2 3 0 a3.length]:List V)++(b2x8.set (0+y1.toNat*6+y2.toNat*1) (w64 (x3+1))).map vi) (8+y2.toNat*6+y1.toNat*1) [vi (w64 (x9+1))] (([.d (L66 b2x0),vi b2x1,.d (L66 b2x2),.d (L70 b2x3),vi b2x4,.d (L70 b2x5),.d (L3 b2x6),.sl 2 3 0 a3.length]:List V)++((b2x8.set (0+y1.toNat*6+y2.toNat*1) (w64 (x3+1))).set (0+y2.toNat*6+y1.toNat*1) (w64 (x9+1))).map vi) from vecStore (p:=8) (pre:=[.d (L66 b2x0),vi b2x1,.d (L66 b2x2),.d (L70 b2x3),vi b2x4,.d (L70 b2x5),.d (L3 b2x6),.sl 2 3 0 a3.length]) (k:=0+y2.toNat*6+y1.toNat*1) rfl hx12 (by omega)) (.h (.nums ((b2x8.set (0+y1.toNat*6+y2.toNat*1) (w64 (x3+1))).set (0+y2.toNat*6+y1.toNat*1) (w64 (x9+1)))) .nil))))))))))))))) ?_
 obtain rfl:=oi h
 repeat (first|refine blockQ_ne (by decide) ?_|refine thenQ_exit ?_|refine noGotoA_exit ?_)
 try delta blockQ
 try delta thenQ
 try delta noGotoA
 show Wk _ _ _ _ _
 refine Wk.mk 4 [] (by kernel_rfl) (T':=[]) (H':=[.loop (none) [73,74] asn90x0 bdy90x0 158 [(8,rf 1)],.cells [rf 2],.vec [.d (L66 b2x0),vi b2x1,.d (L66 b2x2),.d (L70 b2x3),vi b2x4,.d (L70 b2x5),.d (L3 b2x6),.sl 2 3 0 a3.length] ((b2x8.set (0+y1.toNat*6+y2.toNat*1) (w64 (x3+1))).set (0+y2.toNat*6+y1.toNat*1) (w64 (x9+1))) [],.fixed (a3.flatMap cel66)]) (by kernel_rfl) (by kernel_rfl) ?_
 exact ⟨none,rfl,rfl,by kernel_rfl,by kernel_rfl⟩
theorem ct192 {fuel:Nat}  {b2x0:List S_api_Span} {b2x1:Int} {b2x2:List S_api_Span} {b2x3:List S_api_ClPair} {b2x4:Int} {b2x5:List S_api_ClPair} {b2x6:List Int} {b2x8:List Int} {a3:List S_api_Span} {b5x0:Int} {b5x1:Int} {res:(List Int)} (h:F192 fuel b2x0 b2x1 b2x2 b2x3 b2x4 b2x5 b2x6 b2x8 a3 b5x0 b5x1=some res):HCall Tryz.prog 192 [.yld 0,rf 4,rf 5] [.loop (some none) [73,74] asn90x0 bdy90x0 158 [(8,rf 1)],.cells [rf 2],.vec [.d (L66 b2x0),vi b2x1,.d (L66 b2x2),.d (L70 b2x3),vi b2x4,.d (L70 b2x5),.d (L3 b2x6),.sl 2 3 0 a3.length] b2x8 [],.fixed (a3.flatMap cel66),.cells [rf 2],.cells [vi b5x0,vi b5x1]] (.tup []) [.loop (some none) [73,74] asn90x0 bdy90x0 158 [(8,rf 1)],.cells [rf 2],.vec [.d (L66 b2x0),vi b2x1,.d (L66 b2x2),.d (L70 b2x3),vi b2x4,.d (L70 b2x5),.d (L3 b2x6),.sl 2 3 0 a3.length] res [],.fixed (a3.flatMap cel66),.cells [rf 2],.cells [vi b5x0,vi b5x1]]:=by
 refine HCall.of_awpS tt_ok (N:=64) (fl:=6) Tryz.func192 rfl (by kernel_rfl) rfl rfl (Nat.le_of_ble_eq_true rfl) ?_
 unfold F192 at h
 refine EN ?_
 refine RS 2 ?_
 obtain ⟨x1,hx1,h⟩:=ob h
 obtain ⟨x2,hx2,h⟩:=ob h
 refine DT 19 (.n 6 (.p (show (0≤b5x0∧b5x0<(a3.length:Int)) from idx_bounds hx1) (.n 1 (.p (show LoadOk ((a3.flatMap cel66).map .d) (0+b5x0.toNat*2) 2 (([(di x1.Lo),(di x1.Hi)]:List D).map .d) from loadOk (j:=0) (es:=([(di x1.Lo),(di x1.Hi)]:List D)) cel66_len hx1 rfl rfl rfl (Nat.le_of_ble_eq_true rfl)) (.h (.vals (([(di x1.Lo),(di x1.Hi)]:List D).map .d)) (.n 6 (.p (show (0≤b5x1∧b5x1<(a3.length:Int)) from idx_bounds hx2) (.n 1 (.p (show LoadOk ((a3.flatMap cel66).map .d) (0+b5x1.toNat*2) 2 (([(di x2.Lo),(di x2.Hi)]:List D).map .d) from loadOk (j:=0) (es:=([(di x2.Lo),(di x2.Hi)]:List D)) cel66_len hx2 rfl rfl rfl (Nat.le_of_ble_eq_true rfl)) (.h (.vals (([(di x2.Lo),(di x2.Hi)]:List D).map .d)) (.h (.res 6) (.h (.res 7) .nil)))))))))))) ?_
 refine R0 ?_
 refine cuo h (fun (ro3:(List Int))=>[]) (fun (ro3:(List Int))=>[.loop (some none) [73,74] asn90x0 bdy90x0 158 [(8,rf 1)],.cells [rf 2],.vec [.d (L66 b2x0),vi b2x1,.d (L66 b2x2),.d (L70 b2x3),vi b2x4,.d (L70 b2x5),.d (L3 b2x6),.sl 2 3 0 a3.length] ro3 [],.fixed (a3.flatMap cel66),.cells [rf 2],.cells [vi b5x0,vi b5x1]]) (fun (so3:(List Int))=>[]) (fun (so3:(List Int))=>[.loop (some none) [73,74] asn90x0 bdy90x0 158 [(8,rf 1)],.cells [rf 2],.vec [.d (L66 b2x0),vi b2x1,.d (L66 b2x2),.d (L70 b2x3),vi b2x4,.d (L70 b2x5),.d (L3 b2x6),.sl 2 3 0 a3.length] so3 [],.fixed (a3.flatMap cel66),.cells [rf 2],.cells [vi b5x0,vi b5x1],.cells [vi x1.Lo,vi x1.Hi],.cells [vi x2.Lo,vi x2.Hi]]) (fun o3 h=>?_) (fun ro3 h=>?_) (fun so3 h=>?_)
 ·refine awp_selQ (LP 8 [0,4,5,31,32] (F192L1 fuel b2x0 b2x1 b2x2 b2x3 b2x4 b2x5 b2x6 a3 x1 x2) o3 (fun (c4:Int×(List Int))=>pr [(0,.yld 0),(4,rf 6),(5,rf 7),(31,vi (w64 ((w64 (x1.Hi-x1.Lo))+1))),(32,vi c4.1)] [.loop (some none) [73,74] asn90x0 bdy90x0 158 [(8,rf 1)],.cells [rf 2],.vec [.d (L66 b2x0),vi b2x1,.d (L66 b2x2),.d (L70 b2x3),vi b2x4,.d (L70 b2x5),.d (L3 b2x6),.sl 2 3 0 a3.length] c4.2 [],.fixed (a3.flatMap cel66),.cells [rf 2],.cells [vi b5x0,vi b5x1],.cells [vi x1.Lo,vi x1.Hi],.cells [vi x2.Lo,vi x2.Hi]]) fuel (0,b2x8) h (fun _=>rfl) ?_)
  clear h
  intro n5 c4 h hrn5
  rw [F192L1] at h
  refine R0 ?_
  refine awp_seq (cd h (fun hb6 h=>?_) (fun hb6 h=>?_))
  ·refine awp_skip ?_
   show awp ..
   refine awp_seq (awp_block ?_)
   refine R0 ?_
   refine R0 ?_
   refine cuo h (fun (ro7:(List Int))=>[]) (fun (ro7:(List Int))=>[.loop (some none) [73,74] asn90x0 bdy90x0 158 [(8,rf 1)],.cells [rf 2],.vec [.d (L66 b2x0),vi b2x1,.d (L66 b2x2),.d (L70 b2x3),vi b2x4,.d (L70 b2x5),.d (L3 b2x6),.sl 2 3 0 a3.length] ro7 [],.fixed (a3.flatMap cel66),.cells [rf 2],.cells [vi b5x0,vi b5x1]]) (fun (so7:(List Int))=>[(0,.yld 0),(4,rf 6),(5,rf 7),(31,vi (w64 ((w64 (x1.Hi-x1.Lo))+1))),(32,vi c4.1)]) (fun (so7:(List Int))=>[.loop (some none) [73,74] asn90x0 bdy90x0 158 [(8,rf 1)],.cells [rf 2],.vec [.d (L66 b2x0),vi b2x1,.d (L66 b2x2),.d (L70 b2x3),vi b2x4,.d (L70 b2x5),.d (L3 b2x6),.sl 2 3 0 a3.length] so7 [],.fixed (a3.flatMap cel66),.cells [rf 2],.cells [vi b5x0,vi b5x1],.cells [vi x1.Lo,vi x1.Hi],.cells [vi x2.Lo,vi x2.Hi]]) (fun o7 h=>?_) (fun ro7 h=>?_) (fun so7 h=>?_)
   ·refine awp_selQ (LP 8 [0,4,5,6,31,32,40,41] (F192L2 b2x0 b2x1 b2x2 b2x3 b2x4 b2x5 b2x6 a3 x1 x2 c4) o7 (fun (c8:Int×(List Int))=>pr [(0,.yld 0),(4,rf 6),(5,rf 7),(6,vi c4.1),(31,vi (w64 ((w64 (x1.Hi-x1.Lo))+1))),(32,vi c4.1),(40,vi (w64 ((w64 (x2.Hi-x2.Lo))+1))),(41,vi c8.1)] [.loop (some none) [73,74] asn90x0 bdy90x0 158 [(8,rf 1)],.cells [rf 2],.vec [.d (L66 b2x0),vi b2x1,.d (L66 b2x2),.d (L70 b2x3),vi b2x4,.d (L70 b2x5),.d (L3 b2x6),.sl 2 3 0 a3.length] c8.2 [],.fixed (a3.flatMap cel66),.cells [rf 2],.cells [vi b5x0,vi b5x1],.cells [vi x1.Lo,vi x1.Hi],.cells [vi x2.Lo,vi x2.Hi]]) fuel (0,c4.2) h (fun _=>rfl) ?_)
    clear h
    intro n9 c8 h hrn9
    rw [F192L2] at h
    refine R0 ?_
    refine awp_seq (cd h (fun hb10 h=>?_) (fun hb10 h=>?_))
    ·refine awp_skip ?_
     show awp ..
     refine awp_seq (awp_block ?_)
     refine R0 ?_
     refine DT 9 .nil ?_
     obtain ⟨x11,hx11,h⟩:=ob h
     let g1:=((w64 (x1.Lo+c4.1)) != (w64 (x2.Lo+c8.1)))
     refine RT (.n 7 (.i g1 (.i g1 (.i g1 (.p (show (((w64 (x1.Lo+c4.1)) != (w64 (x2.Lo+c8.1)))=true→([.loop (some none) [73,74] asn90x0 bdy90x0 158 [(8,rf 1)],.cells [rf 2],.vec [.d (L66 b2x0),vi b2x1,.d (L66 b2x2),.d (L70 b2x3),vi b2x4,.d (L70 b2x5),.d (L3 b2x6),.sl 2 3 0 a3.length] x11 [],.fixed (a3.flatMap cel66),.cells [rf 2],.cells [vi b5x0,vi b5x1],.cells [vi x1.Lo,vi x1.Hi],.cells [vi x2.Lo,vi x2.Hi]]:List O)=[.loop (some none) [73,74] asn90x0 bdy90x0 158 [(8,rf 1)],.cells [rf 2],.vec [.d (L66 b2x0),vi b2x1,.d (L66 b2x2),.d (L70 b2x3),vi b2x4,.d (L70 b2x5),.d (L3 b2x6),.sl 2 3 0 a3.length] (cond ((w64 (x1.Lo+c4.1)) != (w64 (x2.Lo+c8.1))) x11 c8.2) [],.fixed (a3.flatMap cel66),.cells [rf 2],.cells [vi b5x0,vi b5x1],.cells [vi x1.Lo,vi x1.Hi],.cells [vi x2.Lo,vi x2.Hi]]) from (fun hg=>by first|rfl|(rw [hg];done)|(rw [hg];rfl)|simp only [hg,cond_true])) (.p (show (((w64 (x1.Lo+c4.1)) != (w64 (x2.Lo+c8.1)))=false→([.loop (some none) [73,74] asn90x0 bdy90x0 158 [(8,rf 1)],.cells [rf 2],.vec [.d (L66 b2x0),vi b2x1,.d (L66 b2x2),.d (L70 b2x3),vi b2x4,.d (L70 b2x5),.d (L3 b2x6),.sl 2 3 0 a3.length] c8.2 [],.fixed (a3.flatMap cel66),.cells [rf 2],.cells [vi b5x0,vi b5x1],.cells [vi x1.Lo,vi x1.Hi],.cells [vi x2.Lo,vi x2.Hi]]:List O)=[.loop (some none) [73,74] asn90x0 bdy90x0 158 [(8,rf 1)],.cells [rf 2],.vec [.d (L66 b2x0),vi b2x1,.d (L66 b2x2),.d (L70 b2x3),vi b2x4,.d (L70 b2x5),.d (L3 b2x6),.sl 2 3 0 a3.length] (cond ((w64 (x1.Lo+c4.1)) != (w64 (x2.Lo+c8.1))) x11 c8.2) [],.fixed (a3.flatMap cel66),.cells [rf 2],.cells [vi b5x0,vi b5x1],.cells [vi x1.Lo,vi x1.Hi],.cells [vi x2.Lo,vi x2.Hi]]) from (fun hg=>by first|rfl|(rw [hg];done)|(rw [hg];rfl)|simp only [hg,cond_false])) (.p (show (g1=true→YCall Tryz.prog [.yld 0,vi (w64 (x1.Lo+c4.1)),vi (w64 (x2.Lo+c8.1))] [.loop (some none) [73,74] asn90x0 bdy90x0 158 [(8,rf 1)],.cells [rf 2],.vec [.d (L66 b2x0),vi b2x1,.d (L66 b2x2),.d (L70 b2x3),vi b2x4,.d (L70 b2x5),.d (L3 b2x6),.sl 2 3 0 a3.length] c8.2 [],.fixed (a3.flatMap cel66)] (vb true) [.loop (some none) [73,74] asn90x0 bdy90x0 158 [(8,rf 1)],.cells [rf 2],.vec [.d (L66 b2x0),vi b2x1,.d (L66 b2x2),.d (L70 b2x3),vi b2x4,.d (L70 b2x5),.d (L3 b2x6),.sl 2 3 0 a3.length] x11 [],.fixed (a3.flatMap cel66)]) from (fun hg=>ct90r (optG_of hx11 hg))) (.h (.gcall [(0,false),(1,false),(2,false),(3,false)] (vb true) [.loop (some none) [73,74] asn90x0 bdy90x0 158 [(8,rf 1)],.cells [rf 2],.vec [.d (L66 b2x0),vi b2x1,.d (L66 b2x2),.d (L70 b2x3),vi b2x4,.d (L70 b2x5),.d (L3 b2x6),.sl 2 3 0 a3.length] x11 [],.fixed (a3.flatMap cel66)] [.loop (some none) [73,74] asn90x0 bdy90x0 158 [(8,rf 1)],.cells [rf 2],.vec [.d (L66 b2x0),vi b2x1,.d (L66 b2x2),.d (L70 b2x3),vi b2x4,.d (L70 b2x5),.d (L3 b2x6),.sl 2 3 0 a3.length] (cond ((w64 (x1.Lo+c4.1)) != (w64 (x2.Lo+c8.1))) x11 c8.2) [],.fixed (a3.flatMap cel66),.cells [rf 2],.cells [vi b5x0,vi b5x1],.cells [vi x1.Lo,vi x1.Hi],.cells [vi x2.Lo,vi x2.Hi]]) (.i g1 (.n 1 (.i g1 (.n 1 .nil)))))))))))) ?_
     refine cd h (fun hb12 h=>?_) (fun hb12 h=>?_)
     ·obtain rfl:=oi h
      exact awp_ret (gs [0,1,2,3,4,5] [] OutQ.ret)
     ·refine awp_skip ?_
      show awp ..
      refine X0 ?_
      exact gn 8 [0,4,5,6,31,32,40,41] (hrn9 _ h)
    ·refine awp_exit ?_
     obtain rfl:=oi h
     exact gs [0,1,2,3,4,5,6,7] [0,4,5,31,32] OutQ.norm
   ·obtain rfl:=oi h
    exact gs [0,1,2,3,4,5] [] OutQ.ret
   ·show awp ..
    refine EN ?_
    refine X0 ?_
    exact gn 8 [0,4,5,31,32] (hrn5 _ h)
  ·refine awp_exit ?_
   obtain rfl:=oi h
   exact gs [0,1,2,3,4,5,6,7] [] OutQ.norm
 ·obtain rfl:=oi h
  exact (main_retS [0,1,2,3,4,5] (.tup []) (by kernel_rfl) (by kernel_rfl) (by kernel_rfl) (by kernel_rfl))
 ·obtain rfl:=oi h
  exact (main_retN [0,1,2,3,4,5] (.tup []) (by kernel_rfl) (by kernel_rfl) (by kernel_rfl) (by kernel_rfl))
theorem ct90 {fuel:Nat}  {p_m:S_api_ClMap} {legend:(List Int)} {res:(Option S_colour_chart)×Int} (h:F90 fuel p_m legend=some res):PCall Tryz.prog 90 [(.agg [(L66 p_m.Borders),(di p_m.Step),(L66 p_m.Heights),(L70 p_m.Sides),(di p_m.Inks),(L70 p_m.Like)]),(L3 legend)] (.tup [.d (OP159 res.1),vi res.2]):=by
 refine PCall.of_awp tt_ok (N:=158) Tryz.func90 rfl (by kernel_rfl) rfl (Nat.le_of_ble_eq_true rfl) rfl ?_
 unfold F90 at h
 refine EN ?_
 refine R0 ?_
 refine awp_seq ?_
 obtain ⟨x1,hx1,h⟩:=ob h
 refine RT (.n 2 (.pc (ct155 hx1) .nil)) ?_
 refine R0 ?_
 refine cd h (fun hb2 h=>?_) (fun hb2 h=>?_)
 ·refine R0 ?_
  obtain rfl:=oi h
  refine WA 1 [(4,.d (.v (.pointer none))),(5,vi x1.2)] [.cells [.d (L66 p_m.Borders),vi p_m.Step,.d (L66 p_m.Heights),.d (L70 p_m.Sides),vi p_m.Inks,.d (L70 p_m.Like)]] ?_
  refine awp_laxT 4 _ (OP159 (none:(Option S_colour_chart))) _ (by kernel_rfl) (.pnil) rfl ?_
  refine WA 1 [(4,.d (OP159 (none:(Option S_colour_chart)))),(5,vi x1.2)] [.cells [.d (L66 p_m.Borders),vi p_m.Step,.d (L66 p_m.Heights),.d (L70 p_m.Sides),vi p_m.Inks,.d (L70 p_m.Like)]] ?_
  exact awp_ret gm
 ·refine awp_skip ?_
  show awp ..
  refine R0 ?_
  refine awp_vec 1 (([(L66 p_m.Borders),(di p_m.Step),(L66 p_m.Heights),(L70 p_m.Sides),(di p_m.Inks),(L70 p_m.Like),(L3 legend),dnil]++(List.replicate 42 (0:Int)).map di0).map .d) [.d (L66 p_m.Borders),vi p_m.Step,.d (L66 p_m.Heights),.d (L70 p_m.Sides),vi p_m.Inks,.d (L70 p_m.Like),.d (L3 legend),.d dnil] (List.replicate 42 (0:Int)) [] [.cells [.d (L66 p_m.Borders),vi p_m.Step,.d (L66 p_m.Heights),.d (L70 p_m.Sides),vi p_m.Inks,.d (L70 p_m.Like)],.vec [.d (L66 p_m.Borders),vi p_m.Step,.d (L66 p_m.Heights),.d (L70 p_m.Sides),vi p_m.Inks,.d (L70 p_m.Like),.d (L3 legend),.d dnil] (List.replicate 42 (0:Int)) [],.cells [rf 1]] (by kernel_rfl) (map_ddP _ _) (by kernel_rfl) ?_
  refine awp_seq (EN ?_)
  refine R0 ?_
  refine WA 3 [(8,rf 2),(35,.d (L66 p_m.Heights)),(36,vl p_m.Heights),(37,vi 0)] [.cells [.d (L66 p_m.Borders),vi p_m.Step,.d (L66 p_m.Heights),.d (L70 p_m.Sides),vi p_m.Inks,.d (L70 p_m.Like)],.vec [.d (L66 p_m.Borders),vi p_m.Step,.d (L66 p_m.Heights),.d (L70 p_m.Sides),vi p_m.Inks,.d (L70 p_m.Like),.d (L3 legend),.d dnil] (List.replicate 42 (0:Int)) [],.cells [rf 1]] ?_
  refine awp_unvec 1 [.d (L66 p_m.Borders),vi p_m.Step,.d (L66 p_m.Heights),.d (L70 p_m.Sides),vi p_m.Inks,.d (L70 p_m.Like),.d (L3 legend),.d dnil] (List.replicate 42 (0:Int)) [] _ (by kernel_rfl) rfl ?_
  refine awp_nilC 1 7 2 ([.d (L66 p_m.Borders),vi p_m.Step,.d (L66 p_m.Heights),.d (L70 p_m.Sides),vi p_m.Inks,.d (L70 p_m.Like),.d (L3 legend),.d dnil]++(List.replicate 42 (0:Int)).map vi) [.cells [.d (L66 p_m.Borders),vi p_m.Step,.d (L66 p_m.Heights),.d (L70 p_m.Sides),vi p_m.Inks,.d (L70 p_m.Like)],.cells ([.d (L66 p_m.Borders),vi p_m.Step,.d (L66 p_m.Heights),.d (L70 p_m.Sides),vi p_m.Inks,.d (L70 p_m.Like),.d (L3 legend),.sl 2 3 0 ([]:List S_api_Span).length]++(List.replicate 42 (0:Int)).map vi),.cells [rf 1],.data (([]:List S_api_Span).flatMap cel66)] (by kernel_rfl) (by kernel_rfl) (by kernel_rfl) ?_
  refine awp_vec 1 ([.d (L66 p_m.Borders),vi p_m.Step,.d (L66 p_m.Heights),.d (L70 p_m.Sides),vi p_m.Inks,.d (L70 p_m.Like),.d (L3 legend),.sl 2 3 0 ([]:List S_api_Span).length]++(List.replicate 42 (0:Int)).map vi) [.d (L66 p_m.Borders),vi p_m.Step,.d (L66 p_m.Heights),.d (L70 p_m.Sides),vi p_m.Inks,.d (L70 p_m.Like),.d (L3 legend),.sl 2 3 0 ([]:List S_api_Span).length] (List.replicate 42 (0:Int)) [] [.cells [.d (L66 p_m.Borders),vi p_m.Step,.d (L66 p_m.Heights),.d (L70 p_m.Sides),vi p_m.Inks,.d (L70 p_m.Like)],.vec [.d (L66 p_m.Borders),vi p_m.Step,.d (L66 p_m.Heights),.d (L70 p_m.Sides),vi p_m.Inks,.d (L70 p_m.Like),.d (L3 legend),.sl 2 3 0 ([]:List S_api_Span).length] (List.replicate 42 (0:Int)) [],.cells [rf 1],.data (([]:List S_api_Span).flatMap cel66)] (by kernel_rfl) rfl (by kernel_rfl) ?_
  refine WA 4 [(8,rf 2),(35,.d (L66 p_m.Heights)),(36,vl p_m.Heights),(37,vi 0)] [.cells [.d (L66 p_m.Borders),vi p_m.Step,.d (L66 p_m.Heights),.d (L70 p_m.Sides),vi p_m.Inks,.d (L70 p_m.Like)],.vec [.d (L66 p_m.Borders),vi p_m.Step,.d (L66 p_m.Heights),.d (L70 p_m.Sides),vi p_m.Inks,.d (L70 p_m.Like),.d (L3 legend),.sl 2 3 0 ([]:List S_api_Span).length] (List.replicate 42 (0:Int)) [],.cells [rf 1],.data (([]:List S_api_Span).flatMap cel66)] ?_
  refine cuo h (fun (ro4:(Option S_colour_chart)×Int)=>[(4,.d (OP159 ro4.1)),(5,vi ro4.2)]) (fun (ro4:(Option S_colour_chart)×Int)=>[]) (fun (so4:(List S_api_Span))=>[(8,rf 2)]) (fun (so4:(List S_api_Span))=>[.cells [.d (L66 p_m.Borders),vi p_m.Step,.d (L66 p_m.Heights),.d (L70 p_m.Sides),vi p_m.Inks,.d (L70 p_m.Like)],.vec [.d (L66 p_m.Borders),vi p_m.Step,.d (L66 p_m.Heights),.d (L70 p_m.Sides),vi p_m.Inks,.d (L70 p_m.Like),.d (L3 legend),.sl 2 3 0 so4.length] (List.replicate 42 (0:Int)) [],.cells [rf 1],.data (so4.flatMap cel66)]) (fun o4 h=>?_) (fun ro4 h=>?_) (fun so4 h=>?_)
  ·refine awp_selQ (EN ?_)
   refine LP 4 [8,35,36,37] (F90L1 fuel p_m legend) o4 (fun (c5:Int×(List S_api_Span))=>pr [(8,rf 2),(35,.d (L66 p_m.Heights)),(36,vl p_m.Heights),(37,vi c5.1)] [.cells [.d (L66 p_m.Borders),vi p_m.Step,.d (L66 p_m.Heights),.d (L70 p_m.Sides),vi p_m.Inks,.d (L70 p_m.Like)],.vec [.d (L66 p_m.Borders),vi p_m.Step,.d (L66 p_m.Heights),.d (L70 p_m.Sides),vi p_m.Inks,.d (L70 p_m.Like),.d (L3 legend),.sl 2 3 0 c5.2.length] (List.replicate 42 (0:Int)) [],.cells [rf 1],.data (c5.2.flatMap cel66)]) fuel (0,([]:List S_api_Span)) h (fun _=>rfl) ?_
   clear h
   intro n6 c5 h hrn6
   rw [F90L1] at h
   refine R0 ?_
   refine awp_seq (cd h (fun hb7 h=>?_) (fun hb7 h=>?_))
   ·refine awp_skip ?_
    show awp ..
    refine awp_seq (awp_block ?_)
    obtain ⟨x8,hx8,h⟩:=ob h
    refine RT (.ix (idxOk cel66_len hx8) .nil) ?_
    obtain ⟨x9,hx9,h⟩:=ob h
    obtain ⟨x10,hx10,h⟩:=ob h
    obtain ⟨x11,hx11,h⟩:=ob h
    refine ET 16 (.n 8 (.p (show (([(1,.vec [.d (L66 p_m.Borders),vi p_m.Step,.d (L66 p_m.Heights),.d (L70 p_m.Sides),vi p_m.Inks,.d (L70 p_m.Like),.d (L3 legend),.sl 2 3 0 c5.2.length] (List.replicate 42 (0:Int)) []),(3,.data (c5.2.flatMap cel66))]:List (Nat×O))=[(1,.vec [.d (L66 p_m.Borders),vi p_m.Step,.d (L66 p_m.Heights),.d (L70 p_m.Sides),vi p_m.Inks,.d (L70 p_m.Like),.d (L3 legend),.sl 2 3 0 c5.2.length] (List.replicate 42 (0:Int)) []),(3,.data (c5.2.flatMap cel66))]) from rfl) (.p (show HCall Tryz.prog 156 [rf 0,vi x8.Lo] [.vec [.d (L66 p_m.Borders),vi p_m.Step,.d (L66 p_m.Heights),.d (L70 p_m.Sides),vi p_m.Inks,.d (L70 p_m.Like),.d (L3 legend),.sl 2 1 0 c5.2.length] (List.replicate 42 (0:Int)) [],.fixed (c5.2.flatMap cel66)] (vi x9) [.vec [.d (L66 p_m.Borders),vi p_m.Step,.d (L66 p_m.Heights),.d (L70 p_m.Sides),vi p_m.Inks,.d (L70 p_m.Like),.d (L3 legend),.sl 2 1 0 c5.2.length] (List.replicate 42 (0:Int)) [],.fixed (c5.2.flatMap cel66)] from ct156v1 hx9) (.h (.rcall [(1,false),(3,true)] (vi x9)) (.n 3 (.p (show (([(1,.vec [.d (L66 p_m.Borders),vi p_m.Step,.d (L66 p_m.Heights),.d (L70 p_m.Sides),vi p_m.Inks,.d (L70 p_m.Like),.d (L3 legend),.sl 2 3 0 c5.2.length] (List.replicate 42 (0:Int)) []),(3,.data (c5.2.flatMap cel66))]:List (Nat×O))=[(1,.vec [.d (L66 p_m.Borders),vi p_m.Step,.d (L66 p_m.Heights),.d (L70 p_m.Sides),vi p_m.Inks,.d (L70 p_m.Like),.d (L3 legend),.sl 2 3 0 c5.2.length] (List.replicate 42 (0:Int)) []),(3,.data (c5.2.flatMap cel66))]) from rfl) (.p (show HCall Tryz.prog 156 [rf 0,vi x8.Hi] [.vec [.d (L66 p_m.Borders),vi p_m.Step,.d (L66 p_m.Heights),.d (L70 p_m.Sides),vi p_m.Inks,.d (L70 p_m.Like),.d (L3 legend),.sl 2 1 0 c5.2.length] (List.replicate 42 (0:Int)) [],.fixed (c5.2.flatMap cel66)] (vi x10) [.vec [.d (L66 p_m.Borders),vi p_m.Step,.d (L66 p_m.Heights),.d (L70 p_m.Sides),vi p_m.Inks,.d (L70 p_m.Like),.d (L3 legend),.sl 2 1 0 c5.2.length] (List.replicate 42 (0:Int)) [],.fixed (c5.2.flatMap cel66)] from ct156v1 hx10) (.h (.rcall [(1,false),(3,true)] (vi x10)) (.n 2 (.p (show AppendOk ((c5.2.flatMap cel66).map .d) c5.2.length ([(⟨x9,x10⟩:S_api_Span)]:List S_api_Span).length (c5.2++([(⟨x9,x10⟩:S_api_Span)]:List S_api_Span)).length 2 16 (([(⟨x9,x10⟩:S_api_Span)]:List S_api_Span).flatMap cel66) ((c5.2++([(⟨x9,x10⟩:S_api_Span)]:List S_api_Span)).flatMap cel66) from appendOk cel66_len (need_of hx11)) (.h (.app 3 [45] [1] (c5.2++([(⟨x9,x10⟩:S_api_Span)]:List S_api_Span)).length ((c5.2++([(⟨x9,x10⟩:S_api_Span)]:List S_api_Span)).flatMap cel66)) .nil))))))))))) ?_
    show awp ..
    refine X0 ?_
    exact gn 4 [8,35,36,37] (hrn6 _ h)
   ·refine awp_exit ?_
    obtain rfl:=oi h
    exact gs [0,1,2,3] [8] OutQ.norm
  ·obtain rfl:=oi h
   exact gm
  ·show awp ..
   refine awp_seq (EN ?_)
   refine R0 ?_
   refine cuo h (fun (ro12:(Option S_colour_chart)×Int)=>[(4,.d (OP159 ro12.1)),(5,vi ro12.2)]) (fun (ro12:(Option S_colour_chart)×Int)=>[]) (fun (so12:(List Int))=>[(8,rf 2)]) (fun (so12:(List Int))=>[.cells [.d (L66 p_m.Borders),vi p_m.Step,.d (L66 p_m.Heights),.d (L70 p_m.Sides),vi p_m.Inks,.d (L70 p_m.Like)],.vec [.d (L66 p_m.Borders),vi p_m.Step,.d (L66 p_m.Heights),.d (L70 p_m.Sides),vi p_m.Inks,.d (L70 p_m.Like),.d (L3 legend),.sl 2 3 0 so4.length] so12 [],.cells [rf 1],.data (so4.flatMap cel66)]) (fun o12 h=>?_) (fun ro12 h=>?_) (fun so12 h=>?_)
   ·refine awp_selQ (LP 4 [8,64,65,66] (F90L2 fuel p_m legend so4) o12 (fun (c13:Int×(List Int))=>pr [(8,rf 2),(64,.d (L70 p_m.Sides)),(65,vl p_m.Sides),(66,vi c13.1)] [.cells [.d (L66 p_m.Borders),vi p_m.Step,.d (L66 p_m.Heights),.d (L70 p_m.Sides),vi p_m.Inks,.d (L70 p_m.Like)],.vec [.d (L66 p_m.Borders),vi p_m.Step,.d (L66 p_m.Heights),.d (L70 p_m.Sides),vi p_m.Inks,.d (L70 p_m.Like),.d (L3 legend),.sl 2 3 0 so4.length] c13.2 [],.cells [rf 1],.data (so4.flatMap cel66)]) fuel (0,(List.replicate 42 (0:Int))) h (fun _=>rfl) ?_)
    clear h
    intro n14 c13 h hrn14
    rw [F90L2] at h
    refine R0 ?_
    refine awp_seq (cd h (fun hb15 h=>?_) (fun hb15 h=>?_))
    ·refine awp_skip ?_
     show awp ..
     refine awp_seq (awp_block ?_)
     obtain ⟨x16,hx16,h⟩:=ob h
     refine RT (.ix (idxOk cel70_len hx16) .nil) ?_
     obtain ⟨x17,hx17,h⟩:=ob h
     refine RT (.n 2 (.hc [(1,false),(3,true)] (ct145 hx17) .nil)) ?_
     refine awp_block (WA 7 [(8,rf 2),(64,.d (L70 p_m.Sides)),(65,vl p_m.Sides),(66,vi c13.1),(72,.fn (.func 192) [] [rf 5,rf 6])] [.cells [.d (L66 p_m.Borders),vi p_m.Step,.d (L66 p_m.Heights),.d (L70 p_m.Sides),vi p_m.Inks,.d (L70 p_m.Like)],.vec [.d (L66 p_m.Borders),vi p_m.Step,.d (L66 p_m.Heights),.d (L70 p_m.Sides),vi p_m.Inks,.d (L70 p_m.Like),.d (L3 legend),.sl 2 3 0 so4.length] c13.2 [],.cells [rf 1],.data (so4.flatMap cel66),.cells [vi x16.A,vi x16.B],.cells [rf 1],.cells [vi x17.1,vi x17.2]] ?_)
     obtain ⟨x18,hx18,h⟩:=ob h
     refine awp_range (ks:=[8]) (ids:=[(7,false),(2,false),(1,false),(3,true),(5,false),(6,false)]) (r := .tup []) (Hc:=[.loop (some none) [73,74] asn90x0 bdy90x0 158 [(8,rf 1)],.cells [rf 2],.vec [.d (L66 p_m.Borders),vi p_m.Step,.d (L66 p_m.Heights),.d (L70 p_m.Sides),vi p_m.Inks,.d (L70 p_m.Like),.d (L3 legend),.sl 2 3 0 so4.length] x18 [],.fixed (so4.flatMap cel66),.cells [rf 2],.cells [vi x17.1,vi x17.2]]) none [(8,rf 2),(64,.d (L70 p_m.Sides)),(65,vl p_m.Sides),(66,vi c13.1),(72,.fn (.func 192) [] [rf 5,rf 6])] [.cells [.d (L66 p_m.Borders),vi p_m.Step,.d (L66 p_m.Heights),.d (L70 p_m.Sides),vi p_m.Inks,.d (L70 p_m.Like)],.vec [.d (L66 p_m.Borders),vi p_m.Step,.d (L66 p_m.Heights),.d (L70 p_m.Sides),vi p_m.Inks,.d (L70 p_m.Like),.d (L3 legend),.sl 2 3 0 so4.length] x18 [],.cells [rf 1],.data (so4.flatMap cel66),.cells [vi x16.A,vi x16.B],.cells [rf 1],.cells [vi x17.1,vi x17.2],.data []] [HCall Tryz.prog 192 [.yld 0,rf 4,rf 5] [.loop (some none) [73,74] asn90x0 bdy90x0 158 [(8,rf 1)],.cells [rf 2],.vec [.d (L66 p_m.Borders),vi p_m.Step,.d (L66 p_m.Heights),.d (L70 p_m.Sides),vi p_m.Inks,.d (L70 p_m.Like),.d (L3 legend),.sl 2 3 0 so4.length] c13.2 [],.fixed (so4.flatMap cel66),.cells [rf 2],.cells [vi x17.1,vi x17.2]] (.tup []) [.loop (some none) [73,74] asn90x0 bdy90x0 158 [(8,rf 1)],.cells [rf 2],.vec [.d (L66 p_m.Borders),vi p_m.Step,.d (L66 p_m.Heights),.d (L70 p_m.Sides),vi p_m.Inks,.d (L70 p_m.Like),.d (L3 legend),.sl 2 3 0 so4.length] x18 [],.fixed (so4.flatMap cel66),.cells [rf 2],.cells [vi x17.1,vi x17.2]]] rfl (by kernel_rfl) (ct192 hx18) (fun _=>?_) (fun c hc=>absurd hc (by simp))
     show awp ..
     refine EN ?_
     refine X0 ?_
     exact gn 4 [8,64,65,66] (hrn14 _ h)
    ·refine awp_exit ?_
     obtain rfl:=oi h
     exact gs [0,1,2,3] [8] OutQ.norm
   ·obtain rfl:=oi h
    exact gm
   ·show awp ..
    refine awp_seq (EN ?_)
    refine R0 ?_
    refine cuo h (fun (ro19:(Option S_colour_chart)×Int)=>[(4,.d (OP159 ro19.1)),(5,vi ro19.2)]) (fun (ro19:(Option S_colour_chart)×Int)=>[]) (fun (so19:(List Int))=>[(8,rf 2)]) (fun (so19:(List Int))=>[.cells [.d (L66 p_m.Borders),vi p_m.Step,.d (L66 p_m.Heights),.d (L70 p_m.Sides),vi p_m.Inks,.d (L70 p_m.Like)],.vec [.d (L66 p_m.Borders),vi p_m.Step,.d (L66 p_m.Heights),.d (L70 p_m.Sides),vi p_m.Inks,.d (L70 p_m.Like),.d (L3 legend),.sl 2 3 0 so4.length] so19 [],.cells [rf 1],.data (so4.flatMap cel66)]) (fun o19 h=>?_) (fun ro19 h=>?_) (fun so19 h=>?_)
    ·refine awp_selQ (LP 4 [8,106,107] (F90L3 p_m) o19 (fun (c20:Int×(List Int))=>pr [(8,rf 2),(106,vi p_m.Inks),(107,vi c20.1)] [.cells [.d (L66 p_m.Borders),vi p_m.Step,.d (L66 p_m.Heights),.d (L70 p_m.Sides),vi p_m.Inks,.d (L70 p_m.Like)],.vec [.d (L66 p_m.Borders),vi p_m.Step,.d (L66 p_m.Heights),.d (L70 p_m.Sides),vi p_m.Inks,.d (L70 p_m.Like),.d (L3 legend),.sl 2 3 0 so4.length] c20.2 [],.cells [rf 1],.data (so4.flatMap cel66)]) fuel (0,so12) h (fun _=>rfl) ?_)
     clear h
     intro n21 c20 h hrn21
     rw [F90L3] at h
     refine R0 ?_
     refine awp_seq (cd h (fun hb22 h=>?_) (fun hb22 h=>?_))
     ·refine awp_skip ?_
      show awp ..
      refine awp_seq (awp_block ?_)
      refine R0 ?_
      obtain ⟨x23,hx23,h⟩:=ob h
      obtain ⟨x24,hx24,h⟩:=ob h
      obtain ⟨x25,hx25,h⟩:=ob h
      refine ET 6 (.n 3 (.p (need_of hx23:0≤c20.1) (.n 1 (.n 2 (.p (need_of hx24:0≤c20.1∧c20.1<((6:Nat):Int)) (.n 1 (.p (show (([vi (w64 ((1:Int)*2^min c20.1.toNat 64))]:List V).length=1) from (rfl:([vi (w64 ((1:Int)*2^min c20.1.toNat 64))]:List V).length=1)) (.p (show StoreOk (([.d (L66 p_m.Borders),vi p_m.Step,.d (L66 p_m.Heights),.d (L70 p_m.Sides),vi p_m.Inks,.d (L70 p_m.Like),.d (L3 legend),.sl 2 3 0 so4.length]:List V)++c20.2.map vi) (44+c20.1.toNat*1) [vi (w64 ((1:Int)*2^min c20.1.toNat 64))] (([.d (L66 p_m.Borders),vi p_m.Step,.d (L66 p_m.Heights),.d (L70 p_m.Sides),vi p_m.Inks,.d (L70 p_m.Like),.d (L3 legend),.sl 2 3 0 so4.length]:List V)++(c20.2.set (36+c20.1.toNat*1) (w64 ((1:Int)*2^min c20.1.toNat 64))).map vi) from vecStore (p:=8) (pre:=[.d (L66 p_m.Borders),vi p_m.Step,.d (L66 p_m.Heights),.d (L70 p_m.Sides),vi p_m.Inks,.d (L70 p_m.Like),.d (L3 legend),.sl 2 3 0 so4.length]) (k:=36+c20.1.toNat*1) rfl hx25 (by omega)) (.h (.nums (c20.2.set (36+c20.1.toNat*1) (w64 ((1:Int)*2^min c20.1.toNat 64)))) .nil))))))))) ?_
      show awp ..
      refine X0 ?_
      exact gn 4 [8,106,107] (hrn21 _ h)
     ·refine awp_exit ?_
      obtain rfl:=oi h
      exact gs [0,1,2,3] [8] OutQ.norm
    ·obtain rfl:=oi h
     exact gm
    ·show awp ..
     refine awp_seq (EN ?_)
     refine R0 ?_
     refine cuo h (fun (ro26:(Option S_colour_chart)×Int)=>[(4,.d (OP159 ro26.1)),(5,vi ro26.2)]) (fun (ro26:(Option S_colour_chart)×Int)=>[]) (fun (so26:(List Int))=>[(8,rf 2)]) (fun (so26:(List Int))=>[.cells [.d (L66 p_m.Borders),vi p_m.Step,.d (L66 p_m.Heights),.d (L70 p_m.Sides),vi p_m.Inks,.d (L70 p_m.Like)],.vec [.d (L66 p_m.Borders),vi p_m.Step,.d (L66 p_m.Heights),.d (L70 p_m.Sides),vi p_m.Inks,.d (L70 p_m.Like),.d (L3 legend),.sl 2 3 0 so4.length] so26 [],.cells [rf 1],.data (so4.flatMap cel66)]) (fun o26 h=>?_) (fun ro26 h=>?_) (fun so26 h=>?_)
     ·refine awp_selQ (LP 4 [8,122,123,124] (F90L4 p_m) o26 (fun (c27:Int×(List Int))=>pr [(8,rf 2),(122,.d (L70 p_m.Like)),(123,vl p_m.Like),(124,vi c27.1)] [.cells [.d (L66 p_m.Borders),vi p_m.Step,.d (L66 p_m.Heights),.d (L70 p_m.Sides),vi p_m.Inks,.d (L70 p_m.Like)],.vec [.d (L66 p_m.Borders),vi p_m.Step,.d (L66 p_m.Heights),.d (L70 p_m.Sides),vi p_m.Inks,.d (L70 p_m.Like),.d (L3 legend),.sl 2 3 0 so4.length] c27.2 [],.cells [rf 1],.data (so4.flatMap cel66)]) fuel (0,so19) h (fun _=>rfl) ?_)
      clear h
      intro n28 c27 h hrn28
      rw [F90L4] at h
      refine R0 ?_
      refine awp_seq (cd h (fun hb29 h=>?_) (fun hb29 h=>?_))
      ·refine awp_skip ?_
       show awp ..
       refine awp_seq (awp_block ?_)
       obtain ⟨x30,hx30,h⟩:=ob h
       refine RT (.ix (idxOk cel70_len hx30) .nil) ?_
       obtain ⟨x31,hx31,h⟩:=ob h
       obtain ⟨x32,hx32,h⟩:=ob h
       obtain ⟨x33,hx33,h⟩:=ob h
       obtain ⟨x34,hx34,h⟩:=ob h
       obtain ⟨x35,hx35,h⟩:=ob h
       refine DT 13 (.n 5 (.p (need_of hx31:0≤x30.A∧x30.A<((6:Nat):Int)) (.n 1 (.p (show LoadOk (([.d (L66 p_m.Borders),vi p_m.Step,.d (L66 p_m.Heights),.d (L70 p_m.Sides),vi p_m.Inks,.d (L70 p_m.Like),.d (L3 legend),.sl 2 3 0 so4.length]:List V)++c27.2.map vi) (44+x30.A.toNat*1) 1 [vi x32] from vecLoad (p:=8) (pre:=[.d (L66 p_m.Borders),vi p_m.Step,.d (L66 p_m.Heights),.d (L70 p_m.Sides),vi p_m.Inks,.d (L70 p_m.Like),.d (L3 legend),.sl 2 3 0 so4.length]) (k:=36+x30.A.toNat*1) rfl hx32 (by omega)) (.h (.vals [vi x32]) (.n 2 (.p (need_of hx33:0≤x30.B) (.n 1 (.n 3 (.p (need_of hx34:0≤x30.A∧x30.A<((6:Nat):Int)) (.n 1 (.p (show (([vi (Go.bits .or .i64 x32 (w64 ((1:Int)*2^min x30.B.toNat 64)))]:List V).length=1) from (rfl:([vi (Go.bits .or .i64 x32 (w64 ((1:Int)*2^min x30.B.toNat 64)))]:List V).length=1)) (.p (show StoreOk (([.d (L66 p_m.Borders),vi p_m.Step,.d (L66 p_m.Heights),.d (L70 p_m.Sides),vi p_m.Inks,.d (L70 p_m.Like),.d (L3 legend),.sl 2 3 0 so4.length]:List V)++c27.2.map vi) (44+x30.A.toNat*1) [vi (Go.bits .or .i64 x32 (w64 ((1:Int)*2^min x30.B.toNat 64)))] (([.d (L66 p_m.Borders),vi p_m.Step,.d (L66 p_m.Heights),.d (L70 p_m.Sides),vi p_m.Inks,.d (L70 p_m.Like),.d (L3 legend),.sl 2 3 0 so4.length]:List V)++(c27.2.set (36+x30.A.toNat*1) (Go.bits .or .i64 x32 (w64 ((1:Int)*2^min x30.B.toNat 64)))).map vi) from vecStore (p:=8) (pre:=[.d (L66 p_m.Borders),vi p_m.Step,.d (L66 p_m.Heights),.d (L70 p_m.Sides),vi p_m.Inks,.d (L70 p_m.Like),.d (L3 legend),.sl 2 3 0 so4.length]) (k:=36+x30.A.toNat*1) rfl hx35 (by omega)) (.h (.nums (c27.2.set (36+x30.A.toNat*1) (Go.bits .or .i64 x32 (w64 ((1:Int)*2^min x30.B.toNat 64))))) .nil)))))))))))))) ?_
       obtain ⟨x36,hx36,h⟩:=ob h
       obtain ⟨x37,hx37,h⟩:=ob h
       obtain ⟨x38,hx38,h⟩:=ob h
       obtain ⟨x39,hx39,h⟩:=ob h
       obtain ⟨x40,hx40,h⟩:=ob h
       refine ET 13 (.n 5 (.p (need_of hx36:0≤x30.B∧x30.B<((6:Nat):Int)) (.n 1 (.p (show LoadOk (([.d (L66 p_m.Borders),vi p_m.Step,.d (L66 p_m.Heights),.d (L70 p_m.Sides),vi p_m.Inks,.d (L70 p_m.Like),.d (L3 legend),.sl 2 3 0 so4.length]:List V)++(c27.2.set (36+x30.A.toNat*1) (Go.bits .or .i64 x32 (w64 ((1:Int)*2^min x30.B.toNat 64)))).map vi) (44+x30.B.toNat*1) 1 [vi x37] from vecLoad (p:=8) (pre:=[.d (L66 p_m.Borders),vi p_m.Step,.d (L66 p_m.Heights),.d (L70 p_m.Sides),vi p_m.Inks,.d (L70 p_m.Like),.d (L3 legend),.sl 2 3 0 so4.length]) (k:=36+x30.B.toNat*1) rfl hx37 (by omega)) (.h (.vals [vi x37]) (.n 2 (.p (need_of hx38:0≤x30.A) (.n 1 (.n 3 (.p (need_of hx39:0≤x30.B∧x30.B<((6:Nat):Int)) (.n 1 (.p (show (([vi (Go.bits .or .i64 x37 (w64 ((1:Int)*2^min x30.A.toNat 64)))]:List V).length=1) from (rfl:([vi (Go.bits .or .i64 x37 (w64 ((1:Int)*2^min x30.A.toNat 64)))]:List V).length=1)) (.p (show StoreOk (([.d (L66 p_m.Borders),vi p_m.Step,.d (L66 p_m.Heights),.d (L70 p_m.Sides),vi p_m.Inks,.d (L70 p_m.Like),.d (L3 legend),.sl 2 3 0 so4.length]:List V)++(c27.2.set (36+x30.A.toNat*1) (Go.bits .or .i64 x32 (w64 ((1:Int)*2^min x30.B.toNat 64)))).map vi) (44+x30.B.toNat*1) [vi (Go.bits .or .i64 x37 (w64 ((1:Int)*2^min x30.A.toNat 64)))] (([.d (L66 p_m.Borders),vi p_m.Step,.d (L66 p_m.Heights),.d (L70 p_m.Sides),vi p_m.Inks,.d (L70 p_m.Like),.d (L3 legend),.sl 2 3 0 so4.length]:List V)++((c27.2.set (36+x30.A.toNat*1) (Go.bits .or .i64 x32 (w64 ((1:Int)*2^min x30.B.toNat 64)))).set (36+x30.B.toNat*1) (Go.bits .or .i64 x37 (w64 ((1:Int)*2^min x30.A.toNat 64)))).map vi) from vecStore (p:=8) (pre:=[.d (L66 p_m.Borders),vi p_m.Step,.d (L66 p_m.Heights),.d (L70 p_m.Sides),vi p_m.Inks,.d (L70 p_m.Like),.d (L3 legend),.sl 2 3 0 so4.length]) (k:=36+x30.B.toNat*1) rfl hx40 (by omega)) (.h (.nums ((c27.2.set (36+x30.A.toNat*1) (Go.bits .or .i64 x32 (w64 ((1:Int)*2^min x30.B.toNat 64)))).set (36+x30.B.toNat*1) (Go.bits .or .i64 x37 (w64 ((1:Int)*2^min x30.A.toNat 64))))) .nil)))))))))))))) ?_
       show awp ..
       refine X0 ?_
       exact gn 4 [8,122,123,124] (hrn28 _ h)
      ·refine awp_exit ?_
       obtain rfl:=oi h
       exact gs [0,1,2,3] [8] OutQ.norm
     ·obtain rfl:=oi h
      exact gm
     ·show awp ..
      refine EN ?_
      refine R0 ?_
      obtain rfl:=oi h
      refine WA 4 [(4,rf 1),(5,vi 0)] [.cells [.d (L66 p_m.Borders),vi p_m.Step,.d (L66 p_m.Heights),.d (L70 p_m.Sides),vi p_m.Inks,.d (L70 p_m.Like)],.vec [.d (L66 p_m.Borders),vi p_m.Step,.d (L66 p_m.Heights),.d (L70 p_m.Sides),vi p_m.Inks,.d (L70 p_m.Like),.d (L3 legend),.sl 2 3 0 so4.length] so26 [],.cells [rf 1],.data (so4.flatMap cel66)] ?_
      refine WB 4 [(4,rf 1),(5,vi 0)] ?_
      refine awp_freezeV 1 7 3 (so4.flatMap cel66) [.d (L66 p_m.Borders),vi p_m.Step,.d (L66 p_m.Heights),.d (L70 p_m.Sides),vi p_m.Inks,.d (L70 p_m.Like),.d (L3 legend),.sl 2 3 0 so4.length] so26 [] (.sl 2 3 0 so4.length) (.d (L66 so4)) _ _ (ps:=[(so4.flatMap cel66).length=so4.length*2]) (by kernel_rfl) (by kernel_rfl) (by kernel_rfl) (by kernel_rfl) (flatMap_len cel66 2 cel66_len so4) rfl rfl ?_
      refine WA 4 [(4,rf 1),(5,vi 0)] [.cells [.d (L66 p_m.Borders),vi p_m.Step,.d (L66 p_m.Heights),.d (L70 p_m.Sides),vi p_m.Inks,.d (L70 p_m.Like)],.vec [.d (L66 p_m.Borders),vi p_m.Step,.d (L66 p_m.Heights),.d (L70 p_m.Sides),vi p_m.Inks,.d (L70 p_m.Like),.d (L3 legend),.d (L66 so4)] so26 [],.cells [rf 1],.data (([]:List S_api_Span).flatMap cel66)] ?_
      refine awp_unvec 1 [.d (L66 p_m.Borders),vi p_m.Step,.d (L66 p_m.Heights),.d (L70 p_m.Sides),vi p_m.Inks,.d (L70 p_m.Like),.d (L3 legend),.d (L66 so4)] so26 [] _ (by kernel_rfl) rfl ?_
      refine awp_data 1 ([.d (L66 p_m.Borders),vi p_m.Step,.d (L66 p_m.Heights),.d (L70 p_m.Sides),vi p_m.Inks,.d (L70 p_m.Like),.d (L3 legend),.d (L66 so4)]++so26.map vi) ([(L66 p_m.Borders),(di p_m.Step),(L66 p_m.Heights),(L70 p_m.Sides),(di p_m.Inks),(L70 p_m.Like),(L3 legend),(L66 so4)]++so26.map di0) _ (by kernel_rfl) (by kernel_rfl) (map_d [(L66 p_m.Borders),(di p_m.Step),(L66 p_m.Heights),(L70 p_m.Sides),(di p_m.Inks),(L70 p_m.Like),(L3 legend),(L66 so4)] so26) rfl ?_
      refine awp_freeze 4 1 ([(L66 p_m.Borders),(di p_m.Step),(L66 p_m.Heights),(L70 p_m.Sides),(di p_m.Inks),(L70 p_m.Like),(L3 legend),(L66 so4)]++so26.map di0) (rf 1) (.d (.optr true ([(L66 p_m.Borders),(di p_m.Step),(L66 p_m.Heights),(L70 p_m.Sides),(di p_m.Inks),(L70 p_m.Like),(L3 legend),(L66 so4)]++so26.map di0))) _ _ (ps:=[]) (by kernel_rfl) (by kernel_rfl) (by kernel_rfl) trivial rfl rfl ?_
      refine WA 4 [(4,.d (OP159 (some (⟨p_m,legend,so4,so26⟩:S_colour_chart)))),(5,vi 0)] [.cells [.d (L66 p_m.Borders),vi p_m.Step,.d (L66 p_m.Heights),.d (L70 p_m.Sides),vi p_m.Inks,.d (L70 p_m.Like)],.data [],.cells [.top],.data (([]:List S_api_Span).flatMap cel66)] ?_
      exact awp_ret gm
theorem ct24 {fuel:Nat}  {p_m:S_api_ClMap} {legend:(List Int)} {res:(List S_api_Span)×Int} (h:F24 fuel p_m legend=some res):PCall Tryz.prog 24 [(.agg [(L66 p_m.Borders),(di p_m.Step),(L66 p_m.Heights),(L70 p_m.Sides),(di p_m.Inks),(L70 p_m.Like)]),(L3 legend)] (.tup [.d (L66 res.1),vi res.2]):=by
 refine PCall.of_awp tt_ok (N:=21) Tryz.func24 rfl (by kernel_rfl) rfl (Nat.le_of_ble_eq_true rfl) rfl ?_
 unfold F24 at h
 refine EN ?_
 refine R0 ?_
 obtain ⟨x1,hx1,h⟩:=ob h
 refine RT (.n 2 (.pc (ct90 hx1) .nil)) ?_
 refine awp_seq (R0 ?_)
 refine cd h (fun hb2 h=>?_) (fun hb2 h=>?_)
 ·refine R0 ?_
  obtain rfl:=oi h
  refine WA 1 [(4,.d dnil),(5,vi x1.2)] [.cells [.d (L66 p_m.Borders),vi p_m.Step,.d (L66 p_m.Heights),.d (L70 p_m.Sides),vi p_m.Inks,.d (L70 p_m.Like)]] ?_
  refine awp_laxT 4 _ (L66 ([]:List S_api_Span)) _ (by kernel_rfl) (.nil (e:=2)) rfl ?_
  refine WA 1 [(4,.d (L66 ([]:List S_api_Span))),(5,vi x1.2)] [.cells [.d (L66 p_m.Borders),vi p_m.Step,.d (L66 p_m.Heights),.d (L70 p_m.Sides),vi p_m.Inks,.d (L70 p_m.Like)]] ?_
  exact awp_ret gm
 ·refine awp_skip ?_
  show awp ..
  obtain ⟨x3,hx3,h⟩:=ob h
  refine RT (.n 1 (.p (show ((OP159 x1.1) = .optr true ([(L66 x3.ClMap.Borders),(di x3.ClMap.Step),(L66 x3.ClMap.Heights),(L70 x3.ClMap.Sides),(di x3.ClMap.Inks),(L70 x3.ClMap.Like),(L3 x3.legend),(L66 x3.bands)]++x3.vec.map di0)) from optr_of (f:=opc159) hx3) (.h (.cells ([(L66 x3.ClMap.Borders),(di x3.ClMap.Step),(L66 x3.ClMap.Heights),(L70 x3.ClMap.Sides),(di x3.ClMap.Inks),(L70 x3.ClMap.Like),(L3 x3.legend),(L66 x3.bands)]++x3.vec.map di0)) .nil))) ?_
  obtain rfl:=oi h
  exact awp_ret gm
theorem ct25 {fuel:Nat}  {p_m:S_api_ClMap} {legend:(List Int)} {res:(List Int)×Int} (h:F25 fuel p_m legend=some res):PCall Tryz.prog 25 [(.agg [(L66 p_m.Borders),(di p_m.Step),(L66 p_m.Heights),(L70 p_m.Sides),(di p_m.Inks),(L70 p_m.Like)]),(L3 legend)] (.tup [.d (L3 res.1),vi res.2]):=by
 refine PCall.of_awp tt_ok (N:=39) Tryz.func25 rfl (by kernel_rfl) rfl (Nat.le_of_ble_eq_true rfl) rfl ?_
 unfold F25 at h
 refine EN ?_
 refine R0 ?_
 obtain ⟨x1,hx1,h⟩:=ob h
 refine RT (.n 2 (.pc (ct90 hx1) .nil)) ?_
 refine awp_seq (R0 ?_)
 refine cd h (fun hb2 h=>?_) (fun hb2 h=>?_)
 ·refine R0 ?_
  obtain rfl:=oi h
  refine WA 1 [(4,.d dnil),(5,vi x1.2)] [.cells [.d (L66 p_m.Borders),vi p_m.Step,.d (L66 p_m.Heights),.d (L70 p_m.Sides),vi p_m.Inks,.d (L70 p_m.Like)]] ?_
  refine awp_laxT 4 _ (L3 ([]:List Int)) _ (by kernel_rfl) (.nil (e:=1)) rfl ?_
  refine WA 1 [(4,.d (L3 ([]:List Int))),(5,vi x1.2)] [.cells [.d (L66 p_m.Borders),vi p_m.Step,.d (L66 p_m.Heights),.d (L70 p_m.Sides),vi p_m.Inks,.d (L70 p_m.Like)]] ?_
  exact awp_ret gm
 ·refine awp_skip ?_
  show awp ..
  refine awp_seq ?_
  obtain ⟨x3,hx3,h⟩:=ob h
  refine RT (.n 1 (.p (show ((OP159 x1.1) = .optr true ([(L66 x3.ClMap.Borders),(di x3.ClMap.Step),(L66 x3.ClMap.Heights),(L70 x3.ClMap.Sides),(di x3.ClMap.Inks),(L70 x3.ClMap.Like),(L3 x3.legend),(L66 x3.bands)]++x3.vec.map di0)) from optr_of (f:=opc159) hx3) (.h (.cells ([(L66 x3.ClMap.Borders),(di x3.ClMap.Step),(L66 x3.ClMap.Heights),(L70 x3.ClMap.Sides),(di x3.ClMap.Inks),(L70 x3.ClMap.Like),(L3 x3.legend),(L66 x3.bands)]++x3.vec.map di0)) .nil))) ?_
  refine WA 1 [(4,.d dnil),(21,.d (L66 x3.bands)),(22,vl x3.bands),(23,vi 0)] [.cells [.d (L66 p_m.Borders),vi p_m.Step,.d (L66 p_m.Heights),.d (L70 p_m.Sides),vi p_m.Inks,.d (L70 p_m.Like)]] ?_
  refine awp_nil 4 1 (by kernel_rfl) ?_
  refine awp_eq (T':=[(4,.sl 1 1 0 ([]:List Int).length),(21,.d (L66 x3.bands)),(22,vl x3.bands),(23,vi 0)]) (H':=[.cells [.d (L66 p_m.Borders),vi p_m.Step,.d (L66 p_m.Heights),.d (L70 p_m.Sides),vi p_m.Inks,.d (L70 p_m.Like)],.data (([]:List Int).flatMap cel3)]) (by kernel_rfl) (by kernel_rfl) ?_
  refine WA 2 [(4,.sl 1 1 0 ([]:List Int).length),(21,.d (L66 x3.bands)),(22,vl x3.bands),(23,vi 0)] [.cells [.d (L66 p_m.Borders),vi p_m.Step,.d (L66 p_m.Heights),.d (L70 p_m.Sides),vi p_m.Inks,.d (L70 p_m.Like)],.data (([]:List Int).flatMap cel3)] ?_
  refine cuo h (fun (ro5:(List Int)×Int)=>[(4,.d (L3 ro5.1)),(5,vi ro5.2)]) (fun (ro5:(List Int)×Int)=>[]) (fun (so5:(List Int))=>[(4,.sl 1 1 0 so5.length)]) (fun (so5:(List Int))=>[.cells [.d (L66 p_m.Borders),vi p_m.Step,.d (L66 p_m.Heights),.d (L70 p_m.Sides),vi p_m.Inks,.d (L70 p_m.Like)],.data (so5.flatMap cel3)]) (fun o5 h=>?_) (fun ro5 h=>?_) (fun so5 h=>?_)
  ·refine awp_selQ (EN ?_)
   refine LP 2 [4,21,22,23] (F25L1 x3) o5 (fun (c6:Int×(List Int))=>pr [(4,.sl 1 1 0 c6.2.length),(21,.d (L66 x3.bands)),(22,vl x3.bands),(23,vi c6.1)] [.cells [.d (L66 p_m.Borders),vi p_m.Step,.d (L66 p_m.Heights),.d (L70 p_m.Sides),vi p_m.Inks,.d (L70 p_m.Like)],.data (c6.2.flatMap cel3)]) fuel (0,([]:List Int)) h (fun _=>rfl) ?_
   clear h
   intro n7 c6 h hrn7
   rw [F25L1] at h
   refine R0 ?_
   refine awp_seq (cd h (fun hb8 h=>?_) (fun hb8 h=>?_))
   ·refine awp_skip ?_
    show awp ..
    refine awp_seq (awp_block ?_)
    obtain ⟨x9,hx9,h⟩:=ob h
    refine RT (.n 1 (.ix (idxOk cel66_len hx9) .nil)) ?_
    refine R0 ?_
    refine cd h (fun hb10 h=>?_) (fun hb10 h=>?_)
    ·obtain ⟨x11,hx11,h⟩:=ob h
     refine XT (.n 3 (.ap (appendOk cel3_len (need_of hx11)) .nil)) ?_
     show awp ..
     refine X0 ?_
     exact gn 2 [4,21,22,23] (hrn7 _ h)
    ·refine awp_skip ?_
     show awp ..
     refine X0 ?_
     exact gn 2 [4,21,22,23] (hrn7 _ h)
   ·refine awp_exit ?_
    obtain rfl:=oi h
    exact gs [0,1] [4] OutQ.norm
  ·obtain rfl:=oi h
   exact gm
  ·show awp ..
   refine EN ?_
   refine R0 ?_
   obtain rfl:=oi h
   refine WA 2 [(4,.sl 1 1 0 so5.length),(5,vi 0)] [.cells [.d (L66 p_m.Borders),vi p_m.Step,.d (L66 p_m.Heights),.d (L70 p_m.Sides),vi p_m.Inks,.d (L70 p_m.Like)],.data (so5.flatMap cel3)] ?_
   refine awp_freeze 4 1 (so5.flatMap cel3) (.sl 1 1 0 so5.length) (.d (L3 so5)) _ _ (ps:=[(so5.flatMap cel3).length=so5.length*1]) (by kernel_rfl) (by kernel_rfl) (by kernel_rfl) (flatMap_len cel3 1 cel3_len so5) rfl rfl ?_
   refine WA 2 [(4,.d (L3 so5)),(5,vi 0)] [.cells [.d (L66 p_m.Borders),vi p_m.Step,.d (L66 p_m.Heights),.d (L70 p_m.Sides),vi p_m.Inks,.d (L70 p_m.Like)],.data (([]:List Int).flatMap cel3)] ?_
   exact awp_ret gm
end Go.Proofs.YtkcgfceihpampaaGreatDoor
