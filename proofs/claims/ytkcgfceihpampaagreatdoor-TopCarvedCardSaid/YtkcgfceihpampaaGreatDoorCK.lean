/- That functions of the seat compute this. Printed by a program of mine. -/
import Derived.Test.YtkcgfceihpampaaGreatDoorS
import Derived.Test.YtkcgfceihpampaaGreatDoorDK
namespace Go.Proofs.YtkcgfceihpampaaGreatDoor
open Go Go.Sx
set_option maxRecDepth 100000
set_option linter.unusedVariables false
theorem ct36  {p_n:Int} {low:Int} {high:Int} {res:Bool} (h:F36 p_n low high=some res):PCall Tryz.prog 36 [(di p_n),(di low),(di high)] (vb res):=by
 refine PCall.of_awp tt_ok (N:=15) Tryz.func36 rfl (by kernel_rfl) rfl (Nat.le_of_ble_eq_true rfl) rfl ?_
 unfold F36 at h
 refine EN ?_
 refine R0 ?_
 refine RT (.n 6 (.p (show ((decide (p_n≥low))=true→(decide (p_n≥low))=true) from id) (.p (show ((decide (p_n≥low))=true→(decide (p_n≥low))=true) from id) (.n 1 (.p (show ((decide (p_n≥low))=true→(decide (p_n≥low))=true) from id) (.n 1 .nil)))))) ?_
 obtain rfl:=oi h
 exact awp_ret gm
theorem ct6 {fuel:Nat}  {p_r:S_api_CvRow} {res:Int×Int×Int} (h:F6 fuel p_r=some res):PCall Tryz.prog 6 [(.agg [(di p_r.Steep),(L91 p_r.Points)])] (.tup [vi res.1,vi res.2.1,vi res.2.2]):=by
 refine PCall.of_awp tt_ok (N:=55) Tryz.func6 rfl (by kernel_rfl) rfl (Nat.le_of_ble_eq_true rfl) rfl ?_
 unfold F6 at h
 refine EN ?_
 refine R0 ?_
 refine awp_seq ?_
 obtain ⟨x1,hx1,h⟩:=ob h
 refine RT (.n 2 (.pc (ct36 hx1) .nil)) ?_
 refine cd h (fun hb2 h=>?_) (fun hb2 h=>?_)
 ·refine R0 ?_
  obtain rfl:=oi h
  exact awp_ret gm
 ·refine awp_skip ?_
  show awp ..
  refine awp_seq ?_
  obtain ⟨x3,hx3,h⟩:=ob h
  refine RT (.n 3 (.pc (ct36 hx3) .nil)) ?_
  refine cd h (fun hb4 h=>?_) (fun hb4 h=>?_)
  ·refine R0 ?_
   obtain rfl:=oi h
   exact awp_ret gm
  ·refine awp_skip ?_
   show awp ..
   refine awp_seq (R0 ?_)
   refine cuo h (fun (ro5:Int×Int×Int)=>[(2,vi ro5.1),(3,vi ro5.2.1),(4,vi ro5.2.2)]) (fun (ro5:Int×Int×Int)=>[]) (fun (so5:Unit)=>[]) (fun (so5:Unit)=>[.cells [vi p_r.Steep,.d (L91 p_r.Points)]]) (fun o5 h=>?_) (fun ro5 h=>?_) (fun so5 h=>?_)
   ·refine awp_selQ (LP 1 [1,5] (F6L1 p_r) o5 (fun (c6:Int)=>pr [(1,.ref 0 0),(5,vi c6)] [.cells [vi p_r.Steep,.d (L91 p_r.Points)]]) fuel 0 h (fun _=>rfl) ?_)
    clear h
    intro n7 c6 h hrn7
    rw [F6L1] at h
    refine awp_seq (R0 ?_)
    refine cd h (fun hb8 h=>?_) (fun hb8 h=>?_)
    ·refine awp_skip ?_
     show awp ..
     refine awp_seq (awp_block ?_)
     obtain ⟨x9,hx9,h⟩:=ob h
     refine RT (.n 3 (.ix (idxOk cel91_len hx9) .nil)) ?_
     refine awp_seq ?_
     obtain ⟨x10,hx10,h⟩:=ob h
     obtain ⟨x11,hx11,h⟩:=ob h
     obtain ⟨x12,hx12,h⟩:=ob h
     refine RT (.n 2 (.pc (ct36 hx10) (.n 3 (.p (show ((!(!x10))=true→(!(!x10))=true) from id) (.n 1 (.p (show ((!(!x10))=true→(!(!x10))=true) from id) (.p (show ((!(!x10))=true→PCall Tryz.prog 36 [(di x9.Lo),(di 0),(di 9000)] (vb x11)) from (fun hg=>ct36 (optG_of hx11 hg))) (.h (.call [(di x9.Lo),(di 0),(di 9000)] (vb x11)) (.p (show ((!(!x10))=true→(!(!x10))=true) from id) (.n 1 (.p (show ((!x10)=false→(!(!x10))=true) from not_of) (.n 1 (.n 2 (.p (show ((!(cond (!x10) true (!x11)))=true→(!(cond (!x10) true (!x11)))=true) from id) (.n 1 (.p (show ((!(cond (!x10) true (!x11)))=true→(!(cond (!x10) true (!x11)))=true) from id) (.p (show ((!(cond (!x10) true (!x11)))=true→PCall Tryz.prog 36 [(di x9.Hi),(di 0),(di 9000)] (vb x12)) from (fun hg=>ct36 (optG_of hx12 hg))) (.h (.call [(di x9.Hi),(di 0),(di 9000)] (vb x12)) (.p (show ((!(cond (!x10) true (!x11)))=true→(!(cond (!x10) true (!x11)))=true) from id) (.n 1 (.p (show ((cond (!x10) true (!x11))=false→(!(cond (!x10) true (!x11)))=true) from not_of) (.n 1 .nil)))))))))))))))))))))) ?_
     refine cd h (fun hb13 h=>?_) (fun hb13 h=>?_)
     ·refine R0 ?_
      obtain rfl:=oi h
      exact awp_ret (gs [] [2,3,4] OutQ.ret)
     ·refine awp_skip ?_
      show awp ..
      obtain ⟨x14,hx14,h⟩:=ob h
      refine RT (.n 7 (.pc (ct36 hx14) .nil)) ?_
      refine cd h (fun hb15 h=>?_) (fun hb15 h=>?_)
      ·refine R0 ?_
       obtain rfl:=oi h
       exact awp_ret (gs [] [2,3,4] OutQ.ret)
      ·refine awp_skip ?_
       show awp ..
       refine X0 ?_
       exact gn 1 [1,5] (hrn7 _ h)
    ·refine awp_exit ?_
     obtain rfl:=oi h
     exact gs [0] [] OutQ.norm
   ·obtain rfl:=oi h
    exact gm
   ·show awp ..
    refine EN ?_
    refine R0 ?_
    obtain rfl:=oi h
    exact awp_ret gm
theorem ct187  {p_n:Int} {b0x0:Int} {b1x0:Int} {res:Bool} (h:F187 p_n b0x0 b1x0=some res):HCall Tryz.prog 187 [vi p_n,.ref 0 0,.ref 1 0] [.cells [vi b0x0],.cells [vi b1x0]] (vb res) [.cells [vi b0x0],.cells [vi b1x0]]:=by
 refine HCall.of_awpS tt_ok (N:=13) (fl:=2) Tryz.func187 rfl (by kernel_rfl) rfl rfl (Nat.le_of_ble_eq_true rfl) ?_
 unfold F187 at h
 refine EN ?_
 refine R0 ?_
 refine RT (.n 6 (.p (show ((!(decide (p_n<b0x0)))=true→(!(decide (p_n<b0x0)))=true) from id) (.p (show ((!(decide (p_n<b0x0)))=true→(!(decide (p_n<b0x0)))=true) from id) (.n 1 (.p (show ((decide (p_n<b0x0))=false→(!(decide (p_n<b0x0)))=true) from not_of) (.n 1 .nil)))))) ?_
 obtain rfl:=oi h
 exact awp_ret (main_retS [0,1] (vb (cond (decide (p_n<b0x0)) true (decide (p_n>b1x0)))) (by kernel_rfl) (by kernel_rfl) (by kernel_rfl) (by kernel_rfl))
theorem ct207 {fuel:Nat}  {p_s:(List Int)} {b0x0:Int} {b1x0:Int} {res:Int} (h:F207 fuel p_s b0x0 b1x0=some res):HCall Tryz.prog 207 [.d (L3 p_s),.fn (.func 187) [] [.ref 0 0,.ref 1 0]] [.cells [vi b0x0],.cells [vi b1x0]] (vi res) [.cells [vi b0x0],.cells [vi b1x0]]:=by
 refine HCall.of_awpS tt_ok (N:=19) (fl:=2) Tryz.func207 rfl (by kernel_rfl) rfl rfl (Nat.le_of_ble_eq_true rfl) ?_
 unfold F207 at h
 refine EN ?_
 refine R0 ?_
 refine awp_seq (R0 ?_)
 refine cuo h (fun (ro1:Int)=>[(4,vi ro1)]) (fun (ro1:Int)=>[.cells [vi b0x0],.cells [vi b1x0]]) (fun (so1:Unit)=>[]) (fun (so1:Unit)=>[.cells [vi b0x0],.cells [vi b1x0]]) (fun o1 h=>?_) (fun ro1 h=>?_) (fun so1 h=>?_)
 ·refine awp_selQ (LP 2 [0,1,7,8] (F207L1 p_s b0x0 b1x0) o1 (fun (c2:Int)=>pr [(0,.d (L3 p_s)),(1,.fn (.func 187) [] [.ref 0 0,.ref 1 0]),(7,vi (p_s.length:Int)),(8,vi c2)] [.cells [vi b0x0],.cells [vi b1x0]]) fuel 0 h (fun _=>rfl) ?_)
  clear h
  intro n3 c2 h hrn3
  rw [F207L1] at h
  refine R0 ?_
  refine awp_seq (cd h (fun hb4 h=>?_) (fun hb4 h=>?_))
  ·refine awp_skip ?_
   show awp ..
   refine awp_seq (awp_block ?_)
   refine R0 ?_
   obtain ⟨x5,hx5,h⟩:=ob h
   obtain ⟨x6,hx6,h⟩:=ob h
   refine RT (.n 3 (.ix (idxOk cel3_len hx5) (.n 1 (.hc [(0,false),(1,false)] (ct187 hx6) .nil)))) ?_
   refine cd h (fun hb7 h=>?_) (fun hb7 h=>?_)
   ·refine R0 ?_
    obtain rfl:=oi h
    exact awp_ret (gs [0,1] [4] OutQ.ret)
   ·refine awp_skip ?_
    show awp ..
    refine X0 ?_
    exact gn 2 [0,1,7,8] (hrn3 _ h)
  ·refine awp_exit ?_
   obtain rfl:=oi h
   exact gs [0,1] [] OutQ.norm
 ·obtain rfl:=oi h
  exact (main_retS [0,1] (vi ro1) (by kernel_rfl) (by kernel_rfl) (by kernel_rfl) (by kernel_rfl))
 ·show awp ..
  refine EN ?_
  refine R0 ?_
  obtain rfl:=oi h
  exact awp_ret (main_retS [0,1] (vi (-1)) (by kernel_rfl) (by kernel_rfl) (by kernel_rfl) (by kernel_rfl))
theorem ct171 {fuel:Nat}  {p_s:(List Int)} {b0x0:Int} {b1x0:Int} {res:Bool} (h:F171 fuel p_s b0x0 b1x0=some res):HCall Tryz.prog 171 [.d (L3 p_s),.fn (.func 187) [] [.ref 0 0,.ref 1 0]] [.cells [vi b0x0],.cells [vi b1x0]] (vb res) [.cells [vi b0x0],.cells [vi b1x0]]:=by
 refine HCall.of_awpS tt_ok (N:=9) (fl:=2) Tryz.func171 rfl (by kernel_rfl) rfl rfl (Nat.le_of_ble_eq_true rfl) ?_
 unfold F171 at h
 refine EN ?_
 refine R0 ?_
 obtain ⟨x1,hx1,h⟩:=ob h
 refine RT (.n 2 (.hc [(0,false),(1,false)] (ct207 hx1) .nil)) ?_
 obtain rfl:=oi h
 exact awp_ret (main_retS [0,1] (vb (decide (x1≥0))) (by kernel_rfl) (by kernel_rfl) (by kernel_rfl) (by kernel_rfl))
theorem ct125 {fuel:Nat}  {lo:Int} {hi:Int} {numbers:(List Int)} {res:Bool} (h:F125 fuel lo hi numbers=some res):PCall Tryz.prog 125 [(di lo),(di hi),(L3 numbers)] (vb res):=by
 refine PCall.of_awp tt_ok (N:=10) Tryz.func125 rfl (by kernel_rfl) rfl (Nat.le_of_ble_eq_true rfl) rfl ?_
 unfold F125 at h
 refine EN ?_
 refine R0 ?_
 obtain ⟨x1,hx1,h⟩:=ob h
 refine RT (.n 2 (.hc [(0,false),(1,false)] (ct171 hx1) .nil)) ?_
 obtain rfl:=oi h
 exact awp_ret gm
theorem ct63 {fuel:Nat}  {p_r:S_api_CvRow} {res:Int×Int×Int} (h:F63 fuel p_r=some res):PCall Tryz.prog 63 [(.agg [(di p_r.Steep),(L91 p_r.Points)])] (.tup [vi res.1,vi res.2.1,vi res.2.2]):=by
 refine PCall.of_awp tt_ok (N:=48) Tryz.func63 rfl (by kernel_rfl) rfl (Nat.le_of_ble_eq_true rfl) rfl ?_
 unfold F63 at h
 refine EN ?_
 refine R0 ?_
 refine awp_seq (awp_block ?_)
 obtain ⟨x1,hx1,h⟩:=ob h
 refine RT (.n 3 (.pc (ct125 hx1) .nil)) ?_
 refine cd h (fun hb2 h=>?_) (fun hb2 h=>?_)
 ·refine R0 ?_
  obtain rfl:=oi h
  exact awp_ret gm
 ·obtain ⟨x3,hx3,h⟩:=ob h
  refine RT (.n 4 (.pc (ct125 hx3) .nil)) ?_
  refine cd h (fun hb4 h=>?_) (fun hb4 h=>?_)
  ·refine R0 ?_
   obtain rfl:=oi h
   exact awp_ret gm
  ·refine awp_skip ?_
   show awp ..
   refine awp_seq (R0 ?_)
   refine cuo h (fun (ro5:Int×Int×Int)=>[(2,vi ro5.1),(3,vi ro5.2.1),(4,vi ro5.2.2)]) (fun (ro5:Int×Int×Int)=>[]) (fun (so5:Unit)=>[]) (fun (so5:Unit)=>[.cells [vi p_r.Steep,.d (L91 p_r.Points)]]) (fun o5 h=>?_) (fun ro5 h=>?_) (fun so5 h=>?_)
   ·refine awp_selQ (LP 1 [19,20,21] (F63L1 fuel p_r) o5 (fun (c6:Int)=>pr [(19,.d (L91 p_r.Points)),(20,vi (p_r.Points.length:Int)),(21,vi c6)] [.cells [vi p_r.Steep,.d (L91 p_r.Points)]]) fuel 0 h (fun _=>rfl) ?_)
    clear h
    intro n7 c6 h hrn7
    rw [F63L1] at h
    refine R0 ?_
    refine awp_seq (cd h (fun hb8 h=>?_) (fun hb8 h=>?_))
    ·refine awp_skip ?_
     show awp ..
     refine awp_seq (awp_block ?_)
     obtain ⟨x9,hx9,h⟩:=ob h
     refine RT (.n 1 (.ix (idxOk cel91_len hx9) .nil)) ?_
     refine awp_block ?_
     obtain ⟨x10,hx10,h⟩:=ob h
     refine RT (.n 7 (.pc (ct125 hx10) .nil)) ?_
     refine cd h (fun hb11 h=>?_) (fun hb11 h=>?_)
     ·refine R0 ?_
      obtain rfl:=oi h
      exact awp_ret (gs [] [2,3,4] OutQ.ret)
     ·obtain ⟨x12,hx12,h⟩:=ob h
      refine RT (.n 8 (.pc (ct125 hx12) .nil)) ?_
      refine cd h (fun hb13 h=>?_) (fun hb13 h=>?_)
      ·refine R0 ?_
       obtain rfl:=oi h
       exact awp_ret (gs [] [2,3,4] OutQ.ret)
      ·refine awp_skip ?_
       show awp ..
       refine X0 ?_
       exact gn 1 [19,20,21] (hrn7 _ h)
    ·refine awp_exit ?_
     obtain rfl:=oi h
     exact gs [0] [] OutQ.norm
   ·obtain rfl:=oi h
    exact gm
   ·show awp ..
    refine EN ?_
    refine R0 ?_
    obtain rfl:=oi h
    exact awp_ret gm
end Go.Proofs.YtkcgfceihpampaaGreatDoor
