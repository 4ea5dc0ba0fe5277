/- That functions of the seat compute this. Printed by a program of mine. -/
import Derived.Test.YtkcgfceihpampaaGreatDoorS
import Derived.Test.YtkcgfceihpampaaGreatDoorCU
import Derived.Test.YtkcgfceihpampaaGreatDoorDE
namespace Go.Proofs.YtkcgfceihpampaaGreatDoor
open Go Go.Sx
set_option maxRecDepth 100000
set_option linter.unusedVariables false
theorem ct71  {p_n:Int} {low:Int} {high:Int} {res:Bool} (h:F71 p_n low high=some res):PCall Tryz.prog 71 [(di p_n),(di low),(di high)] (vb res):=by
 refine PCall.of_awp tt_ok (N:=15) Tryz.func71 rfl (by kernel_rfl) rfl (Nat.le_of_ble_eq_true rfl) rfl ?_
 unfold F71 at h
 refine EN ?_
 refine R0 ?_
 let g1:=(decide (p_n≥low))
 refine RT (.n 6 (.i g1 (.i g1 (.n 1 (.i g1 (.n 1 .nil)))))) ?_
 obtain rfl:=oi h
 exact awp_ret gm
theorem ct142 {fuel:Nat}  {p_s:ByteArray} {res:Bool} (h:F142 fuel p_s=some res):PCall Tryz.prog 142 [(.v (.string p_s))] (vb res):=by
 refine PCall.of_awp tt_ok (N:=52) Tryz.func142 rfl (by kernel_rfl) rfl (Nat.le_of_ble_eq_true rfl) rfl ?_
 unfold F142 at h
 refine EN ?_
 refine R0 ?_
 refine awp_seq ?_
 obtain ⟨x1,hx1,h⟩:=ob h
 obtain ⟨x2,hx2,h⟩:=ob h
 obtain ⟨x3,hx3,h⟩:=ob h
 let g1 := !(cond (!x1) true (decide (x2<97)))
 refine RT (.n 2 (.pc (ct71 hx1) (.n 3 (.i (!(!x1)) (.p (show ((!(!x1))=true→StrAt p_s 0 x2) from (fun hg=>strAt_of (optG_of hx2 hg))) (.h (.cells [.v (.int .u8 x2)]) (.i (!(!x1)) (.n 1 (.p (show ((!x1)=false→(!(!x1))=true) from not_of) (.n 1 (.n 2 (.i g1 (.p (show (g1=true→StrAt p_s 0 x3) from (fun hg=>strAt_of (optG_of hx3 hg))) (.h (.cells [.v (.int .u8 x3)]) (.i g1 (.n 1 (.p (show ((cond (!x1) true (decide (x2<97)))=false→(!(cond (!x1) true (decide (x2<97))))=true) from not_of) (.n 1 .nil)))))))))))))))))) ?_
 refine cd h (fun hb4 h=>?_) (fun hb4 h=>?_)
 ·refine R0 ?_
  obtain rfl:=oi h
  exact awp_ret gm
 ·refine awp_skip ?_
  show awp ..
  refine awp_seq (R0 ?_)
  refine cuo h (fun (ro5:Bool)=>[(2,vb ro5)]) (fun (ro5:Bool)=>[]) (fun (so5:Unit)=>[]) (fun (so5:Unit)=>[]) (fun o5 h=>?_) (fun ro5 h=>?_) (fun so5 h=>?_)
  ·refine awp_selQ (LP 0 [0,3] (F142L1 p_s) o5 (fun (c6:Int)=>pr [(0,.d (.v (.string p_s))),(3,vi c6)] []) fuel 0 h (fun _=>rfl) ?_)
   clear h
   intro n7 c6 h hrn7
   rw [F142L1] at h
   refine awp_seq (R0 ?_)
   refine cd h (fun hb8 h=>?_) (fun hb8 h=>?_)
   ·refine awp_skip ?_
    show awp ..
    refine awp_seq (awp_block ?_)
    obtain ⟨x9,hx9,h⟩:=ob h
    obtain ⟨x10,hx10,h⟩:=ob h
    obtain ⟨x11,hx11,h⟩:=ob h
    obtain ⟨x12,hx12,h⟩:=ob h
    obtain ⟨x13,hx13,h⟩:=ob h
    let g4 := !(decide (x9<97))
    let g2:=(cond (decide (x9<97)) true (decide (x10>122)))
    let g3:=(g2&&(!(decide (x11<48))))
    let g1:=(cond g2 (cond (decide (x11<48)) true (decide (x12>57))) false)
    refine RT (.n 2 (.p (show StrAt p_s c6 x9 from strAt_of hx9) (.h (.cells [.v (.int .u8 x9)]) (.n 4 (.i g4 (.i g4 (.p (show (g4=true→StrAt p_s c6 x10) from (fun hg=>strAt_of (optG_of hx10 hg))) (.h (.cells [.v (.int .u8 x10)]) (.i g4 (.n 1 (.p (show ((decide (x9<97))=false→(!(decide (x9<97)))=true) from not_of) (.n 1 (.n 3 (.i g2 (.i g2 (.p (show (g2=true→StrAt p_s c6 x11) from (fun hg=>strAt_of (optG_of hx11 hg))) (.h (.cells [.v (.int .u8 x11)]) (.i g2 (.n 1 (.i g2 (.n 1 (.n 2 (.i g3 (.i g3 (.p (show (g3=true→StrAt p_s c6 x12) from (fun hg=>strAt_of (optG_of hx12 hg))) (.h (.cells [.v (.int .u8 x12)]) (.i g3 (.n 1 (.i g2 (.p (show ((cond (decide (x9<97)) true (decide (x10>122)))=true→(decide (x11<48))=false→((cond (decide (x9<97)) true (decide (x10>122)))&&(!(decide (x11<48))))=true) from (fun hg h1=>by first|exact hg|exact h1|(rw [hg,h1];rfl)|(simp only [hg,h1,Bool.not_true,Bool.not_false,Bool.and_self,Bool.true_and,Bool.and_true];done)|(simp only [Bool.and_eq_true] at hg;simp only [hg,h1,Bool.not_true,Bool.not_false,Bool.and_self,Bool.true_and,Bool.and_true];done)|simp_all)) (.h (.own) (.i g2 (.n 1 (.n 3 (.i g1 (.i g1 (.p (show (g1=true→StrAt p_s c6 x13) from (fun hg=>strAt_of (optG_of hx13 hg))) (.h (.cells [.v (.int .u8 x13)]) (.i g1 (.n 1 (.i g1 (.n 1 .nil)))))))))))))))))))))))))))))))))))))))))) ?_
    refine cd h (fun hb14 h=>?_) (fun hb14 h=>?_)
    ·refine R0 ?_
     obtain rfl:=oi h
     exact awp_ret (gs [] [2] OutQ.ret)
    ·refine awp_skip ?_
     show awp ..
     refine X0 ?_
     exact gn 0 [0,3] (hrn7 _ h)
   ·refine awp_exit ?_
    obtain rfl:=oi h
    exact gs [] [] OutQ.norm
  ·obtain rfl:=oi h
   exact gm
  ·show awp ..
   refine EN ?_
   refine R0 ?_
   obtain rfl:=oi h
   exact awp_ret gm
theorem ct143 {fuel:Nat}  {l:(List ByteArray)} {p_s:ByteArray} {res:Int} (h:F143 fuel l p_s=some res):PCall Tryz.prog 143 [(L9 l),(.v (.string p_s))] (vi res):=by
 refine PCall.of_awp tt_ok (N:=19) Tryz.func143 rfl (by kernel_rfl) rfl (Nat.le_of_ble_eq_true rfl) rfl ?_
 unfold F143 at h
 refine EN ?_
 refine R0 ?_
 refine awp_seq (R0 ?_)
 refine cuo h (fun (ro1:Int)=>[(4,vi ro1)]) (fun (ro1:Int)=>[]) (fun (so1:Unit)=>[]) (fun (so1:Unit)=>[]) (fun o1 h=>?_) (fun ro1 h=>?_) (fun so1 h=>?_)
 ·refine awp_selQ (LP 0 [0,1,5] (F143L1 l p_s) o1 (fun (c2:Int)=>pr [(0,.d (L9 l)),(1,.d (.v (.string p_s))),(5,vi c2)] []) fuel 0 h (fun _=>rfl) ?_)
  clear h
  intro n3 c2 h hrn3
  rw [F143L1] at h
  refine awp_seq (R0 ?_)
  refine cd h (fun hb4 h=>?_) (fun hb4 h=>?_)
  ·refine awp_skip ?_
   show awp ..
   refine awp_seq (awp_block ?_)
   obtain ⟨x5,hx5,h⟩:=ob h
   refine RT (.n 2 (.ix (idxOk cel9_len hx5) .nil)) ?_
   refine cd h (fun hb6 h=>?_) (fun hb6 h=>?_)
   ·refine R0 ?_
    obtain rfl:=oi h
    exact awp_ret (gs [] [4] OutQ.ret)
   ·refine awp_skip ?_
    show awp ..
    refine X0 ?_
    exact gn 0 [0,1,5] (hrn3 _ h)
  ·refine awp_exit ?_
   obtain rfl:=oi h
   exact gs [] [] OutQ.norm
 ·obtain rfl:=oi h
  exact gm
 ·show awp ..
  refine EN ?_
  refine R0 ?_
  obtain rfl:=oi h
  exact awp_ret gm
theorem ct72 {fuel:Nat}  {p_s:ByteArray} {before:(List ByteArray)} {res:Int} (h:F72 fuel p_s before=some res):PCall Tryz.prog 72 [(.v (.string p_s)),(L9 before)] (vi res):=by
 refine PCall.of_awp tt_ok (N:=12) Tryz.func72 rfl (by kernel_rfl) rfl (Nat.le_of_ble_eq_true rfl) rfl ?_
 unfold F72 at h
 refine EN ?_
 refine R0 ?_
 refine awp_seq ?_
 obtain ⟨x1,hx1,h⟩:=ob h
 refine RT (.n 1 (.pc (ct142 hx1) .nil)) ?_
 refine cd h (fun hb2 h=>?_) (fun hb2 h=>?_)
 ·refine R0 ?_
  obtain rfl:=oi h
  exact awp_ret gm
 ·refine awp_skip ?_
  show awp ..
  refine awp_seq ?_
  obtain ⟨x3,hx3,h⟩:=ob h
  refine RT (.n 2 (.pc (ct143 hx3) .nil)) ?_
  refine cd h (fun hb4 h=>?_) (fun hb4 h=>?_)
  ·refine R0 ?_
   obtain rfl:=oi h
   exact awp_ret gm
  ·refine awp_skip ?_
   show awp ..
   refine R0 ?_
   obtain rfl:=oi h
   exact awp_ret gm
theorem ct146 {fuel:Nat}  {l:(List S_api_Span)} {low:Int} {high:Int} {res:Int} (h:F146 fuel l low high=some res):PCall Tryz.prog 146 [(L66 l),(di low),(di high)] (vi res):=by
 refine PCall.of_awp tt_ok (N:=47) Tryz.func146 rfl (by kernel_rfl) rfl (Nat.le_of_ble_eq_true rfl) rfl ?_
 unfold F146 at h
 refine EN ?_
 refine R0 ?_
 refine R0 ?_
 refine awp_seq (R0 ?_)
 refine cuo h (fun (ro1:Int)=>[(6,vi ro1)]) (fun (ro1:Int)=>[]) (fun (so1:Int)=>[(7,vi so1)]) (fun (so1:Int)=>[]) (fun o1 h=>?_) (fun ro1 h=>?_) (fun so1 h=>?_)
 ·refine awp_selQ (LP 0 [0,1,2,7,8] (F146L1 l low high) o1 (fun (c2:Int×Int)=>pr [(0,.d (L66 l)),(1,vi low),(2,vi high),(7,vi c2.1),(8,vi c2.2)] []) fuel (0,0) h (fun _=>rfl) ?_)
  clear h
  intro n3 c2 h hrn3
  rw [F146L1] at h
  refine awp_seq (R0 ?_)
  refine cd h (fun hb4 h=>?_) (fun hb4 h=>?_)
  ·refine awp_skip ?_
   show awp ..
   refine awp_seq (awp_block ?_)
   refine awp_seq ?_
   obtain ⟨x5,hx5,h⟩:=ob h
   obtain ⟨x6,hx6,h⟩:=ob h
   obtain ⟨x7,hx7,h⟩:=ob h
   obtain ⟨x8,hx8,h⟩:=ob h
   refine RT (.n 2 (.ix (idxOk cel66_len hx5) (.n 4 (.pc (ct71 hx6) (.n 4 (.i (!(!x6)) (.i (!(!x6)) (.p (show ((!(!x6))=true→IX66 l c2.2 x7) from (fun hg=>idxOk cel66_len (optG_of hx7 hg))) (.h (.cells (cel66 x7)) (.i (!(!x6)) (.n 1 (.i (!(!x6)) (.n 1 (.n 2 (.i (!(!x6)) (.i (!(!x6)) (.i (!(!x6)) (.p (show ((!(!x6))=true→PCall Tryz.prog 71 [(di x7.Hi),(di low),(di high)] (vb x8)) from (fun hg=>ct71 (optG_of hx8 hg))) (.h (.call [(di x7.Hi),(di low),(di high)] (vb x8)) (.i (!(!x6)) (.n 1 (.p (show ((!x6)=false→(!(!x6))=true) from not_of) (.n 1 .nil))))))))))))))))))))))) ?_
   refine cd h (fun hb9 h=>?_) (fun hb9 h=>?_)
   ·refine R0 ?_
    obtain rfl:=oi h
    exact awp_ret (gs [] [6] OutQ.ret)
   ·refine awp_skip ?_
    show awp ..
    obtain ⟨x10,hx10,h⟩:=ob h
    obtain ⟨x11,hx11,h⟩:=ob h
    refine DT 10 (.n 2 (.ix (idxOk cel66_len hx10) (.n 4 (.ix (idxOk cel66_len hx11) .nil)))) ?_
    refine cd h (fun hb12 h=>?_) (fun hb12 h=>?_)
    ·refine X0 ?_
     show awp ..
     refine X0 ?_
     exact gn 0 [0,1,2,7,8] (hrn3 _ h)
    ·refine awp_skip ?_
     show awp ..
     refine X0 ?_
     exact gn 0 [0,1,2,7,8] (hrn3 _ h)
  ·refine awp_exit ?_
   obtain rfl:=oi h
   exact gs [] [7] OutQ.norm
 ·obtain rfl:=oi h
  exact gm
 ·show awp ..
  refine EN ?_
  refine R0 ?_
  obtain rfl:=oi h
  exact awp_ret gm
theorem ct83 {fuel:Nat}  {p_s:S_api_Span} {low:Int} {high:Int} {res:Int} (h:F83 fuel p_s low high=some res):PCall Tryz.prog 83 [(.agg [(di p_s.Lo),(di p_s.Hi)]),(di low),(di high)] (vi res):=by
 refine PCall.of_awp tt_ok (N:=12) Tryz.func83 rfl (by kernel_rfl) rfl (Nat.le_of_ble_eq_true rfl) rfl ?_
 unfold F83 at h
 refine EN ?_
 refine R0 ?_
 obtain ⟨x1,hx1,h⟩:=ob h
 refine RT (.n 4 (.pc (ct146 hx1) .nil)) ?_
 obtain rfl:=oi h
 exact awp_ret gm
theorem ct73 {fuel:Nat}  {p_s:S_api_ShSheet} {p_x:S_api_ShNote} {res:Int} (h:F73 fuel p_s p_x=some res):PCall Tryz.prog 73 [(.agg [(di p_s.Interval),(L9 p_s.Points),(L121 p_s.Notes)]),(.agg [(di p_x.Kind),(di p_x.A),(di p_x.B),(di p_x.By.Lo),(di p_x.By.Hi)])] (vi res):=by
 refine PCall.of_awp tt_ok (N:=90) Tryz.func73 rfl (by kernel_rfl) rfl (Nat.le_of_ble_eq_true rfl) rfl ?_
 unfold F73 at h
 refine EN ?_
 refine R0 ?_
 refine awp_seq ?_
 obtain ⟨x1,hx1,h⟩:=ob h
 refine RT (.n 2 (.pc (ct71 hx1) .nil)) ?_
 refine cd h (fun hb2 h=>?_) (fun hb2 h=>?_)
 ·refine R0 ?_
  obtain rfl:=oi h
  exact awp_ret gm
 ·refine awp_skip ?_
  show awp ..
  refine awp_seq ?_
  obtain ⟨x3,hx3,h⟩:=ob h
  obtain ⟨x4,hx4,h⟩:=ob h
  refine RT (.n 6 (.pc (ct71 hx3) (.n 3 (.i (!(!x3)) (.n 1 (.n 1 (.i (!(!x3)) (.n 1 (.i (!(!x3)) (.n 1 (.i (!(!x3)) (.n 1 (.i (!(!x3)) (.i (!(!x3)) (.p (show ((!(!x3))=true→PCall Tryz.prog 71 [(di p_x.B),(di 0),(di (w64 ((p_s.Points.length:Int)-1)))] (vb x4)) from (fun hg=>ct71 (optG_of hx4 hg))) (.h (.call [(di p_x.B),(di 0),(di (w64 ((p_s.Points.length:Int)-1)))] (vb x4)) (.i (!(!x3)) (.n 1 (.p (show ((!x3)=false→(!(!x3))=true) from not_of) (.n 1 .nil)))))))))))))))))))) ?_
  refine cd h (fun hb5 h=>?_) (fun hb5 h=>?_)
  ·refine R0 ?_
   obtain rfl:=oi h
   exact awp_ret gm
  ·refine awp_skip ?_
   show awp ..
   let g1 := !(p_x.Kind==3)
   refine RT (.n 5 (.i g1 (.n 1 (.i g1 (.n 1 (.p (show ((p_x.Kind==3)=false→(!(p_x.Kind==3))=true) from not_of) (.n 1 .nil))))))) ?_
   refine awp_seq ?_
   let g3:=(cond (p_x.Kind==3) true (p_x.Kind==4))
   let g1 := !(cond g3 (p_x.A==p_x.B) false)
   let g2:=(g1&&(!g3))
   refine RT (.n 3 (.i g3 (.n 1 (.n 1 (.i g3 (.n 1 (.i g3 (.i g3 (.n 1 (.i g3 (.n 1 (.n 2 (.i g1 (.n 1 (.i g1 (.n 1 (.n 1 (.i g2 (.n 1 (.i g2 (.n 1 (.i g1 (.p (show ((!(cond (cond (p_x.Kind==3) true (p_x.Kind==4)) (p_x.A==p_x.B) false))=true→(!(cond (p_x.Kind==3) true (p_x.Kind==4)))=true→((!(cond (cond (p_x.Kind==3) true (p_x.Kind==4)) (p_x.A==p_x.B) false))&&(!(cond (p_x.Kind==3) true (p_x.Kind==4))))=true) from (fun hg h1=>by first|exact hg|exact h1|(rw [hg,h1];rfl)|(simp only [hg,h1,Bool.not_true,Bool.not_false,Bool.and_self,Bool.true_and,Bool.and_true];done)|(simp only [Bool.and_eq_true] at hg;simp only [hg,h1,Bool.not_true,Bool.not_false,Bool.and_self,Bool.true_and,Bool.and_true];done)|simp_all)) (.h (.own) (.p (show ((cond (cond (p_x.Kind==3) true (p_x.Kind==4)) (p_x.A==p_x.B) false)=false→(!(cond (cond (p_x.Kind==3) true (p_x.Kind==4)) (p_x.A==p_x.B) false))=true) from not_of) (.n 1 .nil)))))))))))))))))))))))))) ?_
   refine cd h (fun hb6 h=>?_) (fun hb6 h=>?_)
   ·refine R0 ?_
    obtain rfl:=oi h
    exact awp_ret gm
   ·refine awp_skip ?_
    show awp ..
    refine awp_seq (R0 ?_)
    refine cd h (fun hb7 h=>?_) (fun hb7 h=>?_)
    ·obtain ⟨x8,hx8,h⟩:=ob h
     refine RT (.n 2 (.pc (ct83 hx8) .nil)) ?_
     obtain rfl:=oi h
     exact awp_ret gm
    ·refine awp_skip ?_
     show awp ..
     refine awp_seq (R0 ?_)
     refine cd h (fun hb9 h=>?_) (fun hb9 h=>?_)
     ·obtain ⟨x10,hx10,h⟩:=ob h
      refine RT (.n 2 (.pc (ct83 hx10) .nil)) ?_
      obtain rfl:=oi h
      exact awp_ret gm
     ·refine awp_skip ?_
      show awp ..
      refine awp_seq (R0 ?_)
      refine cd h (fun hb11 h=>?_) (fun hb11 h=>?_)
      ·obtain ⟨x12,hx12,h⟩:=ob h
       refine RT (.n 2 (.pc (ct83 hx12) .nil)) ?_
       obtain rfl:=oi h
       exact awp_ret gm
      ·refine awp_skip ?_
       show awp ..
       obtain ⟨x13,hx13,h⟩:=ob h
       obtain ⟨x14,hx14,h⟩:=ob h
       refine DT 5 (.n 4 (.p (need_of hx13:p_s.Interval≠0) (.n 1 (.pc (ct83 hx14) .nil)))) ?_
       refine awp_seq (RT (.n 4 (.i (x14==0) (.n 1 (.i (x14==0) (.n 1 (.n 1 (.i (x14==0) (.n 1 (.i (x14==0) (.n 1 (.i (x14==0) (.i (x14==0) (.n 1 (.i (x14==0) (.n 1 .nil))))))))))))))) ?_)
       refine cd h (fun hb15 h=>?_) (fun hb15 h=>?_)
       ·refine X0 ?_
        show awp ..
        refine R0 ?_
        obtain rfl:=oi h
        exact awp_ret gm
       ·refine awp_skip ?_
        show awp ..
        refine R0 ?_
        obtain rfl:=oi h
        exact awp_ret gm
theorem ct16 {fuel:Nat}  {p_s:S_api_ShSheet} {res:Int×Int×Int} (h:F16 fuel p_s=some res):PCall Tryz.prog 16 [(.agg [(di p_s.Interval),(L9 p_s.Points),(L121 p_s.Notes)])] (.tup [vi res.1,vi res.2.1,vi res.2.2]):=by
 refine PCall.of_awp tt_ok (N:=61) Tryz.func16 rfl (by kernel_rfl) rfl (Nat.le_of_ble_eq_true rfl) rfl ?_
 unfold F16 at h
 refine EN ?_
 refine R0 ?_
 refine awp_seq ?_
 obtain ⟨x1,hx1,h⟩:=ob h
 refine RT (.n 2 (.pc (ct71 hx1) .nil)) ?_
 refine cd h (fun hb2 h=>?_) (fun hb2 h=>?_)
 ·refine R0 ?_
  obtain rfl:=oi h
  exact awp_ret gm
 ·refine awp_skip ?_
  show awp ..
  refine awp_seq ?_
  obtain ⟨x3,hx3,h⟩:=ob h
  refine RT (.n 3 (.pc (ct71 hx3) .nil)) ?_
  refine cd h (fun hb4 h=>?_) (fun hb4 h=>?_)
  ·refine R0 ?_
   obtain rfl:=oi h
   exact awp_ret gm
  ·refine awp_skip ?_
   show awp ..
   refine awp_seq (R0 ?_)
   refine cuo h (fun (ro5:Int×Int×Int)=>[(2,vi ro5.1),(3,vi ro5.2.1),(4,vi ro5.2.2)]) (fun (ro5:Int×Int×Int)=>[]) (fun (so5:Unit)=>[(1,rf 0)]) (fun (so5:Unit)=>[.cells [vi p_s.Interval,.d (L9 p_s.Points),.d (L121 p_s.Notes)]]) (fun o5 h=>?_) (fun ro5 h=>?_) (fun so5 h=>?_)
   ·refine awp_selQ (LP 1 [1,5] (F16L1 fuel p_s) o5 (fun (c6:Int)=>pr [(1,rf 0),(5,vi c6)] [.cells [vi p_s.Interval,.d (L9 p_s.Points),.d (L121 p_s.Notes)]]) fuel 0 h (fun _=>rfl) ?_)
    clear h
    intro n7 c6 h hrn7
    rw [F16L1] at h
    refine awp_seq (R0 ?_)
    refine cd h (fun hb8 h=>?_) (fun hb8 h=>?_)
    ·refine awp_skip ?_
     show awp ..
     refine awp_seq (awp_block ?_)
     obtain ⟨x9,hx9,h⟩:=ob h
     obtain ⟨x10,hx10,h⟩:=ob h
     obtain ⟨x11,hx11,h⟩:=ob h
     refine DT 9 (.n 3 (.ix (idxOk cel9_len hx9) (.n 4 (.p (show SliceOk (p_s.Points.flatMap cel9) 1 p_s.Points.length 0 c6 x10.length (x10.flatMap cel9) from sliceOk cel9_len hx10) (.h (.list x10.length (x10.flatMap cel9)) (.pc (ct72 hx11) .nil)))))) ?_
     refine R0 ?_
     refine cd h (fun hb12 h=>?_) (fun hb12 h=>?_)
     ·refine R0 ?_
      obtain rfl:=oi h
      exact awp_ret (gs [] [2,3,4] OutQ.ret)
     ·refine awp_skip ?_
      show awp ..
      refine X0 ?_
      exact gn 1 [1,5] (hrn7 _ h)
    ·refine awp_exit ?_
     obtain rfl:=oi h
     exact gs [0] [1] OutQ.norm
   ·obtain rfl:=oi h
    exact gm
   ·show awp ..
    refine awp_seq (EN ?_)
    refine R0 ?_
    refine cd h (fun hb13 h=>?_) (fun hb13 h=>?_)
    ·refine R0 ?_
     obtain rfl:=oi h
     exact awp_ret gm
    ·refine awp_skip ?_
     show awp ..
     refine awp_seq (R0 ?_)
     refine cuo h (fun (ro14:Int×Int×Int)=>[(2,vi ro14.1),(3,vi ro14.2.1),(4,vi ro14.2.2)]) (fun (ro14:Int×Int×Int)=>[]) (fun (so14:Unit)=>[]) (fun (so14:Unit)=>[.cells [vi p_s.Interval,.d (L9 p_s.Points),.d (L121 p_s.Notes)]]) (fun o14 h=>?_) (fun ro14 h=>?_) (fun so14 h=>?_)
     ·refine awp_selQ (LP 1 [1,7] (F16L2 fuel p_s) o14 (fun (c15:Int)=>pr [(1,rf 0),(7,vi c15)] [.cells [vi p_s.Interval,.d (L9 p_s.Points),.d (L121 p_s.Notes)]]) fuel 0 h (fun _=>rfl) ?_)
      clear h
      intro n16 c15 h hrn16
      rw [F16L2] at h
      refine awp_seq (R0 ?_)
      refine cd h (fun hb17 h=>?_) (fun hb17 h=>?_)
      ·refine awp_skip ?_
       show awp ..
       refine awp_seq (awp_block ?_)
       obtain ⟨x18,hx18,h⟩:=ob h
       obtain ⟨x19,hx19,h⟩:=ob h
       refine DT 6 (.n 4 (.ix (idxOk cel121_len hx18) (.n 1 (.pc (ct73 hx19) .nil)))) ?_
       refine R0 ?_
       refine cd h (fun hb20 h=>?_) (fun hb20 h=>?_)
       ·refine R0 ?_
        obtain rfl:=oi h
        exact awp_ret (gs [] [2,3,4] OutQ.ret)
       ·refine awp_skip ?_
        show awp ..
        refine X0 ?_
        exact gn 1 [1,7] (hrn16 _ h)
      ·refine awp_exit ?_
       obtain rfl:=oi h
       exact gs [0] [] OutQ.norm
     ·obtain rfl:=oi h
      exact gm
     ·show awp ..
      refine EN ?_
      refine R0 ?_
      obtain rfl:=oi h
      exact awp_ret gm
theorem ct80  {l:(List Int)} {p_n:Int} {res:Int} (h:F80 l p_n=some res):PCall Tryz.prog 80 [(L181 l),(di p_n)] (vi res):=by
 refine PCall.of_awp tt_ok (N:=16) Tryz.func80 rfl (by kernel_rfl) rfl (Nat.le_of_ble_eq_true rfl) rfl ?_
 unfold F80 at h
 refine EN ?_
 refine R0 ?_
 refine awp_seq (R0 ?_)
 refine cd h (fun hb1 h=>?_) (fun hb1 h=>?_)
 ·refine R0 ?_
  obtain rfl:=oi h
  exact awp_ret gm
 ·refine awp_skip ?_
  show awp ..
  obtain ⟨x2,hx2,h⟩:=ob h
  obtain ⟨x3,hx3,h⟩:=ob h
  refine RT (.n 4 (.p (need_of hx2:(l.length:Int)≠0) (.n 1 (.ix (idxOk cel181_len hx3) .nil)))) ?_
  obtain rfl:=oi h
  exact awp_ret gm
theorem ct18 {fuel:Nat}  {p_s:S_api_ShSheet} {p_x:(List Int)} {res:(List Int)} (h:F18 fuel p_s p_x=some res):PCall Tryz.prog 18 [(.agg [(di p_s.Interval),(L9 p_s.Points),(L121 p_s.Notes)]),(L181 p_x)] (.d (L3 res)):=by
 refine PCall.of_awp tt_ok (N:=22) Tryz.func18 rfl (by kernel_rfl) rfl (Nat.le_of_ble_eq_true rfl) rfl ?_
 unfold F18 at h
 refine EN ?_
 refine R0 ?_
 refine R0 ?_
 refine awp_seq (R0 ?_)
 refine WA 1 [(1,.d (L181 p_x)),(2,rf 0),(5,.d dnil),(6,vi 0)] [.cells [vi p_s.Interval,.d (L9 p_s.Points),.d (L121 p_s.Notes)]] ?_
 refine awp_nil 5 1 (by kernel_rfl) ?_
 refine awp_eq (T':=[(5,.sl 1 1 0 ([]:List Int).length),(1,.d (L181 p_x)),(2,rf 0),(6,vi 0)]) (H':=[.cells [vi p_s.Interval,.d (L9 p_s.Points),.d (L121 p_s.Notes)],.data (([]:List Int).flatMap cel3)]) (by kernel_rfl) (by kernel_rfl) ?_
 refine WA 2 [(1,.d (L181 p_x)),(2,rf 0),(5,.sl 1 1 0 ([]:List Int).length),(6,vi 0)] [.cells [vi p_s.Interval,.d (L9 p_s.Points),.d (L121 p_s.Notes)],.data (([]:List Int).flatMap cel3)] ?_
 refine cuo h (fun (ro2:(List Int))=>[(4,.d (L3 ro2))]) (fun (ro2:(List Int))=>[]) (fun (so2:(List Int))=>[(5,.sl 1 1 0 so2.length)]) (fun (so2:(List Int))=>[.cells [vi p_s.Interval,.d (L9 p_s.Points),.d (L121 p_s.Notes)],.data (so2.flatMap cel3)]) (fun o2 h=>?_) (fun ro2 h=>?_) (fun so2 h=>?_)
 ·refine awp_selQ (EN ?_)
  refine LP 2 [1,2,5,6] (F18L1 p_s p_x) o2 (fun (c3:Int×(List Int))=>pr [(1,.d (L181 p_x)),(2,rf 0),(5,.sl 1 1 0 c3.2.length),(6,vi c3.1)] [.cells [vi p_s.Interval,.d (L9 p_s.Points),.d (L121 p_s.Notes)],.data (c3.2.flatMap cel3)]) fuel (0,([]:List Int)) h (fun _=>rfl) ?_
  clear h
  intro n4 c3 h hrn4
  rw [F18L1] at h
  refine awp_seq (R0 ?_)
  refine cd h (fun hb5 h=>?_) (fun hb5 h=>?_)
  ·refine awp_skip ?_
   show awp ..
   refine awp_seq (awp_block ?_)
   obtain ⟨x6,hx6,h⟩:=ob h
   obtain ⟨x7,hx7,h⟩:=ob h
   refine XT (.n 3 (.pc (ct80 hx6) (.p (by decide:(9001:Int)≠0) (.n 1 (.n 1 (.ap (appendOk cel3_len (need_of hx7)) .nil)))))) ?_
   show awp ..
   refine X0 ?_
   exact gn 2 [1,2,5,6] (hrn4 _ h)
  ·refine awp_exit ?_
   obtain rfl:=oi h
   exact gs [0,1] [5] OutQ.norm
 ·obtain rfl:=oi h
  exact gm
 ·show awp ..
  refine EN ?_
  refine R0 ?_
  obtain rfl:=oi h
  refine WA 2 [(4,.sl 1 1 0 so2.length)] [.cells [vi p_s.Interval,.d (L9 p_s.Points),.d (L121 p_s.Notes)],.data (so2.flatMap cel3)] ?_
  refine awp_freeze 4 1 (so2.flatMap cel3) (.sl 1 1 0 so2.length) (.d (L3 so2)) _ _ (ps:=[(so2.flatMap cel3).length=so2.length*1]) (by kernel_rfl) (by kernel_rfl) (by kernel_rfl) (flatMap_len cel3 1 cel3_len so2) rfl rfl ?_
  refine WA 2 [(4,.d (L3 so2))] [.cells [vi p_s.Interval,.d (L9 p_s.Points),.d (L121 p_s.Notes)],.data (([]:List Int).flatMap cel3)] ?_
  exact awp_ret gm
theorem ct81 {fuel:Nat}  {p_s:S_api_ShSheet} {res:Bool} (h:F81 fuel p_s=some res):PCall Tryz.prog 81 [(.agg [(di p_s.Interval),(L9 p_s.Points),(L121 p_s.Notes)])] (vb res):=by
 refine PCall.of_awp tt_ok (N:=14) Tryz.func81 rfl (by kernel_rfl) rfl (Nat.le_of_ble_eq_true rfl) rfl ?_
 unfold F81 at h
 refine EN ?_
 refine R0 ?_
 obtain ⟨x1,hx1,h⟩:=ob h
 refine RT (.n 1 (.pc (ct16 hx1) .nil)) ?_
 refine R0 ?_
 obtain rfl:=oi h
 exact awp_ret gm
theorem ct19 {fuel:Nat}  {p_s:S_api_ShSheet} {p_h:(List Int)} {off:(List Int)} {res:S_api_ShSheet} (h:F19 fuel p_s p_h off=some res):PCall Tryz.prog 19 [(.agg [(di p_s.Interval),(L9 p_s.Points),(L121 p_s.Notes)]),(L3 p_h),(L181 off)] (.d (.agg [(di res.Interval),(L9 res.Points),(L121 res.Notes)])):=by
 refine PCall.of_awp tt_ok (N:=153) Tryz.func19 rfl (by kernel_rfl) rfl (Nat.le_of_ble_eq_true rfl) rfl ?_
 unfold F19 at h
 refine EN ?_
 refine R0 ?_
 refine R0 ?_
 refine R0 ?_
 refine awp_seq (R0 ?_)
 refine WA 3 [(1,.d (L3 p_h)),(2,.d (L181 off)),(3,rf 0),(6,rf 1),(7,rf 2),(8,vi 0)] [.cells [vi p_s.Interval,.d (L9 p_s.Points),.d (L121 p_s.Notes)],.cells [vi 0,.d dnil,.d dnil],.cells [vi p_s.Interval,.d (L9 p_s.Points),.d dnil]] ?_
 refine awp_nilC 2 2 5 [vi p_s.Interval,.d (L9 p_s.Points),.d dnil] [.cells [vi p_s.Interval,.d (L9 p_s.Points),.d (L121 p_s.Notes)],.cells [vi 0,.d dnil,.d dnil],.cells [vi p_s.Interval,.d (L9 p_s.Points),.sl 5 3 0 ([]:List S_api_ShNote).length],.data (([]:List S_api_ShNote).flatMap cel121)] (by kernel_rfl) (by kernel_rfl) (by kernel_rfl) ?_
 refine WA 4 [(1,.d (L3 p_h)),(2,.d (L181 off)),(3,rf 0),(6,rf 1),(7,rf 2),(8,vi 0)] [.cells [vi p_s.Interval,.d (L9 p_s.Points),.d (L121 p_s.Notes)],.cells [vi 0,.d dnil,.d dnil],.cells [vi p_s.Interval,.d (L9 p_s.Points),.sl 5 3 0 ([]:List S_api_ShNote).length],.data (([]:List S_api_ShNote).flatMap cel121)] ?_
 refine cuo h (fun (ro2:S_api_ShSheet)=>[(6,rf 0)]) (fun (ro2:S_api_ShSheet)=>[.cells [vi ro2.Interval,.d (L9 ro2.Points),.d (L121 ro2.Notes)]]) (fun (so2:(List S_api_ShNote))=>[(6,rf 1),(7,rf 2)]) (fun (so2:(List S_api_ShNote))=>[.cells [vi p_s.Interval,.d (L9 p_s.Points),.d (L121 p_s.Notes)],.cells [vi 0,.d dnil,.d dnil],.cells [vi p_s.Interval,.d (L9 p_s.Points),.sl 5 3 0 so2.length],.data (so2.flatMap cel121)]) (fun o2 h=>?_) (fun ro2 h=>?_) (fun so2 h=>?_)
 ·refine awp_selQ (EN ?_)
  refine LP 4 [1,2,3,6,7,8] (F19L1 fuel p_s p_h off) o2 (fun (c3:Int×(List S_api_ShNote))=>pr [(1,.d (L3 p_h)),(2,.d (L181 off)),(3,rf 0),(6,rf 1),(7,rf 2),(8,vi c3.1)] [.cells [vi p_s.Interval,.d (L9 p_s.Points),.d (L121 p_s.Notes)],.cells [vi 0,.d dnil,.d dnil],.cells [vi p_s.Interval,.d (L9 p_s.Points),.sl 5 3 0 c3.2.length],.data (c3.2.flatMap cel121)]) fuel (0,([]:List S_api_ShNote)) h (fun _=>rfl) ?_
  clear h
  intro n4 c3 h hrn4
  rw [F19L1] at h
  refine awp_seq (R0 ?_)
  refine cd h (fun hb5 h=>?_) (fun hb5 h=>?_)
  ·refine awp_skip ?_
   show awp ..
   refine awp_seq (awp_block ?_)
   obtain ⟨x6,hx6,h⟩:=ob h
   refine RT (.n 3 (.ix (idxOk cel121_len hx6) .nil)) ?_
   refine awp_seq ?_
   let g3 := !(decide (x6.A<0))
   let g2 := !(cond (decide (x6.A<0)) true (decide (x6.A≥(p_h.length:Int))))
   let g1 := !(cond (cond (decide (x6.A<0)) true (decide (x6.A≥(p_h.length:Int)))) true (decide (x6.B<0)))
   refine RT (.n 5 (.i g3 (.n 1 (.n 1 (.i g3 (.n 1 (.i g3 (.i g3 (.n 1 (.p (show ((decide (x6.A<0))=false→(!(decide (x6.A<0)))=true) from not_of) (.n 1 (.n 2 (.i g2 (.n 1 (.i g2 (.n 1 (.p (show ((cond (decide (x6.A<0)) true (decide (x6.A≥(p_h.length:Int))))=false→(!(cond (decide (x6.A<0)) true (decide (x6.A≥(p_h.length:Int)))))=true) from not_of) (.n 1 (.n 2 (.i g1 (.n 1 (.n 1 (.i g1 (.n 1 (.i g1 (.i g1 (.n 1 (.p (show ((cond (cond (decide (x6.A<0)) true (decide (x6.A≥(p_h.length:Int)))) true (decide (x6.B<0)))=false→(!(cond (cond (decide (x6.A<0)) true (decide (x6.A≥(p_h.length:Int)))) true (decide (x6.B<0))))=true) from not_of) (.n 1 .nil))))))))))))))))))))))))))))) ?_
   refine cd h (fun hb7 h=>?_) (fun hb7 h=>?_)
   ·refine awp_exit ?_
    show awp ..
    refine X0 ?_
    exact gn 4 [1,2,3,6,7,8] (hrn4 _ h)
   ·refine awp_skip ?_
    show awp ..
    obtain ⟨x8,hx8,h⟩:=ob h
    obtain ⟨x9,hx9,h⟩:=ob h
    refine RT (.n 3 (.pc (ct80 hx8) (.p (by decide:(50:Int)≠0) (.n 1 (.n 4 (.pc (ct80 hx9) (.p (by decide:(50:Int)≠0) (.n 1 .nil)))))))) ?_
    refine awp_seq (R0 ?_)
    refine awp_block (R0 ?_)
    refine cd h (fun hb10 h=>?_) (fun hb10 h=>?_)
    ·obtain ⟨x11,hx11,h⟩:=ob h
     obtain ⟨x12,hx12,h⟩:=ob h
     obtain ⟨x13,hx13,h⟩:=ob h
     refine ET 16 (.n 3 (.ix (idxOk cel3_len hx11) (.n 7 (.ix (idxOk cel3_len hx12) (.n 4 (.pc (ct47 hx13) .nil)))))) ?_
     show awp ..
     refine R0 ?_
     refine R0 ?_
     obtain ⟨x14,hx14,h⟩:=ob h
     refine RT (.n 1 (.pc (ct81 hx14) .nil)) ?_
     refine cd h (fun hb15 h=>?_) (fun hb15 h=>?_)
     ·obtain ⟨x16,hx16,h⟩:=ob h
      refine XT (.n 4 (.ap (appendOk cel121_len (need_of hx16)) .nil)) ?_
      show awp ..
      refine X0 ?_
      exact gn 4 [1,2,3,6,7,8] (hrn4 _ h)
     ·refine awp_skip ?_
      show awp ..
      refine X0 ?_
      exact gn 4 [1,2,3,6,7,8] (hrn4 _ h)
    ·refine R0 ?_
     refine cd h (fun hb17 h=>?_) (fun hb17 h=>?_)
     ·obtain ⟨x18,hx18,h⟩:=ob h
      obtain ⟨x19,hx19,h⟩:=ob h
      obtain ⟨x20,hx20,h⟩:=ob h
      obtain ⟨x21,hx21,h⟩:=ob h
      obtain ⟨x22,hx22,h⟩:=ob h
      refine ET 17 (.n 3 (.ix (idxOk cel3_len hx18) (.n 3 (.p (need_of hx19:p_s.Interval≠0) (.n 1 (.n 3 (.ix (idxOk cel3_len hx20) (.n 3 (.p (need_of hx21:p_s.Interval≠0) (.n 1 (.n 1 (.pc (ct47 hx22) .nil)))))))))))) ?_
      show awp ..
      refine R0 ?_
      refine R0 ?_
      obtain ⟨x23,hx23,h⟩:=ob h
      refine RT (.n 1 (.pc (ct81 hx23) .nil)) ?_
      refine cd h (fun hb24 h=>?_) (fun hb24 h=>?_)
      ·obtain ⟨x25,hx25,h⟩:=ob h
       refine XT (.n 4 (.ap (appendOk cel121_len (need_of hx25)) .nil)) ?_
       show awp ..
       refine X0 ?_
       exact gn 4 [1,2,3,6,7,8] (hrn4 _ h)
      ·refine awp_skip ?_
       show awp ..
       refine X0 ?_
       exact gn 4 [1,2,3,6,7,8] (hrn4 _ h)
     ·refine R0 ?_
      refine cd h (fun hb26 h=>?_) (fun hb26 h=>?_)
      ·obtain ⟨x27,hx27,h⟩:=ob h
       obtain ⟨x28,hx28,h⟩:=ob h
       refine DT 10 (.n 3 (.ix (idxOk cel3_len hx27) (.n 4 (.ix (idxOk cel3_len hx28) .nil)))) ?_
       refine cd h (fun hb29 h=>?_) (fun hb29 h=>?_)
       ·refine awp_exit ?_
        show awp ..
        refine X0 ?_
        exact gn 4 [1,2,3,6,7,8] (hrn4 _ h)
       ·refine awp_skip ?_
        show awp ..
        refine R0 ?_
        refine R0 ?_
        obtain ⟨x30,hx30,h⟩:=ob h
        refine RT (.n 1 (.pc (ct81 hx30) .nil)) ?_
        refine cd h (fun hb31 h=>?_) (fun hb31 h=>?_)
        ·obtain ⟨x32,hx32,h⟩:=ob h
         refine XT (.n 4 (.ap (appendOk cel121_len (need_of hx32)) .nil)) ?_
         show awp ..
         refine X0 ?_
         exact gn 4 [1,2,3,6,7,8] (hrn4 _ h)
        ·refine awp_skip ?_
         show awp ..
         refine X0 ?_
         exact gn 4 [1,2,3,6,7,8] (hrn4 _ h)
      ·refine R0 ?_
       refine cuo h (fun (ro33:S_api_ShSheet)=>[(6,rf 0)]) (fun (ro33:S_api_ShSheet)=>[.cells [vi ro33.Interval,.d (L9 ro33.Points),.d (L121 ro33.Notes)]]) (fun (so33:Int×Int)=>[(1,.d (L3 p_h)),(2,.d (L181 off)),(3,rf 0),(6,rf 1),(7,rf 2),(8,vi c3.1),(9,rf 4)]) (fun (so33:Int×Int)=>[.cells [vi p_s.Interval,.d (L9 p_s.Points),.d (L121 p_s.Notes)],.cells [vi 0,.d dnil,.d dnil],.cells [vi p_s.Interval,.d (L9 p_s.Points),.sl 5 3 0 c3.2.length],.data (c3.2.flatMap cel121),.cells [vi x6.Kind,vi x6.A,vi x6.B,vi so33.1,vi so33.2]]) (fun o33 h=>?_) (fun ro33 h=>?_) (fun so33 h=>?_)
       ·refine awp_selQ (cd h (fun hb34 h=>?_) (fun hb34 h=>?_))
        ·obtain ⟨x35,hx35,h⟩:=ob h
         obtain ⟨x36,hx36,h⟩:=ob h
         refine DT 10 (.n 3 (.ix (idxOk cel3_len hx35) (.n 4 (.ix (idxOk cel3_len hx36) .nil)))) ?_
         obtain ⟨x37,hx37,h⟩:=ob h
         refine XT (.n 8 (.pc (ct47 hx37) .nil)) ?_
         obtain rfl:=oi h
         exact gs [0,1,2,3,4] [1,2,3,6,7,8,9] OutQ.norm
        ·refine awp_skip ?_
         obtain rfl:=oi h
         exact gs [0,1,2,3,4] [1,2,3,6,7,8,9] OutQ.norm
       ·obtain rfl:=oi h
        exact gs [0] [6] OutQ.ret
       ·show awp ..
        refine EN ?_
        refine R0 ?_
        refine R0 ?_
        obtain ⟨x38,hx38,h⟩:=ob h
        refine RT (.n 1 (.pc (ct81 hx38) .nil)) ?_
        refine cd h (fun hb39 h=>?_) (fun hb39 h=>?_)
        ·obtain ⟨x40,hx40,h⟩:=ob h
         refine XT (.n 4 (.ap (appendOk cel121_len (need_of hx40)) .nil)) ?_
         show awp ..
         refine X0 ?_
         exact gn 4 [1,2,3,6,7,8] (hrn4 _ h)
        ·refine awp_skip ?_
         show awp ..
         refine X0 ?_
         exact gn 4 [1,2,3,6,7,8] (hrn4 _ h)
  ·refine awp_exit ?_
   obtain rfl:=oi h
   exact gs [0,1,2,3] [6,7] OutQ.norm
 ·obtain rfl:=oi h
  exact gm
 ·show awp ..
  refine EN ?_
  refine R0 ?_
  obtain rfl:=oi h
  refine WA 4 [(6,rf 1)] [.cells [vi p_s.Interval,.d (L9 p_s.Points),.d (L121 p_s.Notes)],.cells [vi p_s.Interval,.d (L9 p_s.Points),.sl 5 3 0 so2.length],.cells [vi p_s.Interval,.d (L9 p_s.Points),.sl 5 3 0 so2.length],.data (so2.flatMap cel121)] ?_
  refine awp_freezeC 1 2 3 (so2.flatMap cel121) [vi p_s.Interval,.d (L9 p_s.Points),.sl 5 3 0 so2.length] (.sl 5 3 0 so2.length) (.d (L121 so2)) _ _ (ps:=[(so2.flatMap cel121).length=so2.length*5]) (by kernel_rfl) (by kernel_rfl) (by kernel_rfl) (by kernel_rfl) (flatMap_len cel121 5 cel121_len so2) rfl rfl ?_
  refine WA 4 [(6,rf 1)] [.cells [vi p_s.Interval,.d (L9 p_s.Points),.d (L121 p_s.Notes)],.cells [vi p_s.Interval,.d (L9 p_s.Points),.d (L121 so2)],.cells [vi p_s.Interval,.d (L9 p_s.Points),.top],.data (([]:List S_api_ShNote).flatMap cel121)] ?_
  exact awp_ret gm
end Go.Proofs.YtkcgfceihpampaaGreatDoor
