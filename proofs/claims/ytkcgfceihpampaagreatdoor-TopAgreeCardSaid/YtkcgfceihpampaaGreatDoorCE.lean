/- That functions of the seat compute this. Printed by a program of mine. -/
import Derived.Test.YtkcgfceihpampaaGreatDoorS
import Derived.Test.YtkcgfceihpampaaGreatDoorDE
namespace Go.Proofs.YtkcgfceihpampaaGreatDoor
open Go Go.Sx
set_option maxRecDepth 100000
set_option linter.unusedVariables false
theorem ct71 {p_n low high res} (h:F71 p_n low high=some res):PCall Tryz.prog 71 [(di p_n),(di low),(di high)] (vb res):=by
 refine PO 15 Tryz.func71 rfl ?_;unfold F71 at h;refine EN (R0 ?_)
 let g1:=(decide (p_n≥low))
 refine RT (.n 6 (.i g1 (.i g1 (.n 1 (.i g1 (.n 1 .nil)))))) ?_;cases h;exact awp_ret gm
theorem ct142 {fuel:Nat} {p_s res} (h:F142 fuel p_s=some res):PCall Tryz.prog 142 [(.v (.string p_s))] (vb res):=by
 refine PO 52 Tryz.func142 rfl ?_;unfold F142 at h;refine EN (R0 (awp_seq ?_));obtain ⟨x1,hx1,h⟩:=ob h;obtain ⟨x2,hx2,h⟩:=ob h;obtain ⟨x3,hx3,h⟩:=ob h
 let q1:=(cond (!x1) true (decide (x2<97)))
 let g1 := !q1
 refine RT (.n 2 (.pc (ct71 hx1) (.n 3 (.i (!(!x1)) (.p (show ((!(!x1))=true→StrAt p_s 0 x2) from (fun hg=>strAt_of (optG_of hx2 hg))) (.h (.cells [.v (.int .u8 x2)]) (.i (!(!x1)) (.n 1 (.p (show ((!x1)=false→(!(!x1))=true) from not_of) (.n 1 (.n 2 (.i g1 (.p (show (g1=true→StrAt p_s 0 x3) from (fun hg=>strAt_of (optG_of hx3 hg))) (.h (.cells [.v (.int .u8 x3)]) (.i g1 (.n 1 (.p (show (q1=false→(!q1)=true) from not_of) (.n 1 .nil)))))))))))))))))) (cd h (fun hb4 h=>?_) (fun hb4 h=>?_))
 ·refine R0 ?_;obtain rfl:=oi h;exact awp_ret gm
 ·refine SK (awp_seq (R0 (cuo h (fun ro5=>[(2,vb ro5)]) (fun ro5=>[]) (fun so5=>[]) (fun so5=>[]) (fun o5 h=>?_) (fun ro5 h=>?_) (fun so5 h=>?_))))
  ·refine awp_selQ (LP 0 [0,3] (F142L1 p_s) o5 (fun c6=>pr [(0,.d (.v (.string p_s))),(3,vi c6)] []) fuel 0 h (fun _=>rfl) ?_);clear h;intro n7 c6 h hrn7;rw [F142L1] at h;refine awp_seq (R0 (cd h (fun hb8 h=>?_) (fun hb8 h=>?_)))
   ·refine SK (awp_seq (awp_block ?_));obtain ⟨x9,hx9,h⟩:=ob h;obtain ⟨x10,hx10,h⟩:=ob h;obtain ⟨x11,hx11,h⟩:=ob h;obtain ⟨x12,hx12,h⟩:=ob h;obtain ⟨x13,hx13,h⟩:=ob h
    let g4 := !(decide (x9<97))
    let g2:=(cond (decide (x9<97)) true (decide (x10>122)))
    let g3:=(g2&&(!(decide (x11<48))))
    let g1:=(cond g2 (cond (decide (x11<48)) true (decide (x12>57))) false)
    refine RT (.n 2 (.p (show StrAt p_s c6 x9 from strAt_of hx9) (.h (.cells [.v (.int .u8 x9)]) (.n 4 (.i g4 (.i g4 (.p (show (g4=true→StrAt p_s c6 x10) from (fun hg=>strAt_of (optG_of hx10 hg))) (.h (.cells [.v (.int .u8 x10)]) (.i g4 (.n 1 (.p (show ((decide (x9<97))=false→(!(decide (x9<97)))=true) from not_of) (.n 1 (.n 3 (.i g2 (.i g2 (.p (show (g2=true→StrAt p_s c6 x11) from (fun hg=>strAt_of (optG_of hx11 hg))) (.h (.cells [.v (.int .u8 x11)]) (.i g2 (.n 1 (.i g2 (.n 1 (.n 2 (.i g3 (.i g3 (.p (show (g3=true→StrAt p_s c6 x12) from (fun hg=>strAt_of (optG_of hx12 hg))) (.h (.cells [.v (.int .u8 x12)]) (.i g3 (.n 1 (.i g2 (.p (show ((cond (decide (x9<97)) true (decide (x10>122)))=true→(decide (x11<48))=false→((cond (decide (x9<97)) true (decide (x10>122)))&&(!(decide (x11<48))))=true) from (fun hg h1=>by first|exact hg|exact h1|(rw [hg,h1];rfl)|(simp only [hg,h1,Zt,Zs,ZI,Bool.true_and,ZD];done)|(simp only [Zh] at hg;simp only [hg,h1,Zt,Zs,ZI,Bool.true_and,ZD];done)|simp_all)) (.h (.own) (.i g2 (.n 1 (.n 3 (.i g1 (.i g1 (.p (show (g1=true→StrAt p_s c6 x13) from (fun hg=>strAt_of (optG_of hx13 hg))) (.h (.cells [.v (.int .u8 x13)]) (.i g1 (.n 1 (.i g1 (.n 1 .nil)))))))))))))))))))))))))))))))))))))))))) (cd h (fun hb14 h=>?_) (fun hb14 h=>?_))
    ·refine R0 ?_;cases h;exact awp_ret (gs [] [2] OutQ.ret)
    ·refine awp_skip ?_;show awp ..;exact X0 (gn 0 [0,3] (hrn7 _ h))
   ·refine awp_exit ?_;cases h;exact gs [] [] OutQ.norm
  ·obtain rfl:=oi h;exact gm
  ·show awp ..;refine EN (R0 ?_);obtain rfl:=oi h;exact awp_ret gm
theorem ct143 {fuel:Nat} {l p_s res} (h:F143 fuel l p_s=some res):PCall Tryz.prog 143 [(L9 l),(.v (.string p_s))] (vi res):=by
 refine PO 19 Tryz.func143 rfl ?_;unfold F143 at h;refine EN (R0 (awp_seq (R0 (cuo h (fun ro1=>[(4,vi ro1)]) (fun ro1=>[]) (fun so1=>[]) (fun so1=>[]) (fun o1 h=>?_) (fun ro1 h=>?_) (fun so1 h=>?_)))))
 ·refine awp_selQ (LP 0 [0,1,5] (F143L1 l p_s) o1 (fun c2=>pr [(0,.d (L9 l)),(1,.d (.v (.string p_s))),(5,vi c2)] []) fuel 0 h (fun _=>rfl) ?_);clear h;intro n3 c2 h hrn3;rw [F143L1] at h;refine awp_seq (R0 (cd h (fun hb4 h=>?_) (fun hb4 h=>?_)))
  ·refine SK (awp_seq (awp_block ?_));obtain ⟨x5,hx5,h⟩:=ob h;refine RT (.n 2 (.ix (idxOk cel9_len hx5) .nil)) (cd h (fun hb6 h=>?_) (fun hb6 h=>?_))
   ·refine R0 ?_;cases h;exact awp_ret (gs [] [4] OutQ.ret)
   ·refine awp_skip ?_;show awp ..;exact X0 (gn 0 [0,1,5] (hrn3 _ h))
  ·refine awp_exit ?_;cases h;exact gs [] [] OutQ.norm
 ·obtain rfl:=oi h;exact gm
 ·show awp ..;refine EN (R0 ?_);cases h;exact awp_ret gm
theorem ct72 {fuel:Nat} {p_s before res} (h:F72 fuel p_s before=some res):PCall Tryz.prog 72 [(.v (.string p_s)),(L9 before)] (vi res):=by
 refine PO 12 Tryz.func72 rfl ?_;unfold F72 at h;refine EN (R0 (awp_seq ?_));obtain ⟨x1,hx1,h⟩:=ob h;refine RT (.n 1 (.pc (ct142 hx1) .nil)) (cd h (fun hb2 h=>?_) (fun hb2 h=>?_))
 ·refine R0 ?_;obtain rfl:=oi h;exact awp_ret gm
 ·refine SK (awp_seq ?_);obtain ⟨x3,hx3,h⟩:=ob h;refine RT (.n 2 (.pc (ct143 hx3) .nil)) (cd h (fun hb4 h=>?_) (fun hb4 h=>?_))
  ·refine R0 ?_;obtain rfl:=oi h;exact awp_ret gm
  ·refine SK (R0 ?_);obtain rfl:=oi h;exact awp_ret gm
theorem ct146 {fuel:Nat} {l low high res} (h:F146 fuel l low high=some res):PCall Tryz.prog 146 [(L66 l),(di low),(di high)] (vi res):=by
 refine PO 47 Tryz.func146 rfl ?_;unfold F146 at h;refine EN (R0 (R0 (awp_seq (R0 (cuo h (fun ro1=>[(6,vi ro1)]) (fun ro1=>[]) (fun so1=>[(7,vi so1)]) (fun so1=>[]) (fun o1 h=>?_) (fun ro1 h=>?_) (fun so1 h=>?_))))))
 ·refine awp_selQ (LP 0 [0,1,2,7,8] (F146L1 l low high) o1 (fun c2=>pr [(0,.d (L66 l)),(1,vi low),(2,vi high),(7,vi c2.1),(8,vi c2.2)] []) fuel (0,0) h (fun _=>rfl) ?_);clear h;intro n3 c2 h hrn3;rw [F146L1] at h;refine awp_seq (R0 (cd h (fun hb4 h=>?_) (fun hb4 h=>?_)))
  ·refine SK (awp_seq (awp_block (awp_seq ?_)));obtain ⟨x5,hx5,h⟩:=ob h;obtain ⟨x6,hx6,h⟩:=ob h;obtain ⟨x7,hx7,h⟩:=ob h;obtain ⟨x8,hx8,h⟩:=ob h;refine RT (.n 2 (.ix (idxOk cel66_len hx5) (.n 4 (.pc (ct71 hx6) (.n 4 (.i (!(!x6)) (.i (!(!x6)) (.p (show ((!(!x6))=true→IX66 l c2.2 x7) from (fun hg=>idxOk cel66_len (optG_of hx7 hg))) (.h (.cells (cel66 x7)) (.i (!(!x6)) (.n 1 (.i (!(!x6)) (.n 1 (.n 2 (.i (!(!x6)) (.i (!(!x6)) (.i (!(!x6)) (.p (show ((!(!x6))=true→PCall Tryz.prog 71 [(di x7.Hi),(di low),(di high)] (vb x8)) from (fun hg=>ct71 (optG_of hx8 hg))) (.h (.call [(di x7.Hi),(di low),(di high)] (vb x8)) (.i (!(!x6)) (.n 1 (.p (show ((!x6)=false→(!(!x6))=true) from not_of) (.n 1 .nil))))))))))))))))))))))) (cd h (fun hb9 h=>?_) (fun hb9 h=>?_))
   ·refine R0 ?_;cases h;exact awp_ret (gs [] [6] OutQ.ret)
   ·refine SK ?_;obtain ⟨x10,hx10,h⟩:=ob h;obtain ⟨x11,hx11,h⟩:=ob h;refine DT 10 (.n 2 (.ix (idxOk cel66_len hx10) (.n 4 (.ix (idxOk cel66_len hx11) .nil)))) (cd h (fun hb12 h=>?_) (fun hb12 h=>?_))
    ·refine X0 ?_;show awp ..;exact X0 (gn 0 [0,1,2,7,8] (hrn3 _ h))
    ·refine awp_skip ?_;show awp ..;exact X0 (gn 0 [0,1,2,7,8] (hrn3 _ h))
  ·refine awp_exit ?_;cases h;exact gs [] [7] OutQ.norm
 ·obtain rfl:=oi h;exact gm
 ·show awp ..;refine EN (R0 ?_);obtain rfl:=oi h;exact awp_ret gm
theorem ct83 {fuel:Nat} {p_s low high res} (h:F83 fuel p_s low high=some res):PCall Tryz.prog 83 [(.agg [(di p_s.Lo),(di p_s.Hi)]),(di low),(di high)] (vi res):=by
 refine PO 12 Tryz.func83 rfl ?_;unfold F83 at h;refine EN (R0 ?_);obtain ⟨x1,hx1,h⟩:=ob h;refine RT (.n 4 (.pc (ct146 hx1) .nil)) ?_;obtain rfl:=oi h;exact awp_ret gm
theorem ct73 {fuel:Nat} {p_s p_x res} (h:F73 fuel p_s p_x=some res):PCall Tryz.prog 73 [(.agg [(di p_s.Interval),(L9 p_s.Points),(L121 p_s.Notes)]),(.agg [(di p_x.Kind),(di p_x.A),(di p_x.B),(di p_x.By.Lo),(di p_x.By.Hi)])] (vi res):=by
 refine PO 90 Tryz.func73 rfl ?_;unfold F73 at h;refine EN (R0 (awp_seq ?_));obtain ⟨x1,hx1,h⟩:=ob h;refine RT (.n 2 (.pc (ct71 hx1) .nil)) (cd h (fun hb2 h=>?_) (fun hb2 h=>?_))
 ·refine R0 ?_;obtain rfl:=oi h;exact awp_ret gm
 ·refine SK (awp_seq ?_);obtain ⟨x3,hx3,h⟩:=ob h;obtain ⟨x4,hx4,h⟩:=ob h;refine RT (.n 6 (.pc (ct71 hx3) (.n 3 (.i (!(!x3)) (.n 1 (.n 1 (.i (!(!x3)) (.n 1 (.i (!(!x3)) (.n 1 (.i (!(!x3)) (.n 1 (.i (!(!x3)) (.i (!(!x3)) (.p (show ((!(!x3))=true→PCall Tryz.prog 71 [(di p_x.B),(di 0),(di (w64 ((p_s.Points.length:Int)-1)))] (vb x4)) from (fun hg=>ct71 (optG_of hx4 hg))) (.h (.call [(di p_x.B),(di 0),(di (w64 ((p_s.Points.length:Int)-1)))] (vb x4)) (.i (!(!x3)) (.n 1 (.p (show ((!x3)=false→(!(!x3))=true) from not_of) (.n 1 .nil)))))))))))))))))))) (cd h (fun hb5 h=>?_) (fun hb5 h=>?_))
  ·refine R0 ?_;obtain rfl:=oi h;exact awp_ret gm
  ·refine SK ?_
   let g1 := !(p_x.Kind==3)
   refine RT (.n 5 (.i g1 (.n 1 (.i g1 (.n 1 (.p (show ((p_x.Kind==3)=false→(!(p_x.Kind==3))=true) from not_of) (.n 1 .nil))))))) (awp_seq ?_)
   let g3:=(cond (p_x.Kind==3) true (p_x.Kind==4))
   let g1 := !(cond g3 (p_x.A==p_x.B) false)
   let g2:=(g1&&(!g3))
   refine RT (.n 3 (.i g3 (.n 1 (.n 1 (.i g3 (.n 1 (.i g3 (.i g3 (.n 1 (.i g3 (.n 1 (.n 2 (.i g1 (.n 1 (.i g1 (.n 1 (.n 1 (.i g2 (.n 1 (.i g2 (.n 1 (.i g1 (.p (show ((!(cond (cond (p_x.Kind==3) true (p_x.Kind==4)) (p_x.A==p_x.B) false))=true→(!(cond (p_x.Kind==3) true (p_x.Kind==4)))=true→((!(cond (cond (p_x.Kind==3) true (p_x.Kind==4)) (p_x.A==p_x.B) false))&&(!(cond (p_x.Kind==3) true (p_x.Kind==4))))=true) from (fun hg h1=>by first|exact hg|exact h1|(rw [hg,h1];rfl)|(simp only [hg,h1,Zt,Zs,ZI,Bool.true_and,ZD];done)|(simp only [Zh] at hg;simp only [hg,h1,Zt,Zs,ZI,Bool.true_and,ZD];done)|simp_all)) (.h (.own) (.p (show ((cond (cond (p_x.Kind==3) true (p_x.Kind==4)) (p_x.A==p_x.B) false)=false→(!(cond (cond (p_x.Kind==3) true (p_x.Kind==4)) (p_x.A==p_x.B) false))=true) from not_of) (.n 1 .nil)))))))))))))))))))))))))) (cd h (fun hb6 h=>?_) (fun hb6 h=>?_))
   ·refine R0 ?_;obtain rfl:=oi h;exact awp_ret gm
   ·refine SK (awp_seq (R0 (cd h (fun hb7 h=>?_) (fun hb7 h=>?_))))
    ·obtain ⟨x8,hx8,h⟩:=ob h;refine RT (.n 2 (.pc (ct83 hx8) .nil)) ?_;obtain rfl:=oi h;exact awp_ret gm
    ·refine SK (awp_seq (R0 (cd h (fun hb9 h=>?_) (fun hb9 h=>?_))))
     ·obtain ⟨x10,hx10,h⟩:=ob h;refine RT (.n 2 (.pc (ct83 hx10) .nil)) ?_;obtain rfl:=oi h;exact awp_ret gm
     ·refine SK (awp_seq (R0 (cd h (fun hb11 h=>?_) (fun hb11 h=>?_))))
      ·obtain ⟨x12,hx12,h⟩:=ob h;refine RT (.n 2 (.pc (ct83 hx12) .nil)) ?_;obtain rfl:=oi h;exact awp_ret gm
      ·refine SK ?_;obtain ⟨x13,hx13,h⟩:=ob h;obtain ⟨x14,hx14,h⟩:=ob h;refine DT 5 (.n 4 (.p (need_of hx13:p_s.Interval≠0) (.n 1 (.pc (ct83 hx14) .nil)))) (awp_seq (RT (.n 4 (.i (x14==0) (.n 1 (.i (x14==0) (.n 1 (.n 1 (.i (x14==0) (.n 1 (.i (x14==0) (.n 1 (.i (x14==0) (.i (x14==0) (.n 1 (.i (x14==0) (.n 1 .nil))))))))))))))) (cd h (fun hb15 h=>?_) (fun hb15 h=>?_))))
       ·refine X0 ?_;show awp ..;refine R0 ?_;obtain rfl:=oi h;exact awp_ret gm
       ·refine SK (R0 ?_);obtain rfl:=oi h;exact awp_ret gm
theorem ct16 {fuel:Nat} {p_s res} (h:F16 fuel p_s=some res):PCall Tryz.prog 16 [(.agg [(di p_s.Interval),(L9 p_s.Points),(L121 p_s.Notes)])] (.tup [vi res.1,vi res.2.1,vi res.2.2]):=by
 refine PO 61 Tryz.func16 rfl ?_;unfold F16 at h;refine EN (R0 (awp_seq ?_));obtain ⟨x1,hx1,h⟩:=ob h;refine RT (.n 2 (.pc (ct71 hx1) .nil)) (cd h (fun hb2 h=>?_) (fun hb2 h=>?_))
 ·refine R0 ?_;cases h;exact awp_ret gm
 ·refine SK (awp_seq ?_);obtain ⟨x3,hx3,h⟩:=ob h;refine RT (.n 3 (.pc (ct71 hx3) .nil)) (cd h (fun hb4 h=>?_) (fun hb4 h=>?_))
  ·refine R0 ?_;cases h;exact awp_ret gm
  ·refine SK (awp_seq (R0 ?_))
   let q2:O:=.cells [vi p_s.Interval,.d (L9 p_s.Points),.d (L121 p_s.Notes)]
   let q1:List O:=[q2]
   refine cuo h (fun ro5=>[(2,vi ro5.1),(3,vi ro5.2.1),(4,vi ro5.2.2)]) (fun ro5=>[]) (fun so5=>[(1,rf 0)]) (fun so5=>[q2]) (fun o5 h=>?_) (fun ro5 h=>?_) (fun so5 h=>?_)
   ·refine awp_selQ (LP 1 [1,5] (F16L1 fuel p_s) o5 (fun c6=>pr [(1,rf 0),(5,vi c6)] q1) fuel 0 h (fun _=>rfl) ?_);clear h;intro n7 c6 h hrn7;rw [F16L1] at h;refine awp_seq (R0 (cd h (fun hb8 h=>?_) (fun hb8 h=>?_)))
    ·refine SK (awp_seq (awp_block ?_));obtain ⟨x9,hx9,h⟩:=ob h;obtain ⟨x10,hx10,h⟩:=ob h;obtain ⟨x11,hx11,h⟩:=ob h;refine DT 9 (.n 3 (.ix (idxOk cel9_len hx9) (.n 4 (.p (show SliceOk (p_s.Points.flatMap cel9) 1 p_s.Points.length 0 c6 x10.length (x10.flatMap cel9) from sliceOk cel9_len hx10) (.h (.list x10.length (x10.flatMap cel9)) (.pc (ct72 hx11) .nil)))))) (R0 (cd h (fun hb12 h=>?_) (fun hb12 h=>?_)))
     ·refine R0 ?_;cases h;exact awp_ret (gs [] [2,3,4] OutQ.ret)
     ·refine awp_skip ?_;show awp ..;exact X0 (gn 1 [1,5] (hrn7 _ h))
    ·refine awp_exit ?_;cases h;exact gs [0] [1] OutQ.norm
   ·obtain rfl:=oi h;exact gm
   ·show awp ..;refine awp_seq (EN (R0 (cd h (fun hb13 h=>?_) (fun hb13 h=>?_))))
    ·refine R0 ?_;cases h;exact awp_ret gm
    ·refine SK (awp_seq (R0 (cuo h (fun ro14=>[(2,vi ro14.1),(3,vi ro14.2.1),(4,vi ro14.2.2)]) (fun ro14=>[]) (fun so14=>[]) (fun so14=>[q2]) (fun o14 h=>?_) (fun ro14 h=>?_) (fun so14 h=>?_))))
     ·refine awp_selQ (LP 1 [1,7] (F16L2 fuel p_s) o14 (fun c15=>pr [(1,rf 0),(7,vi c15)] q1) fuel 0 h (fun _=>rfl) ?_);clear h;intro n16 c15 h hrn16;rw [F16L2] at h;refine awp_seq (R0 (cd h (fun hb17 h=>?_) (fun hb17 h=>?_)))
      ·refine SK (awp_seq (awp_block ?_));obtain ⟨x18,hx18,h⟩:=ob h;obtain ⟨x19,hx19,h⟩:=ob h;refine DT 6 (.n 4 (.ix (idxOk cel121_len hx18) (.n 1 (.pc (ct73 hx19) .nil)))) (R0 (cd h (fun hb20 h=>?_) (fun hb20 h=>?_)))
       ·refine R0 ?_;cases h;exact awp_ret (gs [] [2,3,4] OutQ.ret)
       ·refine awp_skip ?_;show awp ..;exact X0 (gn 1 [1,7] (hrn16 _ h))
      ·refine awp_exit ?_;cases h;exact gs [0] [] OutQ.norm
     ·obtain rfl:=oi h;exact gm
     ·show awp ..;refine EN (R0 ?_);cases h;exact awp_ret gm
theorem ct27 {p_n p_s res} (h:F27 p_n p_s=some res):PCall Tryz.prog 27 [(di p_n),(.agg [(di p_s.Lo),(di p_s.Hi)])] (vb res):=by
 refine PO 11 Tryz.func27 rfl ?_;unfold F27 at h;refine EN (R0 ?_);obtain ⟨x1,hx1,h⟩:=ob h;refine RT (.n 5 (.pc (ct71 hx1) .nil)) ?_;obtain rfl:=oi h;exact awp_ret gm
end Go.Proofs.YtkcgfceihpampaaGreatDoor
