/- That functions of the seat compute this. Printed by a program of mine. -/
import Derived.Test.YtkcgfceihpampaaGreatDoorS
import Derived.Test.YtkcgfceihpampaaGreatDoorCE
import Derived.Test.YtkcgfceihpampaaGreatDoorDF
namespace Go.Proofs.YtkcgfceihpampaaGreatDoor
open Go Go.Sx
set_option maxRecDepth 100000
set_option linter.unusedVariables false
theorem ct94 {p_n low high res} (h:F94 p_n low high=some res):PCall Tryz.prog 94 [(di p_n),(di low),(di high)] (vb res):=by
 refine PO 15 Tryz.func94 rfl ?_;unfold F94 at h;refine EN (R0 ?_)
 let g1:=(decide (p_n≥low))
 refine RT (.n 6 (.i g1 (.i g1 (.n 1 (.i g1 (.n 1 .nil)))))) ?_;cases h;exact awp_ret gm
theorem ct95v1 {fuel:Nat} {p_s names res} (h:F95v1 fuel p_s names=some res):PCall Tryz.prog 95 [(.agg [(.v (.string p_s.Name)),(di p_s.Weight),(di p_s.Most)]),(L9 names)] (vi res):=by
 refine PO 25 Tryz.func95 rfl ?_;unfold F95v1 at h;refine EN (R0 ?_);obtain ⟨x1,hx1,h⟩:=ob h;refine RT (.n 3 (.pc (ct72 hx1) .nil)) (awp_seq ?_);obtain ⟨x2,hx2,h⟩:=ob h;obtain ⟨x3,hx3,h⟩:=ob h
 let g1:=((x1==0)&&(!(!x2)))
 refine RT (.n 4 (.i (x1==0) (.n 1 (.i (x1==0) (.p (show ((x1==0)=true→PCall Tryz.prog 94 [(di p_s.Weight),(di 0),(di 20)] (vb x2)) from (fun hg=>ct94 (optG_of hx2 hg))) (.h (.call [(di p_s.Weight),(di 0),(di 20)] (vb x2)) (.i (x1==0) (.n 1 (.i (x1==0) (.n 1 (.n 1 (.i g1 (.n 1 (.i g1 (.p (show (g1=true→PCall Tryz.prog 94 [(di p_s.Most),(di 0),(di 6)] (vb x3)) from (fun hg=>ct94 (optG_of hx3 hg))) (.h (.call [(di p_s.Most),(di 0),(di 6)] (vb x3)) (.i g1 (.n 1 (.i (x1==0) (.p (show ((x1==0)=true→(!x2)=false→((x1==0)&&(!(!x2)))=true) from (fun hg h1=>by first|exact hg|exact h1|(rw [hg,h1];rfl)|(simp only [hg,h1,Zt,Zs,ZI,Bool.true_and,ZD];done)|(simp only [Zh] at hg;simp only [hg,h1,Zt,Zs,ZI,Bool.true_and,ZD];done)|simp_all)) (.h (.own) (.i (x1==0) (.n 1 .nil))))))))))))))))))))))) (cd h (fun hb4 h=>?_) (fun hb4 h=>?_))
 ·refine X0 ?_;show awp ..;refine R0 ?_;obtain rfl:=oi h;exact awp_ret gm
 ·refine SK (R0 ?_);obtain rfl:=oi h;exact awp_ret gm
theorem ct96 {fuel:Nat} {p_x sheets res} (h:F96 fuel p_x sheets=some res):PCall Tryz.prog 96 [(.agg [(di p_x.A),(di p_x.B),(L183 p_x.Points)]),(di sheets)] (vi res):=by
 refine PO 55 Tryz.func96 rfl ?_;unfold F96 at h;refine EN (R0 (awp_seq ?_));obtain ⟨x1,hx1,h⟩:=ob h;obtain ⟨x2,hx2,h⟩:=ob h;refine RT (.n 4 (.pc (ct94 hx1) (.n 3 (.i (!(!x1)) (.n 1 (.n 1 (.i (!(!x1)) (.n 1 (.i (!(!x1)) (.i (!(!x1)) (.p (show ((!(!x1))=true→PCall Tryz.prog 94 [(di p_x.B),(di 0),(di (w64 (sheets-1)))] (vb x2)) from (fun hg=>ct94 (optG_of hx2 hg))) (.h (.call [(di p_x.B),(di 0),(di (w64 (sheets-1)))] (vb x2)) (.i (!(!x1)) (.n 1 (.p (show ((!x1)=false→(!(!x1))=true) from not_of) (.n 1 .nil)))))))))))))))) (cd h (fun hb3 h=>?_) (fun hb3 h=>?_))
 ·refine R0 ?_;obtain rfl:=oi h;exact awp_ret gm
 ·refine SK (awp_seq (R0 (cd h (fun hb4 h=>?_) (fun hb4 h=>?_))))
  ·refine R0 ?_;obtain rfl:=oi h;exact awp_ret gm
  ·refine SK (awp_seq ?_);obtain ⟨x5,hx5,h⟩:=ob h;refine RT (.n 3 (.pc (ct94 hx5) .nil)) (cd h (fun hb6 h=>?_) (fun hb6 h=>?_))
   ·refine R0 ?_;obtain rfl:=oi h;exact awp_ret gm
   ·refine SK (awp_seq (R0 (cuo h (fun ro7=>[(4,vi ro7)]) (fun ro7=>[]) (fun so7=>[]) (fun so7=>[.cells [vi p_x.A,vi p_x.B,.d (L183 p_x.Points)]]) (fun o7 h=>?_) (fun ro7 h=>?_) (fun so7 h=>?_))))
    ·refine awp_selQ (LP 1 [2,5] (F96L1 p_x) o7 (fun c8=>pr [(2,rf 0),(5,vi c8)] [.cells [vi p_x.A,vi p_x.B,.d (L183 p_x.Points)]]) fuel 0 h (fun _=>rfl) ?_);clear h;intro n9 c8 h hrn9;rw [F96L1] at h;refine awp_seq (R0 (cd h (fun hb10 h=>?_) (fun hb10 h=>?_)))
     ·refine SK (awp_seq (awp_block ?_));obtain ⟨x11,hx11,h⟩:=ob h;obtain ⟨x12,hx12,h⟩:=ob h;obtain ⟨x13,hx13,h⟩:=ob h;obtain ⟨x14,hx14,h⟩:=ob h;refine RT (.n 3 (.ix (idxOk cel183_len hx11) (.n 2 (.pc (ct94 hx12) (.n 3 (.i (!(!x12)) (.n 1 (.n 1 (.i (!(!x12)) (.i (!(!x12)) (.p (show ((!(!x12))=true→IX183 p_x.Points c8 x13) from (fun hg=>idxOk cel183_len (optG_of hx13 hg))) (.h (.cells (cel183 x13)) (.i (!(!x12)) (.n 1 (.i (!(!x12)) (.n 1 (.i (!(!x12)) (.p (show ((!(!x12))=true→PCall Tryz.prog 94 [(di x13.B),(di 0),(di 9000)] (vb x14)) from (fun hg=>ct94 (optG_of hx14 hg))) (.h (.call [(di x13.B),(di 0),(di 9000)] (vb x14)) (.i (!(!x12)) (.n 1 (.p (show ((!x12)=false→(!(!x12))=true) from not_of) (.n 1 .nil))))))))))))))))))))))) (cd h (fun hb15 h=>?_) (fun hb15 h=>?_))
      ·refine R0 ?_;cases h;exact awp_ret (gs [] [4] OutQ.ret)
      ·refine awp_skip ?_;show awp ..;exact X0 (gn 1 [2,5] (hrn9 _ h))
     ·refine awp_exit ?_;cases h;exact gs [0] [] OutQ.norm
    ·obtain rfl:=oi h;exact gm
    ·show awp ..;refine EN (R0 ?_);obtain rfl:=oi h;exact awp_ret gm
theorem ct31 {fuel:Nat} {p_c res} (h:F31 fuel p_c=some res):PCall Tryz.prog 31 [(.agg [(di p_c.Tol),(L82 p_c.Sheets),(L174 p_c.Edges)])] (.tup [vi res.1,vi res.2.1,vi res.2.2]):=by
 refine PO 72 Tryz.func31 rfl ?_;unfold F31 at h;refine EN (R0 (awp_seq ?_));obtain ⟨x1,hx1,h⟩:=ob h;refine RT (.n 2 (.pc (ct94 hx1) .nil)) (cd h (fun hb2 h=>?_) (fun hb2 h=>?_))
 ·refine R0 ?_;cases h;exact awp_ret gm
 ·refine SK (awp_seq ?_);obtain ⟨x3,hx3,h⟩:=ob h;refine RT (.n 3 (.pc (ct94 hx3) (.n 3 (.i (!(!x3)) (.n 1 (.i (!(!x3)) (.n 1 (.i (!(!x3)) (.n 1 (.p (show ((!x3)=false→(!(!x3))=true) from not_of) (.n 1 .nil))))))))))) (cd h (fun hb4 h=>?_) (fun hb4 h=>?_))
  ·refine R0 ?_;cases h;exact awp_ret gm
  ·refine SK (R0 (awp_seq (R0 ?_)))
   let q1:O:=.cells [vi p_c.Tol,.d (L82 p_c.Sheets),.d (L174 p_c.Edges)]
   refine WA 1 [(1,rf 0),(5,.d dnil),(6,vi 0)] [q1] (awp_nil 5 1 (by kernel_rfl) ?_)
   let q2:=([]:List ByteArray)
   refine awp_eq (T':=[(5,.sl 1 1 0 q2.length),(1,rf 0),(6,vi 0)]) (H':=[q1,.data (q2.flatMap cel9)]) (by kernel_rfl) (by kernel_rfl) (WA 2 [(1,rf 0),(5,.sl 1 1 0 q2.length),(6,vi 0)] [q1,.data (q2.flatMap cel9)] (cuo h (fun ro6=>[(2,vi ro6.1),(3,vi ro6.2.1),(4,vi ro6.2.2)]) (fun ro6=>[]) (fun so6=>[(1,rf 0)]) (fun so6=>[q1,.data (so6.flatMap cel9)]) (fun o6 h=>?_) (fun ro6 h=>?_) (fun so6 h=>?_)))
   ·refine awp_selQ (EN (LP 2 [1,5,6] (F31L1 fuel p_c) o6 (fun c7=>pr [(1,rf 0),(5,.sl 1 1 0 c7.2.length),(6,vi c7.1)] [q1,.data (c7.2.flatMap cel9)]) fuel (0,q2) h (fun _=>rfl) ?_));clear h;intro n8 c7 h hrn8;rw [F31L1] at h;refine awp_seq (R0 (cd h (fun hb9 h=>?_) (fun hb9 h=>?_)))
    ·refine SK (awp_seq (awp_block ?_));obtain ⟨x10,hx10,h⟩:=ob h;obtain ⟨x11,hx11,h⟩:=ob h;refine RT (.n 3 (.ix (idxOk cel82_len hx10) (.n 2 (.p (show argsOk [q1,.data (c7.2.flatMap cel9)] [.d (.agg [(.v (.string x10.Name)),(di x10.Weight),(di x10.Most)]),.sl 1 1 0 c7.2.length] [(.agg [(.v (.string x10.Name)),(di x10.Weight),(di x10.Most)]),(L9 c7.2)] from (And.intro (rfl) (And.intro (lentOk cel9_len rfl) trivial))) (.p (show PCall Tryz.prog 95 [(.agg [(.v (.string x10.Name)),(di x10.Weight),(di x10.Most)]),(L9 c7.2)] (vi x11) from ct95v1 hx11) (.h (.call [(.agg [(.v (.string x10.Name)),(di x10.Weight),(di x10.Most)]),(L9 c7.2)] (vi x11)) .nil)))))) (awp_seq (R0 (cd h (fun hb12 h=>?_) (fun hb12 h=>?_))))
     ·refine R0 ?_;cases h;exact awp_ret (gs [] [2,3,4] OutQ.ret)
     ·refine SK ?_;obtain ⟨x13,hx13,h⟩:=ob h;obtain ⟨x14,hx14,h⟩:=ob h;refine XT (.n 4 (.ix (idxOk cel82_len hx13) (.n 3 (.ap (appendOk cel9_len (need_of hx14)) .nil)))) ?_;show awp ..;exact X0 (gn 2 [1,5,6] (hrn8 _ h))
    ·refine awp_exit ?_;cases h;exact gs [0,1] [1] OutQ.norm
   ·obtain rfl:=oi h;exact gm
   ·show awp ..;refine awp_seq (EN (R0 (cuo h (fun ro15=>[(2,vi ro15.1),(3,vi ro15.2.1),(4,vi ro15.2.2)]) (fun ro15=>[]) (fun so15=>[]) (fun so15=>[q1,.data (so6.flatMap cel9)]) (fun o15 h=>?_) (fun ro15 h=>?_) (fun so15 h=>?_))))
    ·refine awp_selQ (LP 2 [1,8] (F31L2 fuel p_c) o15 (fun c16=>pr [(1,rf 0),(8,vi c16)] [q1,.data (so6.flatMap cel9)]) fuel 0 h (fun _=>rfl) ?_);clear h;intro n17 c16 h hrn17;rw [F31L2] at h;refine awp_seq (R0 (cd h (fun hb18 h=>?_) (fun hb18 h=>?_)))
     ·refine SK (awp_seq (awp_block ?_));obtain ⟨x19,hx19,h⟩:=ob h;obtain ⟨x20,hx20,h⟩:=ob h;refine DT 8 (.n 3 (.ix (idxOk cel174_len hx19) (.n 4 (.pc (ct96 hx20) .nil)))) (R0 (cd h (fun hb21 h=>?_) (fun hb21 h=>?_)))
      ·refine R0 ?_;cases h;exact awp_ret (gs [] [2,3,4] OutQ.ret)
      ·refine awp_skip ?_;show awp ..;exact X0 (gn 2 [1,8] (hrn17 _ h))
     ·refine awp_exit ?_;cases h;exact gs [0,1] [] OutQ.norm
    ·obtain rfl:=oi h;exact gm
    ·show awp ..;refine EN (R0 ?_);cases h;exact awp_ret gm
end Go.Proofs.YtkcgfceihpampaaGreatDoor
