/- That functions of the seat compute this. Printed by a program of mine. -/
import Derived.Test.YtkcgfceihpampaaGreatDoorS
import Derived.Test.YtkcgfceihpampaaGreatDoorDA
namespace Go.Proofs.YtkcgfceihpampaaGreatDoor
open Go Go.Sx
set_option maxRecDepth 100000
set_option linter.unusedVariables false
theorem ct172 {p_n b0x0 b1x0 res} (h:F172 p_n b0x0 b1x0=some res):HCall Tryz.prog 172 [vi p_n,.ref 0 0,.ref 1 0] [.cells [vi b0x0],.cells [vi b1x0]] (vb res) [.cells [vi b0x0],.cells [vi b1x0]]:=by
 refine HO 13 2 Tryz.func172 rfl ?_;unfold F172 at h;refine EN (R0 ?_)
 let g1 := !(decide (p_n<b0x0))
 refine RT (.n 6 (.i g1 (.i g1 (.n 1 (.p (show ((decide (p_n<b0x0))=false→(!(decide (p_n<b0x0)))=true) from not_of) (.n 1 .nil)))))) ?_;cases h;exact awp_ret (main_retS [0,1] (vb (cond (decide (p_n<b0x0)) true (decide (p_n>b1x0)))) (by kernel_rfl) (by kernel_rfl) (by kernel_rfl) (by kernel_rfl))
theorem ct207v1 {fuel:Nat} {p_s b0x0 b1x0 res} (h:F207v1 fuel p_s b0x0 b1x0=some res):HCall Tryz.prog 207 [.d (L3 p_s),.fn (.func 172) [] [.ref 0 0,.ref 1 0]] [.cells [vi b0x0],.cells [vi b1x0]] (vi res) [.cells [vi b0x0],.cells [vi b1x0]]:=by
 refine HO 19 2 Tryz.func207 rfl ?_;unfold F207v1 at h;refine EN (R0 (awp_seq (R0 ?_)))
 let q1:List O:=[.cells [vi b0x0],.cells [vi b1x0]]
 refine cuo h (fun ro1=>[(4,vi ro1)]) (fun ro1=>[.cells [vi b0x0],.cells [vi b1x0]]) (fun so1=>[]) (fun so1=>[.cells [vi b0x0],.cells [vi b1x0]]) (fun o1 h=>?_) (fun ro1 h=>?_) (fun so1 h=>?_)
 ·refine awp_selQ (LP 2 [0,1,7,8] (F207v1L1 p_s b0x0 b1x0) o1 (fun c2=>pr [(0,.d (L3 p_s)),(1,.fn (.func 172) [] [.ref 0 0,.ref 1 0]),(7,vi (p_s.length:Int)),(8,vi c2)] q1) fuel 0 h (fun _=>rfl) ?_);clear h;intro n3 c2 h hrn3;rw [F207v1L1] at h;refine R0 (awp_seq (cd h (fun hb4 h=>?_) (fun hb4 h=>?_)))
  ·refine SK (awp_seq (awp_block (R0 ?_)));obtain ⟨x5,hx5,h⟩:=ob h;obtain ⟨x6,hx6,h⟩:=ob h;refine RT (.n 3 (.ix (idxOk cel3_len hx5) (.n 1 (.hc [(0,false),(1,false)] (ct172 hx6) .nil)))) (cd h (fun hb7 h=>?_) (fun hb7 h=>?_))
   ·refine R0 ?_;cases h;exact awp_ret (gs [0,1] [4] OutQ.ret)
   ·refine awp_skip ?_;show awp ..;exact X0 (gn 2 [0,1,7,8] (hrn3 _ h))
  ·refine awp_exit ?_;cases h;exact gs [0,1] [] OutQ.norm
 ·obtain rfl:=oi h;exact (main_retS [0,1] (vi ro1) (by kernel_rfl) (by kernel_rfl) (by kernel_rfl) (by kernel_rfl))
 ·show awp ..;refine EN (R0 ?_);cases h;exact awp_ret (main_retS [0,1] (vi (-1)) (by kernel_rfl) (by kernel_rfl) (by kernel_rfl) (by kernel_rfl))
theorem ct171v1 {fuel:Nat} {p_s b0x0 b1x0 res} (h:F171v1 fuel p_s b0x0 b1x0=some res):HCall Tryz.prog 171 [.d (L3 p_s),.fn (.func 172) [] [.ref 0 0,.ref 1 0]] [.cells [vi b0x0],.cells [vi b1x0]] (vb res) [.cells [vi b0x0],.cells [vi b1x0]]:=by
 refine HO 9 2 Tryz.func171 rfl ?_;unfold F171v1 at h;refine EN (R0 ?_);obtain ⟨x1,hx1,h⟩:=ob h;refine RT (.n 2 (.hc [(0,false),(1,false)] (ct207v1 hx1) .nil)) ?_;cases h;exact awp_ret (main_retS [0,1] (vb (decide (x1≥0))) (by kernel_rfl) (by kernel_rfl) (by kernel_rfl) (by kernel_rfl))
theorem ct113 {fuel:Nat} {lo hi numbers res} (h:F113 fuel lo hi numbers=some res):PCall Tryz.prog 113 [(di lo),(di hi),(L3 numbers)] (vb res):=by
 refine PO 10 Tryz.func113 rfl ?_;unfold F113 at h;refine EN (R0 ?_);obtain ⟨x1,hx1,h⟩:=ob h;refine RT (.n 2 (.hc [(0,false),(1,false)] (ct171v1 hx1) .nil)) ?_;obtain rfl:=oi h;exact awp_ret gm
theorem ct178 {p_x res} (h:F178 p_x=some res):PCall Tryz.prog 178 [(.agg [(di p_x.Kind),(di p_x.A),(di p_x.B),(di p_x.By.Lo),(di p_x.By.Hi)])] (.d (.ifo res.1 (.agg [(di res.2.Kind),(di res.2.A),(di res.2.B),(di res.2.By.Lo),(di res.2.By.Hi)]))):=by
 refine PO 25 Tryz.func178 rfl ?_;unfold F178 at h;refine EN (R0 (awp_seq (R0 (awp_block (R0 (cd h (fun hb1 h=>?_) (fun hb1 h=>?_)))))))
 ·refine R0 ?_;cases h;exact awp_ret gm
 ·refine R0 (cd h (fun hb2 h=>?_) (fun hb2 h=>?_))
  ·refine R0 ?_;cases h;exact awp_ret gm
  ·refine R0 (cd h (fun hb3 h=>?_) (fun hb3 h=>?_))
   ·refine R0 ?_;cases h;exact awp_ret gm
   ·refine R0 (cd h (fun hb4 h=>?_) (fun hb4 h=>?_))
    ·refine R0 ?_;cases h;exact awp_ret gm
    ·refine awp_skip ?_;show awp ..;refine R0 ?_;cases h
     let q1:List O:=[.cells [vi p_x.Kind,vi p_x.A,vi p_x.B,vi p_x.By.Lo,vi p_x.By.Hi]]
     exact WA 1 [(2,.d (.v (.nilIface)))] q1 (awp_laxT 2 _ (.ifo (none:Option Nat) (.agg [(di (default:S_api_ShNote).Kind),(di (default:S_api_ShNote).A),(di (default:S_api_ShNote).B),(di (default:S_api_ShNote).By.Lo),(di (default:S_api_ShNote).By.Hi)])) _ (by kernel_rfl) (.inil) rfl (WA 1 [(2,.d (.ifo (none:Option Nat) (.agg [(di (default:S_api_ShNote).Kind),(di (default:S_api_ShNote).A),(di (default:S_api_ShNote).B),(di (default:S_api_ShNote).By.Lo),(di (default:S_api_ShNote).By.Hi)])))] q1 (awp_ret gm)))
theorem ct140 {fuel:Nat} {p_s p_x res} (h:F140 fuel p_s p_x=some res):PCall Tryz.prog 140 [(.agg [(di p_s.Interval),(L9 p_s.Points),(L121 p_s.Notes)]),(.agg [(di p_x.Kind),(di p_x.A),(di p_x.B),(di p_x.By.Lo),(di p_x.By.Hi)])] (vi res):=by
 refine PO 77 Tryz.func140 rfl ?_;unfold F140 at h;refine EN (R0 ?_);obtain ⟨x1,hx1,h⟩:=ob h;refine RT (.n 1 (.pc (ct178 hx1) .nil)) (awp_seq (R0 (cd h (fun hb2 h=>?_) (fun hb2 h=>?_))))
 ·refine R0 ?_;obtain rfl:=oi h;exact awp_ret gm
 ·refine SK (awp_seq ?_);obtain ⟨x3,hx3,h⟩:=ob h;refine RT (.n 9 (.pc (ct113 hx3) .nil)) (cd h (fun hb4 h=>?_) (fun hb4 h=>?_))
  ·refine R0 ?_;obtain rfl:=oi h;exact awp_ret gm
  ·refine SK (awp_seq ?_);obtain ⟨x5,hx5,h⟩:=ob h;obtain ⟨x6,hx6,h⟩:=ob h
   let g1 := !(cond (x5==1) (p_x.B != 0) false)
   let g2:=(g1&&(x6==2))
   refine RT (.n 1 (.p (show (∃t f,x1.1=some t∧invF Tryz.prog t "hachure/sheet.about" = some f∧PCall Tryz.prog f [.agg [(di x1.2.Kind),(di x1.2.A),(di x1.2.B),(di x1.2.By.Lo),(di x1.2.By.Hi)]] (vi x5)) from about_ok hx5) (.h (.call [] (vi x5)) (.n 3 (.i (x5==1) (.n 1 (.i (x5==1) (.n 1 (.i (x5==1) (.n 1 (.n 2 (.i g1 (.p (show (g1=true→(∃t f,x1.1=some t∧invF Tryz.prog t "hachure/sheet.about" = some f∧PCall Tryz.prog f [.agg [(di x1.2.Kind),(di x1.2.A),(di x1.2.B),(di x1.2.By.Lo),(di x1.2.By.Hi)]] (vi x6))) from (fun hg=>about_ok (optG_of hx6 hg))) (.h (.call [] (vi x6)) (.i g1 (.n 1 (.i g1 (.n 1 (.n 1 (.i g2 (.n 1 (.n 1 (.i g2 (.n 1 (.i g2 (.i g2 (.n 1 (.i g1 (.p (show ((!(cond (x5==1) (p_x.B != 0) false))=true→(x6==2)=true→((!(cond (x5==1) (p_x.B != 0) false))&&(x6==2))=true) from (fun hg h1=>by first|exact hg|exact h1|(rw [hg,h1];rfl)|(simp only [hg,h1,Zt,Zs,ZI,Bool.true_and,ZD];done)|(simp only [Zh] at hg;simp only [hg,h1,Zt,Zs,ZI,Bool.true_and,ZD];done)|simp_all)) (.h (.own) (.p (show ((cond (x5==1) (p_x.B != 0) false)=false→(!(cond (x5==1) (p_x.B != 0) false))=true) from not_of) (.n 1 .nil)))))))))))))))))))))))))))))))) (cd h (fun hb7 h=>?_) (fun hb7 h=>?_))
   ·refine R0 ?_;obtain rfl:=oi h;exact awp_ret gm
   ·refine SK (R0 (awp_seq (R0 (cuo h (fun ro8=>[(4,vi ro8)]) (fun ro8=>[]) (fun so8=>[(3,.ref 1 0),(6,vi so8.1),(7,vi so8.2.1),(8,vi so8.2.2)]) (fun so8=>[.cells [vi p_s.Interval,.d (L9 p_s.Points),.d (L121 p_s.Notes)],.cells [vi p_x.Kind,vi p_x.A,vi p_x.B,vi p_x.By.Lo,vi p_x.By.Hi]]) (fun o8 h=>?_) (fun ro8 h=>?_) (fun so8 h=>?_)))))
    ·refine awp_selQ (awp_block (R0 (cd h (fun hb9 h=>?_) (fun hb9 h=>?_))))
     ·refine X0 ?_;cases h;exact gs [0,1] [3,6,7,8] OutQ.norm
     ·refine R0 (cd h (fun hb10 h=>?_) (fun hb10 h=>?_))
      ·obtain ⟨x11,hx11,h⟩:=ob h;refine XT (.n 2 (.p (need_of hx11:p_s.Interval≠0) (.n 1 .nil))) ?_;cases h;exact gs [0,1] [3,6,7,8] OutQ.norm
      ·refine R0 (cd h (fun hb12 h=>?_) (fun hb12 h=>?_))
       ·refine X0 ?_;cases h;exact gs [0,1] [3,6,7,8] OutQ.norm
       ·refine awp_skip ?_;cases h;exact gs [0,1] [3,6,7,8] OutQ.norm
    ·obtain rfl:=oi h;exact gm
    ·show awp ..;refine awp_seq (awp_block ?_);obtain ⟨x13,hx13,h⟩:=ob h;refine EN (RT (.n 9 (.pc (ct113 hx13) .nil)) (cd h (fun hb14 h=>?_) (fun hb14 h=>?_)))
     ·refine R0 ?_;obtain rfl:=oi h;exact awp_ret gm
     ·refine R0 (cd h (fun hb15 h=>?_) (fun hb15 h=>?_))
      ·refine R0 ?_;obtain rfl:=oi h;exact awp_ret gm
      ·refine awp_skip ?_;show awp ..;refine R0 ?_;obtain rfl:=oi h;exact awp_ret gm
theorem ct137 {p0 p m1 res} (h:F137 p0 p m1=some res):HCall Tryz.prog 137 [vi p0,.d (.v (.string p)),.ref 0 0] [.cells [.mp 1],.map (mpo9x3 m1)] (vi res.1) [.cells [.mp 1],.map (mpo9x3 res.2)]:=by
 refine HO 19 2 Tryz.func137 rfl ?_;unfold F137 at h;refine EN (R0 ?_)
 let q1:=(w64 (((mget eqk9 p m1).getD 0)+1))
 refine RT (.n 2 (.p (show LookOk (mpo9x3 m1) (.v (.string p)) (di 0) (di ((mget eqk9 p m1).getD 0)) (mget eqk9 p m1).isSome from lookOk (fk:=dat9) (fv:=dat3) eqk9_ok rfl p m1) (.h (.look (di ((mget eqk9 p m1).getD 0)) (mget eqk9 p m1).isSome) (.n 1 (.p (show (setD (.v (.string p)) (di q1) (mpo9x3 m1)=some (mpo9x3 (mset eqk9 p q1 m1))) from setOk (fk:=dat9) (fv:=dat3) eqk9_ok p q1 m1) (.h (.kvs (mpo9x3 (mset eqk9 p q1 m1))) .nil)))))) (awp_seq (awp_block ?_));obtain ⟨x1,hx1,h⟩:=ob h;refine RT (.n 1 (.pc (ct50 hx1) .nil)) (cd h (fun hb2 h=>?_) (fun hb2 h=>?_))
 ·refine R0 ?_;cases h;exact awp_ret (main_retS [0,1] (vi 6) (by kernel_rfl) (by kernel_rfl) (by kernel_rfl) (by kernel_rfl))
 ·refine RT (.n 2 (.p (show LookOk (mpo9x3 (mset eqk9 p q1 m1)) (.v (.string p)) (di 0) (di ((mget eqk9 p (mset eqk9 p q1 m1)).getD 0)) (mget eqk9 p (mset eqk9 p q1 m1)).isSome from lookOk (fk:=dat9) (fv:=dat3) eqk9_ok rfl p (mset eqk9 p q1 m1)) (.h (.look (di ((mget eqk9 p (mset eqk9 p q1 m1)).getD 0)) (mget eqk9 p (mset eqk9 p q1 m1)).isSome) .nil))) (cd h (fun hb3 h=>?_) (fun hb3 h=>?_))
  ·refine R0 ?_;cases h;exact awp_ret (main_retS [0,1] (vi 5) (by kernel_rfl) (by kernel_rfl) (by kernel_rfl) (by kernel_rfl))
  ·refine awp_skip ?_;show awp ..;refine R0 ?_;cases h;exact awp_ret (main_retS [0,1] (vi 0) (by kernel_rfl) (by kernel_rfl) (by kernel_rfl) (by kernel_rfl))
theorem ct136 {fuel:Nat} {l m1 res} (h:F136 fuel l m1=some res):HCall Tryz.prog 136 [.d (L9 l),.fn (.func 137) [] [.ref 0 0]] [.cells [.mp 1],.map (mpo9x3 m1)] (.tup [vi res.1,vi res.2.1]) [.cells [.mp 1],.map (mpo9x3 res.2.2)]:=by
 refine HO 25 2 Tryz.func136 rfl ?_;unfold F136 at h;refine EN (R0 (awp_seq (R0 (cuo h (fun ro1=>[(4,vi ro1.1),(5,vi ro1.2.1)]) (fun ro1=>[.cells [.mp 1],.map (mpo9x3 ro1.2.2)]) (fun so1=>[]) (fun so1=>[.cells [.mp 1],.map (mpo9x3 so1)]) (fun o1 h=>?_) (fun ro1 h=>?_) (fun so1 h=>?_)))))
 ·refine awp_selQ (LP 2 [1,9,10,11] (F136L1 l) o1 (fun c2=>pr [(1,.fn (.func 137) [] [.ref 0 0]),(9,.d (L9 l)),(10,vi (l.length:Int)),(11,vi c2.1)] [.cells [.mp 1],.map (mpo9x3 c2.2)]) fuel (0,m1) h (fun _=>rfl) ?_);clear h;intro n3 c2 h hrn3;rw [F136L1] at h;refine R0 (awp_seq (cd h (fun hb4 h=>?_) (fun hb4 h=>?_)))
  ·refine SK (awp_seq (awp_block ?_));obtain ⟨x5,hx5,h⟩:=ob h;refine RT (.n 1 (.ix (idxOk cel9_len hx5) .nil)) ?_;obtain ⟨x6,hx6,h⟩:=ob h;refine RT (.n 3 (.hc [(0,false),(1,false)] (ct137 hx6) .nil)) (R0 (cd h (fun hb7 h=>?_) (fun hb7 h=>?_)))
   ·refine R0 ?_;cases h;exact awp_ret (gs [0,1] [4,5] OutQ.ret)
   ·refine awp_skip ?_;show awp ..;exact X0 (gn 2 [1,9,10,11] (hrn3 _ h))
  ·refine awp_exit ?_;cases h;exact gs [0,1] [] OutQ.norm
 ·obtain rfl:=oi h;exact (main_retS [0,1] (.tup [vi ro1.1,vi ro1.2.1]) (by kernel_rfl) (by kernel_rfl) (by kernel_rfl) (by kernel_rfl))
 ·show awp ..;refine EN (R0 ?_);cases h;exact awp_ret (main_retS [0,1] (.tup [vi 0,vi 0]) (by kernel_rfl) (by kernel_rfl) (by kernel_rfl) (by kernel_rfl))
theorem ct139 {fuel:Nat} {p0 p_x b0x0 b0x1 b0x2 res} (h:F139 fuel p0 p_x b0x0 b0x1 b0x2=some res):HCall Tryz.prog 139 [vi p0,.d (.agg [(di p_x.Kind),(di p_x.A),(di p_x.B),(di p_x.By.Lo),(di p_x.By.Hi)]),.ref 0 0] [.cells [vi b0x0,.d (L9 b0x1),.d (L121 b0x2)]] (vi res) [.cells [vi b0x0,.d (L9 b0x1),.d (L121 b0x2)]]:=by
 refine HO 9 1 Tryz.func139 rfl ?_;unfold F139 at h;refine EN (R0 ?_);obtain ⟨x1,hx1,h⟩:=ob h;refine RT (.n 2 (.pc (ct140 hx1) .nil)) ?_;obtain rfl:=oi h;exact awp_ret (main_retS [0] (vi x1) (by kernel_rfl) (by kernel_rfl) (by kernel_rfl) (by kernel_rfl))
theorem ct138 {fuel:Nat} {l b0x0 b0x1 b0x2 res} (h:F138 fuel l b0x0 b0x1 b0x2=some res):HCall Tryz.prog 138 [.d (L121 l),.fn (.func 139) [] [.ref 0 0]] [.cells [vi b0x0,.d (L9 b0x1),.d (L121 b0x2)]] (.tup [vi res.1,vi res.2]) [.cells [vi b0x0,.d (L9 b0x1),.d (L121 b0x2)]]:=by
 refine HO 25 1 Tryz.func138 rfl ?_;unfold F138 at h;refine EN (R0 (awp_seq (R0 ?_)))
 let q2:O:=.cells [vi b0x0,.d (L9 b0x1),.d (L121 b0x2)]
 let q1:List O:=[q2]
 refine cuo h (fun ro1=>[(4,vi ro1.1),(5,vi ro1.2)]) (fun ro1=>[q2]) (fun so1=>[]) (fun so1=>[q2]) (fun o1 h=>?_) (fun ro1 h=>?_) (fun so1 h=>?_)
 ·refine awp_selQ (LP 1 [1,9,10,11] (F138L1 fuel l b0x0 b0x1 b0x2) o1 (fun c2=>pr [(1,.fn (.func 139) [] [.ref 0 0]),(9,.d (L121 l)),(10,vi (l.length:Int)),(11,vi c2)] q1) fuel 0 h (fun _=>rfl) ?_);clear h;intro n3 c2 h hrn3;rw [F138L1] at h;refine R0 (awp_seq (cd h (fun hb4 h=>?_) (fun hb4 h=>?_)))
  ·refine SK (awp_seq (awp_block ?_));obtain ⟨x5,hx5,h⟩:=ob h;refine RT (.n 1 (.ix (idxOk cel121_len hx5) .nil)) ?_;obtain ⟨x6,hx6,h⟩:=ob h;refine RT (.n 3 (.hc [(0,false)] (ct139 hx6) .nil)) (R0 (cd h (fun hb7 h=>?_) (fun hb7 h=>?_)))
   ·refine R0 ?_;cases h;exact awp_ret (gs [0] [4,5] OutQ.ret)
   ·refine awp_skip ?_;show awp ..;exact X0 (gn 1 [1,9,10,11] (hrn3 _ h))
  ·refine awp_exit ?_;cases h;exact gs [0] [] OutQ.norm
 ·obtain rfl:=oi h;exact (main_retS [0] (.tup [vi ro1.1,vi ro1.2]) (by kernel_rfl) (by kernel_rfl) (by kernel_rfl) (by kernel_rfl))
 ·show awp ..;refine EN (R0 ?_);cases h;exact awp_ret (main_retS [0] (.tup [vi 0,vi 0]) (by kernel_rfl) (by kernel_rfl) (by kernel_rfl) (by kernel_rfl))
theorem ct65 {fuel:Nat} {p_s res} (h:F65 fuel p_s=some res):PCall Tryz.prog 65 [(.agg [(di p_s.Interval),(L9 p_s.Points),(L121 p_s.Notes)])] (.tup [vi res.1,vi res.2.1,vi res.2.2]):=by
 refine PO 46 Tryz.func65 rfl ?_;unfold F65 at h;refine EN (R0 (awp_seq (awp_block ?_)));obtain ⟨x1,hx1,h⟩:=ob h;refine RT (.n 3 (.pc (ct113 hx1) .nil)) (cd h (fun hb2 h=>?_) (fun hb2 h=>?_))
 ·refine R0 ?_;cases h;exact awp_ret gm
 ·obtain ⟨x3,hx3,h⟩:=ob h;refine RT (.n 4 (.pc (ct113 hx3) .nil)) (cd h (fun hb4 h=>?_) (fun hb4 h=>?_))
  ·refine R0 ?_;cases h;exact awp_ret gm
  ·refine awp_skip ?_;show awp ..;refine R0 ?_;obtain ⟨x5,hx5,h⟩:=ob h;refine RT (.n 3 (.hc [(2,false),(1,false)] (ct136 hx5) .nil)) (awp_seq (awp_block (R0 (cd h (fun hb6 h=>?_) (fun hb6 h=>?_)))))
   ·refine R0 ?_;cases h;exact awp_ret gm
   ·refine R0 (cd h (fun hb7 h=>?_) (fun hb7 h=>?_))
    ·refine R0 ?_;cases h;exact awp_ret gm
    ·refine awp_skip ?_;show awp ..;refine awp_seq ?_;obtain ⟨x8,hx8,h⟩:=ob h;refine RT (.n 3 (.hc [(0,false)] (ct138 hx8) .nil)) (R0 (cd h (fun hb9 h=>?_) (fun hb9 h=>?_)))
     ·refine R0 ?_;cases h;exact awp_ret gm
     ·refine SK (R0 ?_);cases h;exact awp_ret gm
end Go.Proofs.YtkcgfceihpampaaGreatDoor
