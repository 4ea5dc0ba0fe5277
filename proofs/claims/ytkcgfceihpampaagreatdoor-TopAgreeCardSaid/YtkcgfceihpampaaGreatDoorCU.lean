/- That functions of the seat compute this. Printed by a program of mine. -/
import Derived.Test.YtkcgfceihpampaaGreatDoorS
import Derived.Test.YtkcgfceihpampaaGreatDoorCA
import Derived.Test.YtkcgfceihpampaaGreatDoorCB
import Derived.Test.YtkcgfceihpampaaGreatDoorCC
import Derived.Test.YtkcgfceihpampaaGreatDoorDU
namespace Go.Proofs.YtkcgfceihpampaaGreatDoor
open Go Go.Sx
set_option maxRecDepth 100000
set_option linter.unusedVariables false
theorem ct40 {fuel:Nat} {p_s p q res} (h:F40 fuel p_s p q=some res):PCall Tryz.prog 40 [(.agg [(di p_s.Interval),(L9 p_s.Points),(L121 p_s.Notes)]),(di p),(di q)] (.tup [.d (.agg [(di res.1.Lo),(di res.1.Hi)]),vi res.2.1,vi res.2.2]):=by
 refine PO 64 Tryz.func40 rfl ?_;unfold F40 at h;refine EN (R0 (awp_seq ?_));obtain ⟨x1,hx1,h⟩:=ob h;refine RT (.n 1 (.pc (ct65 hx1) .nil)) (R0 (cd h (fun hb2 h=>?_) (fun hb2 h=>?_)))
 ·refine R0 ?_;cases h;exact awp_ret gm
 ·refine SK (awp_seq ?_);obtain ⟨x3,hx3,h⟩:=ob h;refine RT (.n 7 (.pc (ct113 hx3) .nil)) (cd h (fun hb4 h=>?_) (fun hb4 h=>?_))
  ·refine R0 ?_;cases h;exact awp_ret gm
  ·refine SK ?_;obtain ⟨x5,hx5,h⟩:=ob h;obtain ⟨x6,hx6,h⟩:=ob h;refine RT (.n 1 (.pc (ct62 hx5) (.n 4 (.p (show ((((x5.1.map di0).map V.d)).length=81) from (by rw [map_dd];exact (Zg _).trans (need_of hx6))) (.p (show StoreOk ((List.replicate 81 (0:Int)).map vi) 0 ((x5.1.map di0).map V.d) (x5.1.map vi) from (by rw [map_dd];exact vecStores (n:=81) rfl (need_of hx6))) (.h (.vals (x5.1.map vi)) .nil)))))) (awp_vec 2 (x5.1.map vi) [] x5.1 [] [.cells [vi p_s.Interval,.d (L9 p_s.Points),.d (L121 p_s.Notes)],.cells [vi 0,vi 0],vw x5.1] (by kernel_rfl) rfl (by kernel_rfl) (awp_seq (EN (R0 (cd h (fun hb7 h=>?_) (fun hb7 h=>?_))))))
   ·refine R0 ?_;cases h;exact awp_ret gm
   ·refine SK ?_;obtain ⟨x8,hx8,h⟩:=ob h;obtain ⟨x9,hx9,h⟩:=ob h;obtain ⟨x10,hx10,h⟩:=ob h;obtain ⟨x11,hx11,h⟩:=ob h;obtain ⟨x12,hx12,h⟩:=ob h;obtain ⟨x13,hx13,h⟩:=ob h;refine DT 11 (.n 2 (.p (need_of hx8:0≤p∧p<((9:Nat):Int)) (.n 1 (.p (need_of hx9:0≤q∧q<((9:Nat):Int)) (.n 1 (.p (show LoadOk (([]:List V)++x5.1.map vi) (0+p.toNat*9+q.toNat*1) 1 [vi x10] from vecLoad (p:=0) (pre:=[]) (k:=0+p.toNat*9+q.toNat*1) rfl hx10 (by omega)) (.h (.vals [vi x10]) (.n 3 (.p (need_of hx11:0≤q∧q<((9:Nat):Int)) (.n 1 (.p (need_of hx12:0≤p∧p<((9:Nat):Int)) (.n 1 (.p (show LoadOk (([]:List V)++x5.1.map vi) (0+q.toNat*9+p.toNat*1) 1 [vi x13] from vecLoad (p:=0) (pre:=[]) (k:=0+q.toNat*9+p.toNat*1) rfl hx13 (by omega)) (.h (.vals [vi x13]) .nil)))))))))))))) (awp_seq (awp_block (R0 (cd h (fun hb14 h=>?_) (fun hb14 h=>?_)))))
    ·refine X0 ?_;show awp ..;refine R0 ?_;cases h;exact awp_ret gm
    ·refine R0 (cd h (fun hb15 h=>?_) (fun hb15 h=>?_))
     ·refine X0 ?_;show awp ..;refine R0 ?_;cases h;exact awp_ret gm
     ·refine R0 (cd h (fun hb16 h=>?_) (fun hb16 h=>?_))
      ·refine X0 ?_;show awp ..;refine R0 ?_;cases h;exact awp_ret gm
      ·refine awp_skip ?_;show awp ..;refine R0 ?_;cases h;exact awp_ret gm
theorem ct41 {fuel:Nat} {p_s res} (h:F41 fuel p_s=some res):PCall Tryz.prog 41 [(.agg [(di p_s.Interval),(L9 p_s.Points),(L121 p_s.Notes)])] (.tup [.d (L3 res.1),vi res.2]):=by
 refine PO 44 Tryz.func41 rfl ?_;unfold F41 at h;refine EN (R0 ?_);obtain ⟨x1,hx1,h⟩:=ob h;obtain ⟨x2,hx2,h⟩:=ob h;refine RT (.n 1 (.pc (ct62 hx1) (.n 4 (.p (show ((((x1.1.map di0).map V.d)).length=81) from (by rw [map_dd];exact (Zg _).trans (need_of hx2))) (.p (show StoreOk ((List.replicate 81 (0:Int)).map vi) 0 ((x1.1.map di0).map V.d) (x1.1.map vi) from (by rw [map_dd];exact vecStores (n:=81) rfl (need_of hx2))) (.h (.vals (x1.1.map vi)) .nil)))))) ?_
 let q1:O:=.cells [vi p_s.Interval,.d (L9 p_s.Points),.d (L121 p_s.Notes)]
 refine awp_vec 1 (x1.1.map vi) [] x1.1 [] [q1,vw x1.1] (by kernel_rfl) rfl (by kernel_rfl) (awp_seq (EN (R0 (cd h (fun hb3 h=>?_) (fun hb3 h=>?_)))))
 ·refine R0 ?_;cases h;exact WA 2 [(2,.d dnil),(3,vi x1.2)] [q1,vw x1.1] (awp_laxT 2 _ (L3 ([]:List Int)) _ (by kernel_rfl) (.nil (e:=1)) rfl (WA 2 [(2,.d (L3 ([]:List Int))),(3,vi x1.2)] [q1,vw x1.1] (awp_ret gm)))
 ·refine SK (awp_seq (R0 ?_))
  let q2:Nat×V:=(19,vl p_s.Points)
  refine WA 2 [(1,rf 0),(2,.d dnil),(4,rf 1),q2,(20,vi 0)] [q1,vw x1.1] (awp_nil 2 1 (by kernel_rfl) ?_)
  let q3:O:=.data (([]:List Int).flatMap cel3)
  refine awp_eq (T':=[(2,.sl 1 2 0 ([]:List Int).length),(1,rf 0),(4,rf 1),q2,(20,vi 0)]) (H':=[q1,vw x1.1,q3]) (by kernel_rfl) (by kernel_rfl) (WA 3 [(1,rf 0),(2,.sl 1 2 0 ([]:List Int).length),(4,rf 1),q2,(20,vi 0)] [q1,vw x1.1,q3] (cuo h (fun ro5=>[(2,.d (L3 ro5.1)),(3,vi ro5.2)]) (fun ro5=>[]) (fun so5=>[(2,.sl 1 2 0 so5.length)]) (fun so5=>[q1,vw x1.1,.data (so5.flatMap cel3)]) (fun o5 h=>?_) (fun ro5 h=>?_) (fun so5 h=>?_)))
  ·refine awp_selQ (EN (LP 3 [1,2,4,19,20] (F41L1 fuel p_s x1) o5 (fun c6=>pr [(1,rf 0),(2,.sl 1 2 0 c6.2.length),(4,rf 1),q2,(20,vi c6.1)] [q1,vw x1.1,.data (c6.2.flatMap cel3)]) fuel (0,([]:List Int)) h (fun _=>rfl) ?_));clear h;intro n7 c6 h hrn7;rw [F41L1] at h;refine R0 (awp_seq (cd h (fun hb8 h=>?_) (fun hb8 h=>?_)))
   ·refine SK (awp_seq (awp_block (R0 ?_)));obtain ⟨x9,hx9,h⟩:=ob h;obtain ⟨x10,hx10,h⟩:=ob h;refine RT (.p (show LoadOk (([]:List V)++x1.1.map vi) 0 81 ((x9.map di0).map .d) from (by rw [map_dd];exact vecLoads (p:=0) (pre:=[]) rfl hx9 rfl)) (.h (.cells (x9.map di0)) (.n 1 (.p (show ((((x9.map di0).map V.d)).length=81) from (by rw [map_dd];exact (Zg _).trans (need_of hx10))) (.p (show StoreOk ((List.replicate 81 (0:Int)).map vi) 0 ((x9.map di0).map V.d) (x9.map vi) from (by rw [map_dd];exact vecStores (n:=81) rfl (need_of hx10))) (.h (.vals (x9.map vi)) .nil)))))) (awp_vec 3 (x9.map vi) [] x9 [] [q1,vw x1.1,.data (c6.2.flatMap cel3),vw x9] (by kernel_rfl) rfl (by kernel_rfl) (awp_seq (EN (R0 (cuo h (fun ro11=>[(2,.d (L3 ro11.1)),(3,vi ro11.2)]) (fun ro11=>[]) (fun so11=>[(1,rf 0),(2,.sl 1 2 0 c6.2.length),(4,rf 1),(5,vi c6.1),(7,vb so11.1),q2,(20,vi c6.1)]) (fun so11=>[q1,vw x1.1,.data (c6.2.flatMap cel3),vw so11.2]) (fun o11 h=>?_) (fun ro11 h=>?_) (fun so11 h=>?_))))))
    ·refine awp_selQ (LP 4 [1,2,4,5,6,7,19,20,26,27] (F41L2 fuel p_s c6) o11 (fun c12=>pr [(1,rf 0),(2,.sl 1 2 0 c6.2.length),(4,rf 1),(5,vi c6.1),(6,rf 3),(7,vb c12.1),q2,(20,vi c6.1),(26,vl p_s.Points),(27,vi c12.2.1)] [q1,vw x1.1,.data (c6.2.flatMap cel3),vw c12.2.2]) fuel (true,0,x9) h (fun _=>rfl) ?_);clear h;intro n13 c12 h hrn13;rw [F41L2] at h;refine R0 (awp_seq (cd h (fun hb14 h=>?_) (fun hb14 h=>?_)))
     ·refine SK (awp_seq (awp_block (R0 ?_)));obtain ⟨x15,hx15,h⟩:=ob h;refine XT (.n 4 (.i c12.1 (.i c12.1 (.p (show (c12.1=true→([.cells [vi p_s.Interval,.d (L9 p_s.Points),.d (L121 p_s.Notes)],vw x1.1,.data (c6.2.flatMap cel3),vw x15.2]:List O)=[.cells [vi p_s.Interval,.d (L9 p_s.Points),.d (L121 p_s.Notes)],vw x1.1,.data (c6.2.flatMap cel3),vw (cond c12.1 x15.2 c12.2.2)]) from (fun hg=>by first|rfl|(rw [hg];done)|(rw [hg];rfl)|simp only [hg,cond_true])) (.p (show (c12.1=false→([.cells [vi p_s.Interval,.d (L9 p_s.Points),.d (L121 p_s.Notes)],vw x1.1,.data (c6.2.flatMap cel3),vw c12.2.2]:List O)=[.cells [vi p_s.Interval,.d (L9 p_s.Points),.d (L121 p_s.Notes)],vw x1.1,.data (c6.2.flatMap cel3),vw (cond c12.1 x15.2 c12.2.2)]) from (fun hg=>by first|rfl|(rw [hg];done)|(rw [hg];rfl)|simp only [hg,cond_false])) (.p (show (c12.1=true→HCall Tryz.prog 114 [rf 0,vi c6.1,vi c12.2.1,vi 0] [vw c12.2.2] (vb x15.1) [vw x15.2]) from (fun hg=>ct114 (optG_of hx15 hg))) (.h (.gcall [(3,false)] (vb x15.1) [vw x15.2] [.cells [vi p_s.Interval,.d (L9 p_s.Points),.d (L121 p_s.Notes)],vw x1.1,.data (c6.2.flatMap cel3),vw (cond c12.1 x15.2 c12.2.2)]) (.i c12.1 (.n 1 .nil))))))))) ?_;show awp ..;exact X0 (gn 4 [1,2,4,5,6,7,19,20,26,27] (hrn13 _ h))
     ·refine awp_exit ?_;cases h;exact gs [0,1,2,3] [1,2,4,5,7,19,20] OutQ.norm
    ·cases h;exact gs [] [2,3] OutQ.ret
    ·show awp ..;refine EN (R0 (cd h (fun hb16 h=>?_) (fun hb16 h=>?_)))
     ·obtain ⟨x17,hx17,h⟩:=ob h;refine XT (.n 3 (.ap (appendOk cel3_len (need_of hx17)) .nil)) ?_;show awp ..;exact X0 (gn 3 [1,2,4,19,20] (hrn7 _ h))
     ·refine awp_skip ?_;show awp ..;exact X0 (gn 3 [1,2,4,19,20] (hrn7 _ h))
   ·refine awp_exit ?_;cases h;exact gs [0,1,2] [2] OutQ.norm
  ·obtain rfl:=oi h;exact gm
  ·show awp ..;refine EN (R0 ?_);cases h;exact WA 3 [(2,.sl 1 2 0 so5.length),(3,vi 0)] [q1,vw x1.1,.data (so5.flatMap cel3)] (awp_freeze 2 2 (so5.flatMap cel3) (.sl 1 2 0 so5.length) (.d (L3 so5)) _ _ (ps:=[(so5.flatMap cel3).length=so5.length*1]) (by kernel_rfl) (by kernel_rfl) (by kernel_rfl) (flatMap_len cel3 1 cel3_len so5) rfl rfl (WA 3 [(2,.d (L3 so5)),(3,vi 0)] [q1,vw x1.1,q3] (awp_ret gm)))
theorem ct47 {lo hi res} (h:F47 lo hi=some res):PCall Tryz.prog 47 [(di lo),(di hi)] (.d (.agg [(di res.Lo),(di res.Hi)])):=by
 refine PO 8 Tryz.func47 rfl ?_;unfold F47 at h;refine EN (R0 (R0 ?_));cases h;exact awp_ret gm
theorem ct112 {kind p_a p_b lo hi res} (h:F112 kind p_a p_b lo hi=some res):PCall Tryz.prog 112 [(di kind),(di p_a),(di p_b),(di lo),(di hi)] (.d (.agg [(di res.Kind),(di res.A),(di res.B),(di res.By.Lo),(di res.By.Hi)])):=by
 refine PO 18 Tryz.func112 rfl ?_;unfold F112 at h;refine EN (R0 ?_);obtain ⟨x1,hx1,h⟩:=ob h;refine RT (.n 5 (.pc (ct47 hx1) .nil)) ?_;cases h;exact awp_ret gm
theorem ct37 {further res} (h:F37 further=some res):PCall Tryz.prog 37 [(L121 further)] (.d (.agg [(di res.Interval),(L9 res.Points),(L121 res.Notes)])):=by
 refine PO 12 Tryz.func37 rfl ?_;unfold F37 at h;refine EN (R0 ?_);obtain ⟨x1,hx1,h⟩:=ob h;obtain ⟨x2,hx2,h⟩:=ob h;obtain ⟨x3,hx3,h⟩:=ob h;obtain ⟨x4,hx4,h⟩:=ob h;obtain ⟨x5,hx5,h⟩:=ob h;refine RT (.n 1 (.pc (ct112 hx1) (.pc (ct112 hx2) (.pc (ct112 hx3) (.pc (ct112 hx4) (.h (.cells []) (.n 1 (.al (appendOk cel121_len (need_of hx5)) .nil)))))))) ?_;cases h;exact awp_ret gm
theorem ct38 {res} (h:F38=some res):PCall Tryz.prog 38 [] (.d (L121 res)):=by
 refine PO 3 Tryz.func38 rfl ?_;unfold F38 at h;refine EN (R0 ?_);obtain ⟨x1,hx1,h⟩:=ob h;refine RT (.pc (ct112 hx1) .nil) ?_;cases h;exact awp_ret gm
theorem ct39 {res} (h:F39=some res):PCall Tryz.prog 39 [] (.d (L121 res)):=by
 refine PO 3 Tryz.func39 rfl ?_;unfold F39 at h;refine EN (R0 ?_);obtain ⟨x1,hx1,h⟩:=ob h;refine RT (.pc (ct112 hx1) .nil) ?_;cases h;exact awp_ret gm
theorem ct46 {res} (h:F46=some res):PCall Tryz.prog 46 [] (.d (.v (.string res))):=by
 refine PO 1 Tryz.func46 rfl ?_;unfold F46 at h;refine EN (R0 (R0 ?_));cases h;exact awp_ret gm
theorem ct48 {fuel:Nat} {p_a p_b res} (h:F48 fuel p_a p_b=some res):PCall Tryz.prog 48 [(L3 p_a),(L3 p_b)] (vb res):=by
 refine PO 26 Tryz.func48 rfl ?_;unfold F48 at h;refine EN (R0 (awp_seq (R0 (cd h (fun hb1 h=>?_) (fun hb1 h=>?_)))))
 ·refine R0 ?_;obtain rfl:=oi h;exact awp_ret gm
 ·refine SK (awp_seq (R0 (cuo h (fun ro2=>[(4,vb ro2)]) (fun ro2=>[]) (fun so2=>[]) (fun so2=>[]) (fun o2 h=>?_) (fun ro2 h=>?_) (fun so2 h=>?_))))
  ·refine awp_selQ (LP 0 [0,1,5] (F48L1 p_a p_b) o2 (fun c3=>pr [(0,.d (L3 p_a)),(1,.d (L3 p_b)),(5,vi c3)] []) fuel 0 h (fun _=>rfl) ?_);clear h;intro n4 c3 h hrn4;rw [F48L1] at h;refine awp_seq (R0 (cd h (fun hb5 h=>?_) (fun hb5 h=>?_)))
   ·refine SK (awp_seq (awp_block ?_));obtain ⟨x6,hx6,h⟩:=ob h;obtain ⟨x7,hx7,h⟩:=ob h;refine DT 8 (.n 2 (.ix (idxOk cel3_len hx6) (.n 3 (.ix (idxOk cel3_len hx7) .nil)))) (cd h (fun hb8 h=>?_) (fun hb8 h=>?_))
    ·refine R0 ?_;cases h;exact awp_ret (gs [] [4] OutQ.ret)
    ·refine awp_skip ?_;show awp ..;exact X0 (gn 0 [0,1,5] (hrn4 _ h))
   ·refine awp_exit ?_;cases h;exact gs [] [] OutQ.norm
  ·obtain rfl:=oi h;exact gm
  ·show awp ..;refine EN (R0 ?_);obtain rfl:=oi h;exact awp_ret gm
theorem ct123 {fuel:Nat} {p_a p_b res} (h:F123 fuel p_a p_b=some res):PCall Tryz.prog 123 [(L9 p_a),(L9 p_b)] (vb res):=by
 refine PO 26 Tryz.func123 rfl ?_;unfold F123 at h;refine EN (R0 (awp_seq (R0 (cd h (fun hb1 h=>?_) (fun hb1 h=>?_)))))
 ·refine R0 ?_;obtain rfl:=oi h;exact awp_ret gm
 ·refine SK (awp_seq (R0 (cuo h (fun ro2=>[(4,vb ro2)]) (fun ro2=>[]) (fun so2=>[]) (fun so2=>[]) (fun o2 h=>?_) (fun ro2 h=>?_) (fun so2 h=>?_))))
  ·refine awp_selQ (LP 0 [0,1,5] (F123L1 p_a p_b) o2 (fun c3=>pr [(0,.d (L9 p_a)),(1,.d (L9 p_b)),(5,vi c3)] []) fuel 0 h (fun _=>rfl) ?_);clear h;intro n4 c3 h hrn4;rw [F123L1] at h;refine awp_seq (R0 (cd h (fun hb5 h=>?_) (fun hb5 h=>?_)))
   ·refine SK (awp_seq (awp_block ?_));obtain ⟨x6,hx6,h⟩:=ob h;obtain ⟨x7,hx7,h⟩:=ob h;refine DT 8 (.n 2 (.ix (idxOk cel9_len hx6) (.n 3 (.ix (idxOk cel9_len hx7) .nil)))) (cd h (fun hb8 h=>?_) (fun hb8 h=>?_))
    ·refine R0 ?_;cases h;exact awp_ret (gs [] [4] OutQ.ret)
    ·refine awp_skip ?_;show awp ..;exact X0 (gn 0 [0,1,5] (hrn4 _ h))
   ·refine awp_exit ?_;cases h;exact gs [] [] OutQ.norm
  ·obtain rfl:=oi h;exact gm
  ·show awp ..;refine EN (R0 ?_);obtain rfl:=oi h;exact awp_ret gm
theorem ct49 {fuel:Nat} {p_a p_b res} (h:F49 fuel p_a p_b=some res):PCall Tryz.prog 49 [(.agg [(di p_a.Interval),(L9 p_a.Points),(L121 p_a.Notes)]),(.agg [(di p_b.Interval),(L9 p_b.Points),(L121 p_b.Notes)])] (vb res):=by
 refine PO 46 Tryz.func49 rfl ?_;unfold F49 at h;refine EN (R0 (awp_seq ?_));obtain ⟨x1,hx1,h⟩:=ob h
 let g2 := !(p_a.Interval != p_b.Interval)
 let q2:=(cond (p_a.Interval != p_b.Interval) true (!x1))
 let g1 := !q2
 refine RT (.n 7 (.i g2 (.n 1 (.n 1 (.i g2 (.n 1 (.i g2 (.i g2 (.p (show (g2=true→PCall Tryz.prog 123 [(L9 p_a.Points),(L9 p_b.Points)] (vb x1)) from (fun hg=>ct123 (optG_of hx1 hg))) (.h (.call [(L9 p_a.Points),(L9 p_b.Points)] (vb x1)) (.i g2 (.n 1 (.p (show ((p_a.Interval != p_b.Interval)=false→(!(p_a.Interval != p_b.Interval))=true) from not_of) (.n 1 (.n 2 (.i g1 (.n 1 (.i g1 (.n 1 (.n 1 (.i g1 (.n 1 (.i g1 (.n 1 (.i g1 (.i g1 (.n 1 (.p (show (q2=false→(!q2)=true) from not_of) (.n 1 .nil))))))))))))))))))))))))))))) (cd h (fun hb2 h=>?_) (fun hb2 h=>?_))
 ·refine R0 ?_;obtain rfl:=oi h;exact awp_ret gm
 ·refine SK (awp_seq (R0 ?_))
  let q3:O:=.cells [vi p_a.Interval,.d (L9 p_a.Points),.d (L121 p_a.Notes)]
  let q4:O:=.cells [vi p_b.Interval,.d (L9 p_b.Points),.d (L121 p_b.Notes)]
  let q1:List O:=[q3,q4]
  refine cuo h (fun ro3=>[(4,vb ro3)]) (fun ro3=>[]) (fun so3=>[]) (fun so3=>[q3,q4]) (fun o3 h=>?_) (fun ro3 h=>?_) (fun so3 h=>?_)
  ·refine awp_selQ (LP 2 [2,3,5] (F49L1 p_a p_b) o3 (fun c4=>pr [(2,rf 0),(3,rf 1),(5,vi c4)] q1) fuel 0 h (fun _=>rfl) ?_);clear h;intro n5 c4 h hrn5;rw [F49L1] at h;refine awp_seq (R0 (cd h (fun hb6 h=>?_) (fun hb6 h=>?_)))
   ·refine SK (awp_seq (awp_block ?_));obtain ⟨x7,hx7,h⟩:=ob h;obtain ⟨x8,hx8,h⟩:=ob h;refine DT 10 (.n 3 (.ix (idxOk cel121_len hx7) (.n 4 (.ix (idxOk cel121_len hx8) (.n 1 (.p (show (eqB2 Tryz.prog 121 (.agg [(di x7.Kind),(di x7.A),(di x7.B),(di x7.By.Lo),(di x7.By.Hi)])=true) from (by kernel_rfl)) (.p (show (eqD (.agg [(di x7.Kind),(di x7.A),(di x7.B),(di x7.By.Lo),(di x7.By.Hi)]) (.agg [(di x8.Kind),(di x8.A),(di x8.B),(di x8.By.Lo),(di x8.By.Hi)])=some ((x7.Kind==x8.Kind)&&((x7.A==x8.A)&&((x7.B==x8.B)&&((x7.By.Lo==x8.By.Lo)&&(x7.By.Hi==x8.By.Hi)))))) from (by kernel_rfl)) (.h (.eqs ((x7.Kind==x8.Kind)&&((x7.A==x8.A)&&((x7.B==x8.B)&&((x7.By.Lo==x8.By.Lo)&&(x7.By.Hi==x8.By.Hi)))))) .nil)))))))) (cd h (fun hb9 h=>?_) (fun hb9 h=>?_))
    ·refine R0 ?_;cases h;exact awp_ret (gs [] [4] OutQ.ret)
    ·refine awp_skip ?_;show awp ..;exact X0 (gn 2 [2,3,5] (hrn5 _ h))
   ·refine awp_exit ?_;cases h;exact gs [0,1] [] OutQ.norm
  ·obtain rfl:=oi h;exact gm
  ·show awp ..;refine EN (R0 ?_);obtain rfl:=oi h;exact awp_ret gm
theorem ct15 {fuel:Nat} {p_a p_b res} (h:F15 fuel p_a p_b=some res):PCall Tryz.prog 15 [(L66 p_a),(L66 p_b)] (vb res):=by
 refine PO 26 Tryz.func15 rfl ?_;unfold F15 at h;refine EN (R0 (awp_seq (R0 (cd h (fun hb1 h=>?_) (fun hb1 h=>?_)))))
 ·refine R0 ?_;obtain rfl:=oi h;exact awp_ret gm
 ·refine SK (awp_seq (R0 (cuo h (fun ro2=>[(4,vb ro2)]) (fun ro2=>[]) (fun so2=>[]) (fun so2=>[]) (fun o2 h=>?_) (fun ro2 h=>?_) (fun so2 h=>?_))))
  ·refine awp_selQ (LP 0 [0,1,5] (F15L1 p_a p_b) o2 (fun c3=>pr [(0,.d (L66 p_a)),(1,.d (L66 p_b)),(5,vi c3)] []) fuel 0 h (fun _=>rfl) ?_);clear h;intro n4 c3 h hrn4;rw [F15L1] at h;refine awp_seq (R0 (cd h (fun hb5 h=>?_) (fun hb5 h=>?_)))
   ·refine SK (awp_seq (awp_block ?_));obtain ⟨x6,hx6,h⟩:=ob h;obtain ⟨x7,hx7,h⟩:=ob h;refine DT 8 (.n 2 (.ix (idxOk cel66_len hx6) (.n 3 (.ix (idxOk cel66_len hx7) .nil)))) (cd h (fun hb8 h=>?_) (fun hb8 h=>?_))
    ·refine R0 ?_;cases h;exact awp_ret (gs [] [4] OutQ.ret)
    ·refine awp_skip ?_;show awp ..;exact X0 (gn 0 [0,1,5] (hrn4 _ h))
   ·refine awp_exit ?_;cases h;exact gs [] [] OutQ.norm
  ·obtain rfl:=oi h;exact gm
  ·show awp ..;refine EN (R0 ?_);obtain rfl:=oi h;exact awp_ret gm
end Go.Proofs.YtkcgfceihpampaaGreatDoor
