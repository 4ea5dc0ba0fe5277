/- That functions of the seat compute this. Printed by a program of mine. -/
import Derived.Test.YtkcgfceihpampaaGreatDoorS
import Derived.Test.YtkcgfceihpampaaGreatDoorCA
import Derived.Test.YtkcgfceihpampaaGreatDoorCB
import Derived.Test.YtkcgfceihpampaaGreatDoorCC
import Derived.Test.YtkcgfceihpampaaGreatDoorDD
namespace Go.Proofs.YtkcgfceihpampaaGreatDoor
open Go Go.Sx
set_option maxRecDepth 100000
set_option linter.unusedVariables false
theorem ct12 {fuel:Nat} {p_s res} (h:F12 fuel p_s=some res):PCall Tryz.prog 12 [(.agg [(di p_s.Interval),(L9 p_s.Points),(L121 p_s.Notes)])] (.tup [vb res.1,vi res.2]):=by
 refine PO 27 Tryz.func12 rfl ?_;unfold F12 at h;refine EN (R0 ?_);obtain ⟨x1,hx1,h⟩:=ob h;obtain ⟨x2,hx2,h⟩:=ob h;refine RT (.n 1 (.pc (ct62 hx1) (.n 4 (.p (show ((((x1.1.map di0).map V.d)).length=81) from (by rw [map_dd];exact (Zg _).trans (need_of hx2))) (.p (show StoreOk ((List.replicate 81 (0:Int)).map vi) 0 ((x1.1.map di0).map V.d) (x1.1.map vi) from (by rw [map_dd];exact vecStores (n:=81) rfl (need_of hx2))) (.h (.vals (x1.1.map vi)) .nil)))))) (awp_vec 1 (x1.1.map vi) [] x1.1 [] [.cells [vi p_s.Interval,.d (L9 p_s.Points),.d (L121 p_s.Notes)],vw x1.1] (by kernel_rfl) rfl (by kernel_rfl) (awp_seq (EN (R0 (cd h (fun hb3 h=>?_) (fun hb3 h=>?_))))))
 ·obtain ⟨x4,hx4,h⟩:=ob h;refine RT (.n 1 (.pc (ct65 hx4) .nil)) (R0 (cd h (fun hb5 h=>?_) (fun hb5 h=>?_)))
  ·refine R0 ?_;cases h;exact awp_ret gm
  ·refine SK (R0 ?_);cases h;exact awp_ret gm
 ·refine SK (R0 ?_);cases h;exact awp_ret gm
theorem ct10 {fuel:Nat} {p_s res} (h:F10 fuel p_s=some res):PCall Tryz.prog 10 [(.agg [(di p_s.Interval),(L9 p_s.Points),(L121 p_s.Notes)])] (.tup [.d (L66 res.1),vi res.2]):=by
 refine PO 35 Tryz.func10 rfl ?_;unfold F10 at h;refine EN (R0 ?_);obtain ⟨x1,hx1,h⟩:=ob h;obtain ⟨x2,hx2,h⟩:=ob h;refine RT (.n 1 (.pc (ct62 hx1) (.n 4 (.p (show ((((x1.1.map di0).map V.d)).length=81) from (by rw [map_dd];exact (Zg _).trans (need_of hx2))) (.p (show StoreOk ((List.replicate 81 (0:Int)).map vi) 0 ((x1.1.map di0).map V.d) (x1.1.map vi) from (by rw [map_dd];exact vecStores (n:=81) rfl (need_of hx2))) (.h (.vals (x1.1.map vi)) .nil)))))) ?_
 let q1:O:=.cells [vi p_s.Interval,.d (L9 p_s.Points),.d (L121 p_s.Notes)]
 refine awp_vec 1 (x1.1.map vi) [] x1.1 [] [q1,vw x1.1] (by kernel_rfl) rfl (by kernel_rfl) (awp_seq (EN (R0 (cd h (fun hb3 h=>?_) (fun hb3 h=>?_)))))
 ·refine R0 ?_;cases h;exact WA 2 [(2,.d dnil),(3,vi x1.2)] [q1,vw x1.1] (awp_laxT 2 _ (L66 ([]:List S_api_Span)) _ (by kernel_rfl) (.nil (e:=2)) rfl (WA 2 [(2,.d (L66 ([]:List S_api_Span))),(3,vi x1.2)] [q1,vw x1.1] (awp_ret gm)))
 ·refine SK (awp_seq (R0 (WA 2 [(2,.d dnil),(4,rf 1),(16,vl p_s.Points),(17,vi 0)] [q1,vw x1.1] (awp_nil 2 2 (by kernel_rfl) ?_))))
  let q2:St:=[(2,.sl 2 2 0 ([]:List S_api_Span).length),(4,rf 1),(16,vl p_s.Points),(17,vi 0)]
  let q3:O:=.data (([]:List S_api_Span).flatMap cel66)
  refine awp_eq (T':=[(2,.sl 2 2 0 ([]:List S_api_Span).length),(4,rf 1),(16,vl p_s.Points),(17,vi 0)]) (H':=[q1,vw x1.1,q3]) (by kernel_rfl) (by kernel_rfl) (WA 3 q2 [q1,vw x1.1,q3] (cuo h (fun ro5=>[(2,.d (L66 ro5.1)),(3,vi ro5.2)]) (fun ro5=>[]) (fun so5=>[(2,.sl 2 2 0 so5.length)]) (fun so5=>[q1,vw x1.1,.data (so5.flatMap cel66)]) (fun o5 h=>?_) (fun ro5 h=>?_) (fun so5 h=>?_)))
  ·refine awp_selQ (EN (LP 3 [2,4,16,17] (F10L1 p_s x1) o5 (fun c6=>pr [(2,.sl 2 2 0 c6.2.length),(4,rf 1),(16,vl p_s.Points),(17,vi c6.1)] [q1,vw x1.1,.data (c6.2.flatMap cel66)]) fuel (0,([]:List S_api_Span)) h (fun _=>rfl) ?_));clear h;intro n7 c6 h hrn7;rw [F10L1] at h;refine R0 (awp_seq (cd h (fun hb8 h=>?_) (fun hb8 h=>?_)))
   ·refine SK (awp_seq (awp_block (R0 ?_)));obtain ⟨x9,hx9,h⟩:=ob h;obtain ⟨x10,hx10,h⟩:=ob h;obtain ⟨x11,hx11,h⟩:=ob h;obtain ⟨x12,hx12,h⟩:=ob h;obtain ⟨x13,hx13,h⟩:=ob h;refine ET 12 (.n 2 (.p (need_of hx9:0≤c6.1∧c6.1<((9:Nat):Int)) (.n 1 (.p (by decide:0≤(8:Int)∧(8:Int)<((9:Nat):Int)) (.n 1 (.p (show LoadOk (([]:List V)++x1.1.map vi) (0+c6.1.toNat*9+(8:Int).toNat*1) 1 [vi x10] from vecLoad (p:=0) (pre:=[]) (k:=0+c6.1.toNat*9+(8:Int).toNat*1) rfl hx10 (by omega)) (.h (.vals [vi x10]) (.n 2 (.p (by decide:0≤(8:Int)∧(8:Int)<((9:Nat):Int)) (.n 1 (.p (need_of hx11:0≤c6.1∧c6.1<((9:Nat):Int)) (.n 1 (.p (show LoadOk (([]:List V)++x1.1.map vi) (0+(8:Int).toNat*9+c6.1.toNat*1) 1 [vi x12] from vecLoad (p:=0) (pre:=[]) (k:=0+(8:Int).toNat*9+c6.1.toNat*1) rfl hx12 (by omega)) (.h (.vals [vi x12]) (.n 2 (.ap (appendOk cel66_len (need_of hx13)) .nil)))))))))))))))) ?_;show awp ..;exact X0 (gn 3 [2,4,16,17] (hrn7 _ h))
   ·refine awp_exit ?_;cases h;exact gs [0,1,2] [2] OutQ.norm
  ·obtain rfl:=oi h;exact gm
  ·show awp ..;refine EN (R0 ?_);cases h;exact WA 3 [(2,.sl 2 2 0 so5.length),(3,vi 0)] [q1,vw x1.1,.data (so5.flatMap cel66)] (awp_freeze 2 2 (so5.flatMap cel66) (.sl 2 2 0 so5.length) (.d (L66 so5)) _ _ (ps:=[(so5.flatMap cel66).length=so5.length*2]) (by kernel_rfl) (by kernel_rfl) (by kernel_rfl) (flatMap_len cel66 2 cel66_len so5) rfl rfl (WA 3 [(2,.d (L66 so5)),(3,vi 0)] [q1,vw x1.1,q3] (awp_ret gm)))
theorem ct14 {fuel:Nat} {p_s res} (h:F14 fuel p_s=some res):PCall Tryz.prog 14 [(.agg [(di p_s.Interval),(L9 p_s.Points),(L121 p_s.Notes)])] (.tup [vi res.1,vi res.2]):=by
 refine PO 57 Tryz.func14 rfl ?_;unfold F14 at h;refine EN (R0 (awp_scope (awp_seq ?_)));obtain ⟨x1,hx1,h⟩:=ob h;refine RT (.n 1 (.pc (ct65 hx1) .nil)) (R0 (cd h (fun hb2 h=>?_) (fun hb2 h=>?_)))
 ·refine R0 ?_;cases h;exact awp_ret gm
 ·refine SK (R0 (awp_seq (awp_label ?_)));show awp ..;refine awp_seq ?_
  let q1:O:=.cells [vi p_s.Interval,.d (L9 p_s.Points),.d (L121 p_s.Notes)]
  refine cuo h (fun ro3=>[(2,vi ro3.1),(3,vi ro3.2)]) (fun ro3=>[]) (fun so3=>[(8,vi so3)]) (fun so3=>[q1]) (fun o3 h=>?_) (fun ro3 h=>?_) (fun so3 h=>?_)
  ·refine awp_selQ (LP 1 [1,7,8] (F14L1 fuel p_s) o3 (fun c4=>pr [(1,rf 0),(7,vi c4.1),(8,vi c4.2)] [q1]) fuel ((-1),9000) h (fun _=>rfl) ?_);clear h;intro n5 c4 h hrn5;rw [F14L1] at h;refine awp_seq (R0 (cd h (fun hb6 h=>?_) (fun hb6 h=>?_)))
   ·refine SK ?_;refine awp_block (RT (.n 3 (.p (by decide:(2:Int)≠0) (.n 1 .nil))) ?_);obtain ⟨x7,hx7,h⟩:=ob h;obtain ⟨x8,hx8,h⟩:=ob h;refine RT (.pc (ct69 hx7) (.n 1 (.p (show ((((x7.map di0).map V.d)).length=81) from (by rw [map_dd];exact (Zg _).trans (need_of hx8))) (.p (show StoreOk ((List.replicate 81 (0:Int)).map vi) 0 ((x7.map di0).map V.d) (x7.map vi) from (by rw [map_dd];exact vecStores (n:=81) rfl (need_of hx8))) (.h (.vals (x7.map vi)) .nil))))) (awp_vec 1 (x7.map vi) [] x7 [] [q1,vw x7] (by kernel_rfl) rfl (by kernel_rfl) (awp_seq (EN (R0 ?_))));obtain ⟨o9,ho9,h⟩:=ob h
    let q2:=(w64 ((w64 (c4.1+c4.2)).tdiv 2))
    refine awp_cut1 (OutX (fun (ro9:Int×Int)=>[(2,vi ro9.1),(3,vi ro9.2)]) (fun (ro9:Int×Int)=>[]) 1 (fun (qo9:(List Int))=>[(1,rf 0),(7,vi q2),(8,vi c4.2)]) (fun (qo9:(List Int))=>[q1,vw qo9]) (fun (so9:(List Int))=>[(1,rf 0),(7,vi c4.1),(9,vi q2)]) (fun (so9:(List Int))=>[q1,vw so9]) o9) ?_ ?_
    ·clear h;have h:=ho9;clear ho9;refine awp_selQ (LP 2 [1,7,8,9,10,34,35] (F14L2 fuel p_s c4) o9 (fun c10=>pr [(1,rf 0),(7,vi c4.1),(8,vi c4.2),(9,vi q2),(10,rf 1),(34,vl p_s.Notes),(35,vi c10.1)] [q1,vw c10.2]) fuel (0,x7) h (fun _=>rfl) ?_);clear h;intro n11 c10 h hrn11;rw [F14L2] at h;refine R0 (awp_seq (cd h (fun hb12 h=>?_) (fun hb12 h=>?_)))
     ·refine SK (awp_seq (awp_block (R0 ?_)));obtain ⟨x13,hx13,h⟩:=ob h;obtain ⟨x14,hx14,h⟩:=ob h;obtain ⟨x15,hx15,h⟩:=ob h;refine RT (.n 2 (.p (show LoadOk (([]:List V)++c10.2.map vi) 0 81 ((x13.map di0).map .d) from (by rw [map_dd];exact vecLoads (p:=0) (pre:=[]) rfl hx13 rfl)) (.h (.cells (x13.map di0)) (.n 2 (.pc (ct70 hx14) (.n 4 (.p (show ((((x14.1.map di0).map V.d)).length=81) from (by rw [map_dd];exact (Zg _).trans (need_of hx15))) (.p (show StoreOk ((List.replicate 81 (0:Int)).map vi) 0 ((x14.1.map di0).map V.d) (x14.1.map vi) from (by rw [map_dd];exact vecStores (n:=81) rfl (need_of hx15))) (.h (.vals (x14.1.map vi)) .nil))))))))) (awp_vec 2 (x14.1.map vi) [] x14.1 [] [q1,vw c10.2,vw x14.1] (by kernel_rfl) rfl (by kernel_rfl) (awp_seq (EN (R0 (cd h (fun hb16 h=>?_) (fun hb16 h=>?_))))))
      ·refine R0 (awp_exit ?_);cases h;exact gs [0,1] [1,7,8] OutX.ex
      ·refine SK ?_;obtain ⟨x17,hx17,h⟩:=ob h;obtain ⟨x18,hx18,h⟩:=ob h;obtain ⟨x19,hx19,h⟩:=ob h;obtain ⟨x20,hx20,h⟩:=ob h;refine RT (.p (show LoadOk (([]:List V)++x14.1.map vi) 0 81 ((x17.map di0).map .d) from (by rw [map_dd];exact vecLoads (p:=0) (pre:=[]) rfl hx17 rfl)) (.h (.cells (x17.map di0)) (.p (show LoadOk (([]:List V)++c10.2.map vi) 0 81 ((x18.map di0).map .d) from (by rw [map_dd];exact vecLoads (p:=0) (pre:=[]) rfl hx18 rfl)) (.h (.cells (x18.map di0)) (.p (show (eqB2 Tryz.prog 124 (.agg (x17.map di0))=true) from arrk124 (need_of hx19)) (.p (show (eqD (.agg (x17.map di0)) (.agg (x18.map di0))=some (x17==x18)) from arre124 (need_of hx19) (need_of hx20)) (.h (.eqs (x17==x18)) .nil))))))) (cd h (fun hb21 h=>?_) (fun hb21 h=>?_))
       ·obtain ⟨x22,hx22,h⟩:=ob h;obtain ⟨x23,hx23,h⟩:=ob h;obtain ⟨x24,hx24,h⟩:=ob h;refine XT (.p (show LoadOk (([]:List V)++x14.1.map vi) 0 81 ((x22.map di0).map .d) from (by rw [map_dd];exact vecLoads (p:=0) (pre:=[]) rfl hx22 rfl)) (.h (.cells (x22.map di0)) (.p (show ((((x22.map di0).map V.d)).length=81) from (by rw [map_dd];exact (Zg _).trans (need_of hx23))) (.p (show StoreOk (c10.2.map vi) 0 ((x22.map di0).map V.d) (x22.map vi) from (by rw [map_dd];exact vecStores (n:=81) ((Zg _).trans (need_of hx24)) (need_of hx23))) (.h (.nums x22) .nil))))) ?_;show awp ..;exact X0 (gn 2 [1,7,8,9,10,34,35] (hrn11 _ h))
       ·refine awp_skip ?_;show awp ..;exact X0 (gn 2 [1,7,8,9,10,34,35] (hrn11 _ h))
     ·refine awp_exit ?_;cases h;exact gs [0,1] [1,7,9] OutX.norm
    ·intro e T H hq;cases o9 with
     | inl ro9 =>
      obtain ⟨rfl,rfl,rfl⟩:=hq;rw [outK_inl] at h;cases h;exact gs [] [2,3] OutQ.ret
     | inr yo9 =>
      rw [outK_inr] at h;cases yo9 with
      | inl qo9 =>
       obtain ⟨rfl,rfl,rfl⟩:=hq;rw [outK_inl] at h;exact gn 1 [1,7,8] (hrn5 _ h)
      | inr so9 =>
       obtain ⟨rfl,rfl,rfl⟩:=hq;rw [outK_inr] at h;show awp ..;exact EN (X0 (gn 1 [1,7,8] (hrn5 _ h)))
   ·refine awp_exit ?_;cases h;exact gs [0] [8] OutQ.norm
  ·obtain rfl:=oi h;exact gm
  ·show awp ..;refine EN (R0 ?_);cases h;exact awp_ret gm
end Go.Proofs.YtkcgfceihpampaaGreatDoor
