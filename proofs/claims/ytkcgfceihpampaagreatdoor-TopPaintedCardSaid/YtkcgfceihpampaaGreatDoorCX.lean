/- That functions of the seat compute this. Printed by a program of mine. -/
import Derived.Test.YtkcgfceihpampaaGreatDoorS
import Derived.Test.YtkcgfceihpampaaGreatDoorCG
import Derived.Test.YtkcgfceihpampaaGreatDoorCH
import Derived.Test.YtkcgfceihpampaaGreatDoorCI
import Derived.Test.YtkcgfceihpampaaGreatDoorCU
import Derived.Test.YtkcgfceihpampaaGreatDoorDX
namespace Go.Proofs.YtkcgfceihpampaaGreatDoor
open Go Go.Sx
set_option maxRecDepth 100000
set_option linter.unusedVariables false
theorem ct77  {lo:Int} {hi:Int} {res:S_api_Span} (h:F77 lo hi=some res):PCall Tryz.prog 77 [(di lo),(di hi)] (.d (.agg [(di res.Lo),(di res.Hi)])):=by
 refine PCall.of_awp tt_ok (N:=8) Tryz.func77 rfl (by kernel_rfl) rfl (Nat.le_of_ble_eq_true rfl) rfl ?_
 unfold F77 at h
 refine EN ?_
 refine R0 ?_
 refine R0 ?_
 obtain rfl:=oi h
 exact awp_ret gm
theorem ct79  {p_a:Int} {p_b:Int} {res:S_api_ClPair} (h:F79 p_a p_b=some res):PCall Tryz.prog 79 [(di p_a),(di p_b)] (.d (.agg [(di res.A),(di res.B)])):=by
 refine PCall.of_awp tt_ok (N:=8) Tryz.func79 rfl (by kernel_rfl) rfl (Nat.le_of_ble_eq_true rfl) rfl ?_
 unfold F79 at h
 refine EN ?_
 refine R0 ?_
 refine R0 ?_
 obtain rfl:=oi h
 exact awp_ret gm
theorem ct74  {inks:Int} {res:S_api_ClMap} (h:F74 inks=some res):PCall Tryz.prog 74 [(di inks)] (.d (.agg [(L66 res.Borders),(di res.Step),(L66 res.Heights),(L70 res.Sides),(di res.Inks),(L70 res.Like)])):=by
 refine PCall.of_awp tt_ok (N:=21) Tryz.func74 rfl (by kernel_rfl) rfl (Nat.le_of_ble_eq_true rfl) rfl ?_
 unfold F74 at h
 refine EN ?_
 refine R0 ?_
 obtain ⟨x1,hx1,h⟩:=ob h
 obtain ⟨x2,hx2,h⟩:=ob h
 obtain ⟨x3,hx3,h⟩:=ob h
 obtain ⟨x4,hx4,h⟩:=ob h
 obtain ⟨x5,hx5,h⟩:=ob h
 obtain ⟨x6,hx6,h⟩:=ob h
 obtain ⟨x7,hx7,h⟩:=ob h
 obtain ⟨x8,hx8,h⟩:=ob h
 obtain ⟨x9,hx9,h⟩:=ob h
 obtain ⟨x10,hx10,h⟩:=ob h
 obtain ⟨x11,hx11,h⟩:=ob h
 obtain ⟨x12,hx12,h⟩:=ob h
 refine RT (.pc (ct77 hx1) (.pc (ct77 hx2) (.n 1 (.pc (ct77 hx3) (.pc (ct77 hx4) (.pc (ct77 hx5) (.pc (ct77 hx6) (.pc (ct77 hx7) (.n 1 (.pc (ct79 hx8) (.pc (ct79 hx9) (.pc (ct79 hx10) (.pc (ct79 hx11) (.n 2 (.pc (ct79 hx12) .nil))))))))))))))) ?_
 obtain rfl:=oi h
 exact awp_ret gm
theorem ct75 {fuel:Nat}  {p_m:S_api_ClMap} {legend:(List Int)} {res:(List S_api_ClPair)×Int} (h:F75 fuel p_m legend=some res):PCall Tryz.prog 75 [(.agg [(L66 p_m.Borders),(di p_m.Step),(L66 p_m.Heights),(L70 p_m.Sides),(di p_m.Inks),(L70 p_m.Like)]),(L3 legend)] (.tup [.d (L70 res.1),vi res.2]):=by
 refine PCall.of_awp tt_ok (N:=49) Tryz.func75 rfl (by kernel_rfl) rfl (Nat.le_of_ble_eq_true rfl) rfl ?_
 unfold F75 at h
 refine EN ?_
 refine R0 ?_
 obtain ⟨x1,hx1,h⟩:=ob h
 refine RT (.n 2 (.pc (ct90 hx1) .nil)) ?_
 refine awp_seq (R0 ?_)
 refine cd h (fun hb2 h=>?_) (fun hb2 h=>?_)
 ·refine R0 ?_
  obtain rfl:=oi h
  refine WA 1 [(4,.d dnil),(5,vi x1.2)] [.cells [.d (L66 p_m.Borders),vi p_m.Step,.d (L66 p_m.Heights),.d (L70 p_m.Sides),vi p_m.Inks,.d (L70 p_m.Like)]] ?_
  refine awp_laxT 4 _ (L70 ([]:List S_api_ClPair)) _ (by kernel_rfl) (.nil (e:=2)) rfl ?_
  refine WA 1 [(4,.d (L70 ([]:List S_api_ClPair))),(5,vi x1.2)] [.cells [.d (L66 p_m.Borders),vi p_m.Step,.d (L66 p_m.Heights),.d (L70 p_m.Sides),vi p_m.Inks,.d (L70 p_m.Like)]] ?_
  exact awp_ret gm
 ·refine awp_skip ?_
  show awp ..
  refine awp_seq ?_
  obtain ⟨x3,hx3,h⟩:=ob h
  obtain ⟨x4,hx4,h⟩:=ob h
  refine RT (.n 1 (.p (show ((OP159 x1.1) = .optr true ([(L66 x3.ClMap.Borders),(di x3.ClMap.Step),(L66 x3.ClMap.Heights),(L70 x3.ClMap.Sides),(di x3.ClMap.Inks),(L70 x3.ClMap.Like),(L3 x3.legend),(L66 x3.bands)]++x3.vec.map di0)) from optr_of (f:=opc159) hx3) (.h (.cells ([(L66 x3.ClMap.Borders),(di x3.ClMap.Step),(L66 x3.ClMap.Heights),(L70 x3.ClMap.Sides),(di x3.ClMap.Inks),(L70 x3.ClMap.Like),(L3 x3.legend),(L66 x3.bands)]++x3.vec.map di0)) (.n 1 (.p (show ((((x3.vec.map di0).drop 0).take 36=x4.map di0)∧(x4.map di0).length=36) from ropLoads hx4) (.h (.cells (x4.map di0)) .nil)))))) ?_
  refine WA 1 [(4,.d dnil),(23,.d (.agg (x4.map di0))),(24,vi 0)] [.cells [.d (L66 p_m.Borders),vi p_m.Step,.d (L66 p_m.Heights),.d (L70 p_m.Sides),vi p_m.Inks,.d (L70 p_m.Like)]] ?_
  refine awp_nil 4 2 (by kernel_rfl) ?_
  refine awp_eq (T':=[(4,.sl 2 1 0 ([]:List S_api_ClPair).length),(23,.d (.agg (x4.map di0))),(24,vi 0)]) (H':=[.cells [.d (L66 p_m.Borders),vi p_m.Step,.d (L66 p_m.Heights),.d (L70 p_m.Sides),vi p_m.Inks,.d (L70 p_m.Like)],.data (([]:List S_api_ClPair).flatMap cel70)]) (by kernel_rfl) (by kernel_rfl) ?_
  refine WA 2 [(4,.sl 2 1 0 ([]:List S_api_ClPair).length),(23,.d (.agg (x4.map di0))),(24,vi 0)] [.cells [.d (L66 p_m.Borders),vi p_m.Step,.d (L66 p_m.Heights),.d (L70 p_m.Sides),vi p_m.Inks,.d (L70 p_m.Like)],.data (([]:List S_api_ClPair).flatMap cel70)] ?_
  refine cuo h (fun (ro6:(List S_api_ClPair)×Int)=>[(4,.d (L70 ro6.1)),(5,vi ro6.2)]) (fun (ro6:(List S_api_ClPair)×Int)=>[]) (fun (so6:(List S_api_ClPair))=>[(4,.sl 2 1 0 so6.length)]) (fun (so6:(List S_api_ClPair))=>[.cells [.d (L66 p_m.Borders),vi p_m.Step,.d (L66 p_m.Heights),.d (L70 p_m.Sides),vi p_m.Inks,.d (L70 p_m.Like)],.data (so6.flatMap cel70)]) (fun o6 h=>?_) (fun ro6 h=>?_) (fun so6 h=>?_)
  ·refine awp_selQ (EN ?_)
   refine LP 2 [4,23,24] (F75L1 fuel x4) o6 (fun (c7:Int×(List S_api_ClPair))=>pr [(4,.sl 2 1 0 c7.2.length),(23,.d (.agg (x4.map di0))),(24,vi c7.1)] [.cells [.d (L66 p_m.Borders),vi p_m.Step,.d (L66 p_m.Heights),.d (L70 p_m.Sides),vi p_m.Inks,.d (L70 p_m.Like)],.data (c7.2.flatMap cel70)]) fuel (0,([]:List S_api_ClPair)) h (fun _=>rfl) ?_
   clear h
   intro n8 c7 h hrn8
   rw [F75L1] at h
   refine R0 ?_
   refine awp_seq (cd h (fun hb9 h=>?_) (fun hb9 h=>?_))
   ·refine awp_skip ?_
    show awp ..
    refine awp_seq (awp_block ?_)
    obtain ⟨x10,hx10,h⟩:=ob h
    obtain ⟨x11,hx11,h⟩:=ob h
    obtain ⟨x12,hx12,h⟩:=ob h
    refine RT (.n 1 (.p (show IdxOk ((x4.map di0).drop 0) 6 6 c7.1 (x11.map di0) from ropIdx (need_of hx10:0≤c7.1∧c7.1<((6:Nat):Int)) hx11) (.h (.cells (x11.map di0)) (.n 2 (.p (show ((((x11.map di0).map V.d)).length=6) from (by rw [map_dd];exact (List.length_map _).trans (need_of hx12))) (.p (show StoreOk ((List.replicate 6 (0:Int)).map vi) 0 ((x11.map di0).map V.d) (x11.map vi) from (by rw [map_dd];exact vecStores (n:=6) rfl (need_of hx12))) (.h (.vals (x11.map vi)) .nil))))))) ?_
    refine awp_vec 2 (x11.map vi) [] x11 [] [.cells [.d (L66 p_m.Borders),vi p_m.Step,.d (L66 p_m.Heights),.d (L70 p_m.Sides),vi p_m.Inks,.d (L70 p_m.Like)],.data (c7.2.flatMap cel70),vw x11] (by kernel_rfl) rfl (by kernel_rfl) ?_
    obtain ⟨x13,hx13,h⟩:=ob h
    refine EN ?_
    refine RT (.p (show LoadOk (([]:List V)++x11.map vi) 0 6 ((x13.map di0).map .d) from (by rw [map_dd];exact vecLoads (p:=0) (pre:=[]) rfl hx13 rfl)) (.h (.cells (x13.map di0)) .nil)) ?_
    refine cuo h (fun (ro14:(List S_api_ClPair)×Int)=>[(4,.d (L70 ro14.1)),(5,vi ro14.2)]) (fun (ro14:(List S_api_ClPair)×Int)=>[]) (fun (so14:(List S_api_ClPair))=>[(4,.sl 2 1 0 so14.length),(23,.d (.agg (x4.map di0))),(24,vi c7.1)]) (fun (so14:(List S_api_ClPair))=>[.cells [.d (L66 p_m.Borders),vi p_m.Step,.d (L66 p_m.Heights),.d (L70 p_m.Sides),vi p_m.Inks,.d (L70 p_m.Like)],.data (so14.flatMap cel70),vw x11]) (fun o14 h=>?_) (fun ro14 h=>?_) (fun so14 h=>?_)
    ·refine awp_selQ (LP 3 [4,7,23,24,28,29] (F75L2 c7 x13) o14 (fun (c15:Int×(List S_api_ClPair))=>pr [(4,.sl 2 1 0 c15.2.length),(7,vi c7.1),(23,.d (.agg (x4.map di0))),(24,vi c7.1),(28,.d (.agg (x13.map di0))),(29,vi c15.1)] [.cells [.d (L66 p_m.Borders),vi p_m.Step,.d (L66 p_m.Heights),.d (L70 p_m.Sides),vi p_m.Inks,.d (L70 p_m.Like)],.data (c15.2.flatMap cel70),vw x11]) fuel (0,c7.2) h (fun _=>rfl) ?_)
     clear h
     intro n16 c15 h hrn16
     rw [F75L2] at h
     refine R0 ?_
     refine awp_seq (cd h (fun hb17 h=>?_) (fun hb17 h=>?_))
     ·refine awp_skip ?_
      show awp ..
      refine awp_seq (awp_block ?_)
      obtain ⟨x18,hx18,h⟩:=ob h
      obtain ⟨x19,hx19,h⟩:=ob h
      refine RT (.n 1 (.p (show IdxOk ((x13.map di0).drop 0) 1 6 c15.1 [di0 x19] from ropIdx1 (need_of hx18:0≤c15.1∧c15.1<((6:Nat):Int)) hx19) (.h (.cells [di0 x19]) .nil))) ?_
      let g1:=(decide (c7.1<c15.1))
      refine RT (.n 5 (.i g1 (.n 1 (.i g1 (.n 1 .nil))))) ?_
      refine cd h (fun hb20 h=>?_) (fun hb20 h=>?_)
      ·obtain ⟨x21,hx21,h⟩:=ob h
       refine XT (.n 5 (.ap (appendOk cel70_len (need_of hx21)) .nil)) ?_
       show awp ..
       refine X0 ?_
       exact gn 3 [4,7,23,24,28,29] (hrn16 _ h)
      ·refine awp_skip ?_
       show awp ..
       refine X0 ?_
       exact gn 3 [4,7,23,24,28,29] (hrn16 _ h)
     ·refine awp_exit ?_
      obtain rfl:=oi h
      exact gs [0,1,2] [4,23,24] OutQ.norm
    ·obtain rfl:=oi h
     exact gs [] [4,5] OutQ.ret
    ·show awp ..
     refine EN ?_
     refine X0 ?_
     exact gn 2 [4,23,24] (hrn8 _ h)
   ·refine awp_exit ?_
    obtain rfl:=oi h
    exact gs [0,1] [4] OutQ.norm
  ·obtain rfl:=oi h
   exact gm
  ·show awp ..
   refine EN ?_
   refine R0 ?_
   obtain rfl:=oi h
   refine WA 2 [(4,.sl 2 1 0 so6.length),(5,vi 0)] [.cells [.d (L66 p_m.Borders),vi p_m.Step,.d (L66 p_m.Heights),.d (L70 p_m.Sides),vi p_m.Inks,.d (L70 p_m.Like)],.data (so6.flatMap cel70)] ?_
   refine awp_freeze 4 1 (so6.flatMap cel70) (.sl 2 1 0 so6.length) (.d (L70 so6)) _ _ (ps:=[(so6.flatMap cel70).length=so6.length*2]) (by kernel_rfl) (by kernel_rfl) (by kernel_rfl) (flatMap_len cel70 2 cel70_len so6) rfl rfl ?_
   refine WA 2 [(4,.d (L70 so6)),(5,vi 0)] [.cells [.d (L66 p_m.Borders),vi p_m.Step,.d (L66 p_m.Heights),.d (L70 p_m.Sides),vi p_m.Inks,.d (L70 p_m.Like)],.data (([]:List S_api_ClPair).flatMap cel70)] ?_
   exact awp_ret gm
theorem ct145v2  {p_c:(Option S_colour_chart)} {p_s:S_api_ClPair} {res:(Option S_colour_chart)×Int×Int} (h:F145v2 p_c p_s=some res):HCall Tryz.prog 145 [.d (OP159 p_c),.d (.agg [(di p_s.A),(di p_s.B)])] [] (.fn (.func 192) [] [rf 0,rf 1]) [.cells [.d (OP159 res.1)],.cells [vi res.2.1,vi res.2.2]]:=by
 refine HCall.of_awpS tt_ok (N:=6) (fl:=0) Tryz.func145 rfl (by kernel_rfl) rfl rfl (Nat.le_of_ble_eq_true rfl) ?_
 unfold F145v2 at h
 refine EN ?_
 refine R0 ?_
 refine R0 ?_
 obtain rfl:=oi h
 exact awp_ret (main_retS [0,1] (.fn (.func 192) [] [rf 0,rf 1]) (by kernel_rfl) (by kernel_rfl) (by kernel_rfl) (by kernel_rfl))
theorem ct76r  {y1:Int} {y2:Int} {b1x0:List Int} {b2x0:(Option S_colour_chart)} {b3x0:Bool} {res:Bool} (h:F76r y1 y2 b1x0 b2x0 b3x0=some res):YCall Tryz.prog [.yld 0,vi y1,vi y2] [.loop (some none) [48,49] asn76x0 bdy76x0 70 [(5,rf 1),(8,rf 2),(11,rf 3)],.cells [.d (L3 b1x0)],.cells [.d (OP159 b2x0)],.cells [vb b3x0]] (vb true) [.loop (some none) [48,49] asn76x0 bdy76x0 70 [(5,rf 1),(8,rf 2),(11,rf 3)],.cells [.d (L3 b1x0)],.cells [.d (OP159 b2x0)],.cells [vb res]]:=by
 refine YCall.of_awp (N:=70) (k:=0) (ps:=[48,49]) (asg:=asn76x0) (bd:=bdy76x0) (Tl:=[(5,rf 1),(8,rf 2),(11,rf 3)]) rfl (by kernel_rfl) rfl ?_
 refine awp_eq (T':=[(49,vi y2),(48,vi y1),(5,rf 1),(8,rf 2),(11,rf 3)]) (H':=[.loop (some none) [48,49] asn76x0 bdy76x0 70 [(5,rf 1),(8,rf 2),(11,rf 3)],.cells [.d (L3 b1x0)],.cells [.d (OP159 b2x0)],.cells [vb b3x0]]) (by kernel_rfl) rfl ?_
 change awp _ _ _ _ asn76x0 _ _ _
 unfold F76r at h
 refine GA [(5,rf 1),(8,rf 2),(11,rf 3),(12,vi y1),(49,vi y2)] [.loop (some none) [48,49] asn76x0 bdy76x0 70 [(5,rf 1),(8,rf 2),(11,rf 3)],.cells [.d (L3 b1x0)],.cells [.d (OP159 b2x0)],.cells [vb b3x0]] ?_
 refine YA [(5,rf 1),(8,rf 2),(11,rf 3),(12,vi y1),(13,vi y2)] ?_
 refine ⟨rfl,by kernel_rfl,?_⟩
 refine awp_eq (T':=[(5,rf 1),(8,rf 2),(11,rf 3),(12,vi y1),(13,vi y2)]) (H':=[.loop (none) [48,49] asn76x0 bdy76x0 70 [(5,rf 1),(8,rf 2),(11,rf 3)],.cells [.d (L3 b1x0)],.cells [.d (OP159 b2x0)],.cells [vb b3x0]]) rfl rfl ?_
 refine awp_wkQ ?_
 refine awp_block ?_
 obtain ⟨x1,hx1,h⟩:=ob h
 obtain ⟨x2,hx2,h⟩:=ob h
 obtain ⟨x3,hx3,h⟩:=ob h
 refine EN ?_
 refine ET 11 (.n 5 (.i (!b3x0) (.i (!b3x0) (.p (show ((!b3x0)=true→IX3 b1x0 y1 x1) from (fun hg=>idxOk cel3_len (optG_of hx1 hg))) (.h (.cells (cel3 x1)) (.i (!b3x0) (.n 1 (.n 2 (.i (!b3x0) (.i (!b3x0) (.p (show ((!b3x0)=true→IX3 b1x0 y2 x2) from (fun hg=>idxOk cel3_len (optG_of hx2 hg))) (.h (.cells (cel3 x2)) (.i (!b3x0) (.n 1 (.i (!b3x0) (.i (!b3x0) (.i (!b3x0) (.p (show ((!b3x0)=true→PCall Tryz.prog 91 [(OP159 b2x0),(di x1),(di x2)] (vb x3)) from (fun hg=>ct91 (optG_of hx3 hg))) (.h (.call [(OP159 b2x0),(di x1),(di x2)] (vb x3)) (.p (show (b3x0=false→(!b3x0)=true) from not_of) (.n 1 .nil))))))))))))))))))))) ?_
 obtain rfl:=oi h
 repeat (first|refine blockQ_ne (by decide) ?_|refine thenQ_exit ?_|refine noGotoA_exit ?_)
 try delta blockQ
 try delta thenQ
 try delta noGotoA
 show Wk _ _ _ _ _
 refine Wk.mk 4 [] (by kernel_rfl) (T':=[]) (H':=[.loop (none) [48,49] asn76x0 bdy76x0 70 [(5,rf 1),(8,rf 2),(11,rf 3)],.cells [.d (L3 b1x0)],.cells [.d (OP159 b2x0)],.cells [vb (cond b3x0 true x3)]]) (by kernel_rfl) (by kernel_rfl) ?_
 exact ⟨none,rfl,rfl,by kernel_rfl,by kernel_rfl⟩
theorem ct192v1 {fuel:Nat}  {b1x0:List Int} {b2x0:(Option S_colour_chart)} {b3x0:Bool} {b4x0:(Option S_colour_chart)} {b5x0:Int} {b5x1:Int} {res:Bool} (h:F192v1 fuel b1x0 b2x0 b3x0 b4x0 b5x0 b5x1=some res):HCall Tryz.prog 192 [.yld 0,rf 4,rf 5] [.loop (some none) [48,49] asn76x0 bdy76x0 70 [(5,rf 1),(8,rf 2),(11,rf 3)],.cells [.d (L3 b1x0)],.cells [.d (OP159 b2x0)],.cells [vb b3x0],.cells [.d (OP159 b4x0)],.cells [vi b5x0,vi b5x1]] (.tup []) [.loop (some none) [48,49] asn76x0 bdy76x0 70 [(5,rf 1),(8,rf 2),(11,rf 3)],.cells [.d (L3 b1x0)],.cells [.d (OP159 b2x0)],.cells [vb res],.cells [.d (OP159 b4x0)],.cells [vi b5x0,vi b5x1]]:=by
 refine HCall.of_awpS tt_ok (N:=64) (fl:=6) Tryz.func192 rfl (by kernel_rfl) rfl rfl (Nat.le_of_ble_eq_true rfl) ?_
 unfold F192v1 at h
 refine EN ?_
 refine RS 2 ?_
 obtain ⟨x1,hx1,h⟩:=ob h
 obtain ⟨x2,hx2,h⟩:=ob h
 obtain ⟨x3,hx3,h⟩:=ob h
 obtain ⟨x4,hx4,h⟩:=ob h
 refine DT 19 (.n 1 (.p (show ((OP159 b4x0) = .optr true ([(L66 x1.ClMap.Borders),(di x1.ClMap.Step),(L66 x1.ClMap.Heights),(L70 x1.ClMap.Sides),(di x1.ClMap.Inks),(L70 x1.ClMap.Like),(L3 x1.legend),(L66 x1.bands)]++x1.vec.map di0)) from optr_of (f:=opc159) hx1) (.h (.cells ([(L66 x1.ClMap.Borders),(di x1.ClMap.Step),(L66 x1.ClMap.Heights),(L70 x1.ClMap.Sides),(di x1.ClMap.Inks),(L70 x1.ClMap.Like),(L3 x1.legend),(L66 x1.bands)]++x1.vec.map di0)) (.n 4 (.ix (idxOk cel66_len hx2) (.n 2 (.p (show ((OP159 b4x0) = .optr true ([(L66 x3.ClMap.Borders),(di x3.ClMap.Step),(L66 x3.ClMap.Heights),(L70 x3.ClMap.Sides),(di x3.ClMap.Inks),(L70 x3.ClMap.Like),(L3 x3.legend),(L66 x3.bands)]++x3.vec.map di0)) from optr_of (f:=opc159) hx3) (.h (.cells ([(L66 x3.ClMap.Borders),(di x3.ClMap.Step),(L66 x3.ClMap.Heights),(L70 x3.ClMap.Sides),(di x3.ClMap.Inks),(L70 x3.ClMap.Like),(L3 x3.legend),(L66 x3.bands)]++x3.vec.map di0)) (.n 4 (.ix (idxOk cel66_len hx4) (.n 1 (.h (.res 6) (.h (.res 7) .nil))))))))))))) ?_
 refine R0 ?_
 refine cuo h (fun (ro5:Bool)=>[]) (fun (ro5:Bool)=>[.loop (some none) [48,49] asn76x0 bdy76x0 70 [(5,rf 1),(8,rf 2),(11,rf 3)],.cells [.d (L3 b1x0)],.cells [.d (OP159 b2x0)],.cells [vb ro5],.cells [.d (OP159 b4x0)],.cells [vi b5x0,vi b5x1]]) (fun (so5:Bool)=>[]) (fun (so5:Bool)=>[.loop (some none) [48,49] asn76x0 bdy76x0 70 [(5,rf 1),(8,rf 2),(11,rf 3)],.cells [.d (L3 b1x0)],.cells [.d (OP159 b2x0)],.cells [vb so5],.cells [.d (OP159 b4x0)],.cells [vi b5x0,vi b5x1],.cells [vi x2.Lo,vi x2.Hi],.cells [vi x4.Lo,vi x4.Hi]]) (fun o5 h=>?_) (fun ro5 h=>?_) (fun so5 h=>?_)
 ·refine awp_selQ (LP 8 [0,4,5,31,32] (F192v1L1 fuel b1x0 b2x0 x2 x4) o5 (fun (c6:Int×Bool)=>pr [(0,.yld 0),(4,rf 6),(5,rf 7),(31,vi (w64 ((w64 (x2.Hi-x2.Lo))+1))),(32,vi c6.1)] [.loop (some none) [48,49] asn76x0 bdy76x0 70 [(5,rf 1),(8,rf 2),(11,rf 3)],.cells [.d (L3 b1x0)],.cells [.d (OP159 b2x0)],.cells [vb c6.2],.cells [.d (OP159 b4x0)],.cells [vi b5x0,vi b5x1],.cells [vi x2.Lo,vi x2.Hi],.cells [vi x4.Lo,vi x4.Hi]]) fuel (0,b3x0) h (fun _=>rfl) ?_)
  clear h
  intro n7 c6 h hrn7
  rw [F192v1L1] at h
  refine R0 ?_
  refine awp_seq (cd h (fun hb8 h=>?_) (fun hb8 h=>?_))
  ·refine awp_skip ?_
   show awp ..
   refine awp_seq (awp_block ?_)
   refine R0 ?_
   refine R0 ?_
   refine cuo h (fun (ro9:Bool)=>[]) (fun (ro9:Bool)=>[.loop (some none) [48,49] asn76x0 bdy76x0 70 [(5,rf 1),(8,rf 2),(11,rf 3)],.cells [.d (L3 b1x0)],.cells [.d (OP159 b2x0)],.cells [vb ro9],.cells [.d (OP159 b4x0)],.cells [vi b5x0,vi b5x1]]) (fun (so9:Bool)=>[(0,.yld 0),(4,rf 6),(5,rf 7),(31,vi (w64 ((w64 (x2.Hi-x2.Lo))+1))),(32,vi c6.1)]) (fun (so9:Bool)=>[.loop (some none) [48,49] asn76x0 bdy76x0 70 [(5,rf 1),(8,rf 2),(11,rf 3)],.cells [.d (L3 b1x0)],.cells [.d (OP159 b2x0)],.cells [vb so9],.cells [.d (OP159 b4x0)],.cells [vi b5x0,vi b5x1],.cells [vi x2.Lo,vi x2.Hi],.cells [vi x4.Lo,vi x4.Hi]]) (fun o9 h=>?_) (fun ro9 h=>?_) (fun so9 h=>?_)
   ·refine awp_selQ (LP 8 [0,4,5,6,31,32,40,41] (F192v1L2 b1x0 b2x0 x2 x4 c6) o9 (fun (c10:Int×Bool)=>pr [(0,.yld 0),(4,rf 6),(5,rf 7),(6,vi c6.1),(31,vi (w64 ((w64 (x2.Hi-x2.Lo))+1))),(32,vi c6.1),(40,vi (w64 ((w64 (x4.Hi-x4.Lo))+1))),(41,vi c10.1)] [.loop (some none) [48,49] asn76x0 bdy76x0 70 [(5,rf 1),(8,rf 2),(11,rf 3)],.cells [.d (L3 b1x0)],.cells [.d (OP159 b2x0)],.cells [vb c10.2],.cells [.d (OP159 b4x0)],.cells [vi b5x0,vi b5x1],.cells [vi x2.Lo,vi x2.Hi],.cells [vi x4.Lo,vi x4.Hi]]) fuel (0,c6.2) h (fun _=>rfl) ?_)
    clear h
    intro n11 c10 h hrn11
    rw [F192v1L2] at h
    refine R0 ?_
    refine awp_seq (cd h (fun hb12 h=>?_) (fun hb12 h=>?_))
    ·refine awp_skip ?_
     show awp ..
     refine awp_seq (awp_block ?_)
     refine R0 ?_
     refine DT 9 .nil ?_
     obtain ⟨x13,hx13,h⟩:=ob h
     let g1:=((w64 (x2.Lo+c6.1)) != (w64 (x4.Lo+c10.1)))
     refine RT (.n 7 (.i g1 (.i g1 (.i g1 (.p (show (((w64 (x2.Lo+c6.1)) != (w64 (x4.Lo+c10.1)))=true→([.loop (some none) [48,49] asn76x0 bdy76x0 70 [(5,rf 1),(8,rf 2),(11,rf 3)],.cells [.d (L3 b1x0)],.cells [.d (OP159 b2x0)],.cells [vb x13],.cells [.d (OP159 b4x0)],.cells [vi b5x0,vi b5x1],.cells [vi x2.Lo,vi x2.Hi],.cells [vi x4.Lo,vi x4.Hi]]:List O)=[.loop (some none) [48,49] asn76x0 bdy76x0 70 [(5,rf 1),(8,rf 2),(11,rf 3)],.cells [.d (L3 b1x0)],.cells [.d (OP159 b2x0)],.cells [vb (cond ((w64 (x2.Lo+c6.1)) != (w64 (x4.Lo+c10.1))) x13 c10.2)],.cells [.d (OP159 b4x0)],.cells [vi b5x0,vi b5x1],.cells [vi x2.Lo,vi x2.Hi],.cells [vi x4.Lo,vi x4.Hi]]) from (fun hg=>by first|rfl|(rw [hg];done)|(rw [hg];rfl)|simp only [hg,cond_true])) (.p (show (((w64 (x2.Lo+c6.1)) != (w64 (x4.Lo+c10.1)))=false→([.loop (some none) [48,49] asn76x0 bdy76x0 70 [(5,rf 1),(8,rf 2),(11,rf 3)],.cells [.d (L3 b1x0)],.cells [.d (OP159 b2x0)],.cells [vb c10.2],.cells [.d (OP159 b4x0)],.cells [vi b5x0,vi b5x1],.cells [vi x2.Lo,vi x2.Hi],.cells [vi x4.Lo,vi x4.Hi]]:List O)=[.loop (some none) [48,49] asn76x0 bdy76x0 70 [(5,rf 1),(8,rf 2),(11,rf 3)],.cells [.d (L3 b1x0)],.cells [.d (OP159 b2x0)],.cells [vb (cond ((w64 (x2.Lo+c6.1)) != (w64 (x4.Lo+c10.1))) x13 c10.2)],.cells [.d (OP159 b4x0)],.cells [vi b5x0,vi b5x1],.cells [vi x2.Lo,vi x2.Hi],.cells [vi x4.Lo,vi x4.Hi]]) from (fun hg=>by first|rfl|(rw [hg];done)|(rw [hg];rfl)|simp only [hg,cond_false])) (.p (show (g1=true→YCall Tryz.prog [.yld 0,vi (w64 (x2.Lo+c6.1)),vi (w64 (x4.Lo+c10.1))] [.loop (some none) [48,49] asn76x0 bdy76x0 70 [(5,rf 1),(8,rf 2),(11,rf 3)],.cells [.d (L3 b1x0)],.cells [.d (OP159 b2x0)],.cells [vb c10.2]] (vb true) [.loop (some none) [48,49] asn76x0 bdy76x0 70 [(5,rf 1),(8,rf 2),(11,rf 3)],.cells [.d (L3 b1x0)],.cells [.d (OP159 b2x0)],.cells [vb x13]]) from (fun hg=>ct76r (optG_of hx13 hg))) (.h (.gcall [(0,false),(1,false),(2,false),(3,false)] (vb true) [.loop (some none) [48,49] asn76x0 bdy76x0 70 [(5,rf 1),(8,rf 2),(11,rf 3)],.cells [.d (L3 b1x0)],.cells [.d (OP159 b2x0)],.cells [vb x13]] [.loop (some none) [48,49] asn76x0 bdy76x0 70 [(5,rf 1),(8,rf 2),(11,rf 3)],.cells [.d (L3 b1x0)],.cells [.d (OP159 b2x0)],.cells [vb (cond ((w64 (x2.Lo+c6.1)) != (w64 (x4.Lo+c10.1))) x13 c10.2)],.cells [.d (OP159 b4x0)],.cells [vi b5x0,vi b5x1],.cells [vi x2.Lo,vi x2.Hi],.cells [vi x4.Lo,vi x4.Hi]]) (.i g1 (.n 1 (.i g1 (.n 1 .nil)))))))))))) ?_
     refine cd h (fun hb14 h=>?_) (fun hb14 h=>?_)
     ·obtain rfl:=oi h
      exact awp_ret (gs [0,1,2,3,4,5] [] OutQ.ret)
     ·refine awp_skip ?_
      show awp ..
      refine X0 ?_
      exact gn 8 [0,4,5,6,31,32,40,41] (hrn11 _ h)
    ·refine awp_exit ?_
     obtain rfl:=oi h
     exact gs [0,1,2,3,4,5,6,7] [0,4,5,31,32] OutQ.norm
   ·obtain rfl:=oi h
    exact gs [0,1,2,3,4,5] [] OutQ.ret
   ·show awp ..
    refine EN ?_
    refine X0 ?_
    exact gn 8 [0,4,5,31,32] (hrn7 _ h)
  ·refine awp_exit ?_
   obtain rfl:=oi h
   exact gs [0,1,2,3,4,5,6,7] [] OutQ.norm
 ·obtain rfl:=oi h
  exact (main_retS [0,1,2,3,4,5] (.tup []) (by kernel_rfl) (by kernel_rfl) (by kernel_rfl) (by kernel_rfl))
 ·obtain rfl:=oi h
  exact (main_retN [0,1,2,3,4,5] (.tup []) (by kernel_rfl) (by kernel_rfl) (by kernel_rfl) (by kernel_rfl))
theorem ct76 {fuel:Nat}  {p_m:S_api_ClMap} {legend:(List Int)} {inks:(List Int)} {res:(List Int)×Int} (h:F76 fuel p_m legend inks=some res):PCall Tryz.prog 76 [(.agg [(L66 p_m.Borders),(di p_m.Step),(L66 p_m.Heights),(L70 p_m.Sides),(di p_m.Inks),(L70 p_m.Like)]),(L3 legend),(L3 inks)] (.tup [.d (L3 res.1),vi res.2]):=by
 refine PCall.of_awp tt_ok (N:=70) Tryz.func76 rfl (by kernel_rfl) rfl (Nat.le_of_ble_eq_true rfl) rfl ?_
 unfold F76 at h
 refine EN ?_
 refine R0 ?_
 obtain ⟨x1,hx1,h⟩:=ob h
 refine RT (.n 2 (.pc (ct90 hx1) .nil)) ?_
 refine awp_seq (awp_block ?_)
 refine R0 ?_
 refine cd h (fun hb2 h=>?_) (fun hb2 h=>?_)
 ·refine R0 ?_
  obtain rfl:=oi h
  refine WA 3 [(6,.d dnil),(7,vi x1.2)] [.cells [.d (L66 p_m.Borders),vi p_m.Step,.d (L66 p_m.Heights),.d (L70 p_m.Sides),vi p_m.Inks,.d (L70 p_m.Like)],.cells [.d (L3 inks)],.cells [.d (OP159 x1.1)]] ?_
  refine awp_laxT 6 _ (L3 ([]:List Int)) _ (by kernel_rfl) (.nil (e:=1)) rfl ?_
  refine WA 3 [(6,.d (L3 ([]:List Int))),(7,vi x1.2)] [.cells [.d (L66 p_m.Borders),vi p_m.Step,.d (L66 p_m.Heights),.d (L70 p_m.Sides),vi p_m.Inks,.d (L70 p_m.Like)],.cells [.d (L3 inks)],.cells [.d (OP159 x1.1)]] ?_
  exact awp_ret gm
 ·refine R0 ?_
  refine cd h (fun hb3 h=>?_) (fun hb3 h=>?_)
  ·refine R0 ?_
   obtain rfl:=oi h
   refine WA 3 [(6,.d dnil),(7,vi 3)] [.cells [.d (L66 p_m.Borders),vi p_m.Step,.d (L66 p_m.Heights),.d (L70 p_m.Sides),vi p_m.Inks,.d (L70 p_m.Like)],.cells [.d (L3 inks)],.cells [.d (OP159 x1.1)]] ?_
   refine awp_laxT 6 _ (L3 ([]:List Int)) _ (by kernel_rfl) (.nil (e:=1)) rfl ?_
   refine WA 3 [(6,.d (L3 ([]:List Int))),(7,vi 3)] [.cells [.d (L66 p_m.Borders),vi p_m.Step,.d (L66 p_m.Heights),.d (L70 p_m.Sides),vi p_m.Inks,.d (L70 p_m.Like)],.cells [.d (L3 inks)],.cells [.d (OP159 x1.1)]] ?_
   exact awp_ret gm
  ·obtain ⟨x4,hx4,h⟩:=ob h
   refine RT (.n 4 (.pc (ct144 hx4) .nil)) ?_
   refine cd h (fun hb5 h=>?_) (fun hb5 h=>?_)
   ·refine R0 ?_
    obtain rfl:=oi h
    refine WA 3 [(6,.d dnil),(7,vi 4)] [.cells [.d (L66 p_m.Borders),vi p_m.Step,.d (L66 p_m.Heights),.d (L70 p_m.Sides),vi p_m.Inks,.d (L70 p_m.Like)],.cells [.d (L3 inks)],.cells [.d (OP159 x1.1)]] ?_
    refine awp_laxT 6 _ (L3 ([]:List Int)) _ (by kernel_rfl) (.nil (e:=1)) rfl ?_
    refine WA 3 [(6,.d (L3 ([]:List Int))),(7,vi 4)] [.cells [.d (L66 p_m.Borders),vi p_m.Step,.d (L66 p_m.Heights),.d (L70 p_m.Sides),vi p_m.Inks,.d (L70 p_m.Like)],.cells [.d (L3 inks)],.cells [.d (OP159 x1.1)]] ?_
    exact awp_ret gm
   ·refine awp_skip ?_
    show awp ..
    refine awp_seq (R0 ?_)
    refine WA 3 [(5,rf 1),(6,.d dnil),(8,rf 2),(38,.d (L70 p_m.Sides)),(39,vl p_m.Sides),(40,vi 0)] [.cells [.d (L66 p_m.Borders),vi p_m.Step,.d (L66 p_m.Heights),.d (L70 p_m.Sides),vi p_m.Inks,.d (L70 p_m.Like)],.cells [.d (L3 inks)],.cells [.d (OP159 x1.1)]] ?_
    refine awp_nil 6 1 (by kernel_rfl) ?_
    refine awp_eq (T':=[(6,.sl 1 3 0 ([]:List Int).length),(5,rf 1),(8,rf 2),(38,.d (L70 p_m.Sides)),(39,vl p_m.Sides),(40,vi 0)]) (H':=[.cells [.d (L66 p_m.Borders),vi p_m.Step,.d (L66 p_m.Heights),.d (L70 p_m.Sides),vi p_m.Inks,.d (L70 p_m.Like)],.cells [.d (L3 inks)],.cells [.d (OP159 x1.1)],.data (([]:List Int).flatMap cel3)]) (by kernel_rfl) (by kernel_rfl) ?_
    refine WA 4 [(5,rf 1),(6,.sl 1 3 0 ([]:List Int).length),(8,rf 2),(38,.d (L70 p_m.Sides)),(39,vl p_m.Sides),(40,vi 0)] [.cells [.d (L66 p_m.Borders),vi p_m.Step,.d (L66 p_m.Heights),.d (L70 p_m.Sides),vi p_m.Inks,.d (L70 p_m.Like)],.cells [.d (L3 inks)],.cells [.d (OP159 x1.1)],.data (([]:List Int).flatMap cel3)] ?_
    refine cuo h (fun (ro7:(List Int)×Int)=>[(6,.d (L3 ro7.1)),(7,vi ro7.2)]) (fun (ro7:(List Int)×Int)=>[]) (fun (so7:(List Int))=>[(6,.sl 1 3 0 so7.length)]) (fun (so7:(List Int))=>[.cells [.d (L66 p_m.Borders),vi p_m.Step,.d (L66 p_m.Heights),.d (L70 p_m.Sides),vi p_m.Inks,.d (L70 p_m.Like)],.cells [.d (L3 inks)],.cells [.d (OP159 x1.1)],.data (so7.flatMap cel3)]) (fun o7 h=>?_) (fun ro7 h=>?_) (fun so7 h=>?_)
    ·refine awp_selQ (EN ?_)
     refine LP 4 [5,6,8,38,39,40] (F76L1 fuel p_m inks x1) o7 (fun (c8:Int×(List Int))=>pr [(5,rf 1),(6,.sl 1 3 0 c8.2.length),(8,rf 2),(38,.d (L70 p_m.Sides)),(39,vl p_m.Sides),(40,vi c8.1)] [.cells [.d (L66 p_m.Borders),vi p_m.Step,.d (L66 p_m.Heights),.d (L70 p_m.Sides),vi p_m.Inks,.d (L70 p_m.Like)],.cells [.d (L3 inks)],.cells [.d (OP159 x1.1)],.data (c8.2.flatMap cel3)]) fuel (0,([]:List Int)) h (fun _=>rfl) ?_
     clear h
     intro n9 c8 h hrn9
     rw [F76L1] at h
     refine R0 ?_
     refine awp_seq (cd h (fun hb10 h=>?_) (fun hb10 h=>?_))
     ·refine awp_skip ?_
      show awp ..
      refine awp_seq (awp_block ?_)
      obtain ⟨x11,hx11,h⟩:=ob h
      refine RT (.n 1 (.ix (idxOk cel70_len hx11) .nil)) ?_
      refine R0 ?_
      refine awp_seq ?_
      obtain ⟨x12,hx12,h⟩:=ob h
      refine RT (.n 2 (.hc [] (ct145v2 hx12) .nil)) ?_
      refine awp_block (WA 8 [(5,rf 1),(6,.sl 1 3 0 c8.2.length),(8,rf 2),(9,vi c8.1),(11,rf 5),(38,.d (L70 p_m.Sides)),(39,vl p_m.Sides),(40,vi c8.1),(47,.fn (.func 192) [] [rf 6,rf 7])] [.cells [.d (L66 p_m.Borders),vi p_m.Step,.d (L66 p_m.Heights),.d (L70 p_m.Sides),vi p_m.Inks,.d (L70 p_m.Like)],.cells [.d (L3 inks)],.cells [.d (OP159 x1.1)],.data (c8.2.flatMap cel3),.cells [vi x11.A,vi x11.B],.cells [vb false],.cells [.d (OP159 x12.1)],.cells [vi x12.2.1,vi x12.2.2]] ?_)
      obtain ⟨x13,hx13,h⟩:=ob h
      refine awp_range (ks:=[5,8,11]) (ids:=[(8,false),(1,false),(2,false),(5,false),(6,false),(7,false)]) (r := .tup []) (Hc:=[.loop (some none) [48,49] asn76x0 bdy76x0 70 [(5,rf 1),(8,rf 2),(11,rf 3)],.cells [.d (L3 inks)],.cells [.d (OP159 x1.1)],.cells [vb x13],.cells [.d (OP159 x12.1)],.cells [vi x12.2.1,vi x12.2.2]]) none [(5,rf 1),(6,.sl 1 3 0 c8.2.length),(8,rf 2),(9,vi c8.1),(11,rf 5),(38,.d (L70 p_m.Sides)),(39,vl p_m.Sides),(40,vi c8.1),(47,.fn (.func 192) [] [rf 6,rf 7])] [.cells [.d (L66 p_m.Borders),vi p_m.Step,.d (L66 p_m.Heights),.d (L70 p_m.Sides),vi p_m.Inks,.d (L70 p_m.Like)],.cells [.d (L3 inks)],.cells [.d (OP159 x1.1)],.data (c8.2.flatMap cel3),.cells [vi x11.A,vi x11.B],.cells [vb x13],.cells [.d (OP159 x12.1)],.cells [vi x12.2.1,vi x12.2.2],.data []] [HCall Tryz.prog 192 [.yld 0,rf 4,rf 5] [.loop (some none) [48,49] asn76x0 bdy76x0 70 [(5,rf 1),(8,rf 2),(11,rf 3)],.cells [.d (L3 inks)],.cells [.d (OP159 x1.1)],.cells [vb false],.cells [.d (OP159 x12.1)],.cells [vi x12.2.1,vi x12.2.2]] (.tup []) [.loop (some none) [48,49] asn76x0 bdy76x0 70 [(5,rf 1),(8,rf 2),(11,rf 3)],.cells [.d (L3 inks)],.cells [.d (OP159 x1.1)],.cells [vb x13],.cells [.d (OP159 x12.1)],.cells [vi x12.2.1,vi x12.2.2]]] rfl (by kernel_rfl) (ct192v1 hx13) (fun _=>?_) (fun c hc=>absurd hc (by simp))
      show awp ..
      refine EN ?_
      refine R0 ?_
      refine cd h (fun hb14 h=>?_) (fun hb14 h=>?_)
      ·obtain ⟨x15,hx15,h⟩:=ob h
       refine XT (.n 3 (.ap (appendOk cel3_len (need_of hx15)) .nil)) ?_
       show awp ..
       refine X0 ?_
       exact gn 4 [5,6,8,38,39,40] (hrn9 _ h)
      ·refine awp_skip ?_
       show awp ..
       refine X0 ?_
       exact gn 4 [5,6,8,38,39,40] (hrn9 _ h)
     ·refine awp_exit ?_
      obtain rfl:=oi h
      exact gs [0,1,2,3] [6] OutQ.norm
    ·obtain rfl:=oi h
     exact gm
    ·show awp ..
     refine EN ?_
     refine R0 ?_
     obtain rfl:=oi h
     refine WA 4 [(6,.sl 1 3 0 so7.length),(7,vi 0)] [.cells [.d (L66 p_m.Borders),vi p_m.Step,.d (L66 p_m.Heights),.d (L70 p_m.Sides),vi p_m.Inks,.d (L70 p_m.Like)],.cells [.d (L3 inks)],.cells [.d (OP159 x1.1)],.data (so7.flatMap cel3)] ?_
     refine awp_freeze 6 3 (so7.flatMap cel3) (.sl 1 3 0 so7.length) (.d (L3 so7)) _ _ (ps:=[(so7.flatMap cel3).length=so7.length*1]) (by kernel_rfl) (by kernel_rfl) (by kernel_rfl) (flatMap_len cel3 1 cel3_len so7) rfl rfl ?_
     refine WA 4 [(6,.d (L3 so7)),(7,vi 0)] [.cells [.d (L66 p_m.Borders),vi p_m.Step,.d (L66 p_m.Heights),.d (L70 p_m.Sides),vi p_m.Inks,.d (L70 p_m.Like)],.cells [.d (L3 inks)],.cells [.d (OP159 x1.1)],.data (([]:List Int).flatMap cel3)] ?_
     exact awp_ret gm
theorem ct78 {fuel:Nat}  {p_a:(List S_api_ClPair)} {p_b:(List S_api_ClPair)} {res:Bool} (h:F78 fuel p_a p_b=some res):PCall Tryz.prog 78 [(L70 p_a),(L70 p_b)] (vb res):=by
 refine PCall.of_awp tt_ok (N:=26) Tryz.func78 rfl (by kernel_rfl) rfl (Nat.le_of_ble_eq_true rfl) rfl ?_
 unfold F78 at h
 refine EN ?_
 refine R0 ?_
 refine awp_seq (R0 ?_)
 refine cd h (fun hb1 h=>?_) (fun hb1 h=>?_)
 ·refine R0 ?_
  obtain rfl:=oi h
  exact awp_ret gm
 ·refine awp_skip ?_
  show awp ..
  refine awp_seq (R0 ?_)
  refine cuo h (fun (ro2:Bool)=>[(4,vb ro2)]) (fun (ro2:Bool)=>[]) (fun (so2:Unit)=>[]) (fun (so2:Unit)=>[]) (fun o2 h=>?_) (fun ro2 h=>?_) (fun so2 h=>?_)
  ·refine awp_selQ (LP 0 [0,1,5] (F78L1 p_a p_b) o2 (fun (c3:Int)=>pr [(0,.d (L70 p_a)),(1,.d (L70 p_b)),(5,vi c3)] []) fuel 0 h (fun _=>rfl) ?_)
   clear h
   intro n4 c3 h hrn4
   rw [F78L1] at h
   refine awp_seq (R0 ?_)
   refine cd h (fun hb5 h=>?_) (fun hb5 h=>?_)
   ·refine awp_skip ?_
    show awp ..
    refine awp_seq (awp_block ?_)
    obtain ⟨x6,hx6,h⟩:=ob h
    obtain ⟨x7,hx7,h⟩:=ob h
    refine DT 8 (.n 2 (.ix (idxOk cel70_len hx6) (.n 3 (.ix (idxOk cel70_len hx7) .nil)))) ?_
    refine cd h (fun hb8 h=>?_) (fun hb8 h=>?_)
    ·refine R0 ?_
     obtain rfl:=oi h
     exact awp_ret (gs [] [4] OutQ.ret)
    ·refine awp_skip ?_
     show awp ..
     refine X0 ?_
     exact gn 0 [0,1,5] (hrn4 _ h)
   ·refine awp_exit ?_
    obtain rfl:=oi h
    exact gs [] [] OutQ.norm
  ·obtain rfl:=oi h
   exact gm
  ·show awp ..
   refine EN ?_
   refine R0 ?_
   obtain rfl:=oi h
   exact awp_ret gm
theorem ct17 {fuel:Nat}   {res:Bool} (h:F17 fuel=some res):PCall Tryz.prog 17 [] (vb res):=by
 refine PCall.of_awp tt_ok (N:=138) Tryz.func17 rfl (by kernel_rfl) rfl (Nat.le_of_ble_eq_true rfl) rfl ?_
 unfold F17 at h
 refine EN ?_
 refine R0 ?_
 obtain ⟨x1,hx1,h⟩:=ob h
 refine RT (.pc (ct74 hx1) .nil) ?_
 obtain ⟨x2,hx2,h⟩:=ob h
 refine RT (.n 2 (.pc (ct24 hx2) .nil)) ?_
 obtain ⟨x3,hx3,h⟩:=ob h
 refine RT (.n 2 (.pc (ct25 hx3) .nil)) ?_
 obtain ⟨x4,hx4,h⟩:=ob h
 refine RT (.n 2 (.pc (ct75 hx4) .nil)) ?_
 obtain ⟨x5,hx5,h⟩:=ob h
 refine RT (.n 2 (.pc (ct29 hx5) .nil)) ?_
 obtain ⟨x6,hx6,h⟩:=ob h
 refine RT (.n 3 (.pc (ct76 hx6) .nil)) ?_
 obtain ⟨x7,hx7,h⟩:=ob h
 refine RT (.n 1 (.pc (ct21 hx7) .nil)) ?_
 obtain ⟨x8,hx8,h⟩:=ob h
 obtain ⟨x9,hx9,h⟩:=ob h
 refine RT (.pc (ct74 hx8) (.n 1 (.pc (ct29 hx9) .nil))) ?_
 refine WA 1 [(3,.d (L66 x2.1)),(4,vi x2.2),(5,.d (L3 x3.1)),(6,vi x3.2),(7,.d (L70 x4.1)),(8,vi x4.2),(9,.d (L3 x5.1)),(10,vi x5.2.1),(11,vi x5.2.2),(12,.d (L3 x6.1)),(13,vi x6.2),(14,.d (L3 x7.1)),(15,vi x7.2.1),(16,vi x7.2.2),(19,vi x9.2.2)] [.cells [.d (L66 x1.Borders),vi x1.Step,.d (L66 x1.Heights),.d (L70 x1.Sides),vi x1.Inks,.d (L70 x1.Like)]] ?_
 obtain ⟨x10,hx10,h⟩:=ob h
 obtain ⟨x11,hx11,h⟩:=ob h
 obtain ⟨x12,hx12,h⟩:=ob h
 obtain ⟨x13,hx13,h⟩:=ob h
 obtain ⟨x14,hx14,h⟩:=ob h
 obtain ⟨x15,hx15,h⟩:=ob h
 obtain ⟨x16,hx16,h⟩:=ob h
 obtain ⟨x17,hx17,h⟩:=ob h
 obtain ⟨x18,hx18,h⟩:=ob h
 obtain ⟨x19,hx19,h⟩:=ob h
 obtain ⟨x20,hx20,h⟩:=ob h
 obtain ⟨x21,hx21,h⟩:=ob h
 obtain ⟨x22,hx22,h⟩:=ob h
 refine EN ?_
 let g13:=(cond (x2.2==0) (x3.2==0) false)
 let g12:=(cond g13 (x4.2==0) false)
 let g11:=(cond g12 (x5.2.2==0) false)
 let g10:=(cond g11 (x6.2==0) false)
 let g9:=(cond g10 (x7.2.2==0) false)
 let g8:=(cond g9 (x9.2.2==9) false)
 let g7:=(cond g8 x15 false)
 let g6:=(cond g7 x16 false)
 let g5:=(cond g6 x19 false)
 let g4:=(cond g5 x20 false)
 let g3:=(cond g4 (x5.2.1==2) false)
 let g2:=(cond g3 x21 false)
 let g1:=(cond g2 x22 false)
 refine RT (.n 4 (.i (x2.2==0) (.n 1 (.i (x2.2==0) (.n 1 (.n 2 (.i g13 (.n 1 (.i g13 (.n 1 (.n 2 (.i g12 (.n 1 (.i g12 (.n 1 (.n 2 (.i g11 (.n 1 (.i g11 (.n 1 (.n 2 (.i g10 (.n 1 (.i g10 (.n 1 (.n 2 (.i g9 (.n 1 (.i g9 (.n 1 (.n 2 (.p (show (g8=true→PCall Tryz.prog 77 [(di 0),(di 0)] (.d (.agg [(di x10.Lo),(di x10.Hi)]))) from (fun hg=>ct77 (optG_of hx10 hg))) (.h (.call [(di 0),(di 0)] (.d (.agg [(di x10.Lo),(di x10.Hi)]))) (.p (show (g8=true→PCall Tryz.prog 77 [(di 0),(di 1)] (.d (.agg [(di x11.Lo),(di x11.Hi)]))) from (fun hg=>ct77 (optG_of hx11 hg))) (.h (.call [(di 0),(di 1)] (.d (.agg [(di x11.Lo),(di x11.Hi)]))) (.p (show (g8=true→PCall Tryz.prog 77 [(di 1),(di 1)] (.d (.agg [(di x12.Lo),(di x12.Hi)]))) from (fun hg=>ct77 (optG_of hx12 hg))) (.h (.call [(di 1),(di 1)] (.d (.agg [(di x12.Lo),(di x12.Hi)]))) (.p (show (g8=true→PCall Tryz.prog 77 [(di 1),(di 2)] (.d (.agg [(di x13.Lo),(di x13.Hi)]))) from (fun hg=>ct77 (optG_of hx13 hg))) (.h (.call [(di 1),(di 2)] (.d (.agg [(di x13.Lo),(di x13.Hi)]))) (.p (show (g8=true→PCall Tryz.prog 77 [(di 2),(di 2)] (.d (.agg [(di x14.Lo),(di x14.Hi)]))) from (fun hg=>ct77 (optG_of hx14 hg))) (.h (.call [(di 2),(di 2)] (.d (.agg [(di x14.Lo),(di x14.Hi)]))) (.i g8 (.i g8 (.i g8 (.i g8 (.i g8 (.n 1 (.i g8 (.i g8 (.p (show (g8=true→PCall Tryz.prog 15 [(L66 x2.1),(L66 ([(⟨x10.Lo,x10.Hi⟩:S_api_Span),(⟨x11.Lo,x11.Hi⟩:S_api_Span),(⟨x12.Lo,x12.Hi⟩:S_api_Span),(⟨x13.Lo,x13.Hi⟩:S_api_Span),(⟨x14.Lo,x14.Hi⟩:S_api_Span)]:List S_api_Span))] (vb x15)) from (fun hg=>ct15 (optG_of hx15 hg))) (.h (.call [(L66 x2.1),(L66 ([(⟨x10.Lo,x10.Hi⟩:S_api_Span),(⟨x11.Lo,x11.Hi⟩:S_api_Span),(⟨x12.Lo,x12.Hi⟩:S_api_Span),(⟨x13.Lo,x13.Hi⟩:S_api_Span),(⟨x14.Lo,x14.Hi⟩:S_api_Span)]:List S_api_Span))] (vb x15)) (.i g8 (.n 1 (.n 3 (.i g7 (.i g7 (.p (show (g7=true→PCall Tryz.prog 48 [(L3 x3.1),(L3 ([1,3]:List Int))] (vb x16)) from (fun hg=>ct48 (optG_of hx16 hg))) (.h (.call [(L3 x3.1),(L3 ([1,3]:List Int))] (vb x16)) (.i g7 (.n 1 (.n 2 (.p (show (g6=true→PCall Tryz.prog 79 [(di 0),(di 1)] (.d (.agg [(di x17.A),(di x17.B)]))) from (fun hg=>ct79 (optG_of hx17 hg))) (.h (.call [(di 0),(di 1)] (.d (.agg [(di x17.A),(di x17.B)]))) (.p (show (g6=true→PCall Tryz.prog 79 [(di 1),(di 2)] (.d (.agg [(di x18.A),(di x18.B)]))) from (fun hg=>ct79 (optG_of hx18 hg))) (.h (.call [(di 1),(di 2)] (.d (.agg [(di x18.A),(di x18.B)]))) (.i g6 (.i g6 (.n 1 (.i g6 (.i g6 (.p (show (g6=true→PCall Tryz.prog 78 [(L70 x4.1),(L70 ([(⟨x17.A,x17.B⟩:S_api_ClPair),(⟨x18.A,x18.B⟩:S_api_ClPair)]:List S_api_ClPair))] (vb x19)) from (fun hg=>ct78 (optG_of hx19 hg))) (.h (.call [(L70 x4.1),(L70 ([(⟨x17.A,x17.B⟩:S_api_ClPair),(⟨x18.A,x18.B⟩:S_api_ClPair)]:List S_api_ClPair))] (vb x19)) (.i g6 (.n 1 (.n 3 (.i g5 (.i g5 (.p (show (g5=true→PCall Tryz.prog 48 [(L3 x5.1),(L3 ([0,2,0]:List Int))] (vb x20)) from (fun hg=>ct48 (optG_of hx20 hg))) (.h (.call [(L3 x5.1),(L3 ([0,2,0]:List Int))] (vb x20)) (.i g5 (.n 1 (.n 2 (.i g4 (.n 1 (.i g4 (.n 1 (.n 3 (.i g3 (.i g3 (.p (show (g3=true→PCall Tryz.prog 48 [(L3 x6.1),(L3 ([0,1]:List Int))] (vb x21)) from (fun hg=>ct48 (optG_of hx21 hg))) (.h (.call [(L3 x6.1),(L3 ([0,1]:List Int))] (vb x21)) (.i g3 (.n 1 (.n 3 (.i g2 (.i g2 (.p (show (g2=true→PCall Tryz.prog 48 [(L3 x7.1),(L3 ([104,203]:List Int))] (vb x22)) from (fun hg=>ct48 (optG_of hx22 hg))) (.h (.call [(L3 x7.1),(L3 ([104,203]:List Int))] (vb x22)) (.i g2 (.n 1 (.n 2 (.i g1 (.n 1 (.i g1 (.n 1 .nil))))))))))))))))))))))))))))))))))))))))))))))))))))))))))))))))))))))))))))))))))))))))))))))))))))))))) ?_
 obtain rfl:=oi h
 exact awp_ret gm
end Go.Proofs.YtkcgfceihpampaaGreatDoor
