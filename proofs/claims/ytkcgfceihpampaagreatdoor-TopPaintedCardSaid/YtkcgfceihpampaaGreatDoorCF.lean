/- That functions of the seat compute this. Printed by a program of mine. -/
import Derived.Test.YtkcgfceihpampaaGreatDoorS
import Derived.Test.YtkcgfceihpampaaGreatDoorCE
import Derived.Test.YtkcgfceihpampaaGreatDoorDF
namespace Go.Proofs.YtkcgfceihpampaaGreatDoor
open Go Go.Sx
set_option maxRecDepth 100000
set_option linter.unusedVariables false
theorem ct82  {p_n:Int} {low:Int} {high:Int} {res:Bool} (h:F82 p_n low high=some res):PCall Tryz.prog 82 [(di p_n),(di low),(di high)] (vb res):=by
 refine PCall.of_awp tt_ok (N:=15) Tryz.func82 rfl (by kernel_rfl) rfl (Nat.le_of_ble_eq_true rfl) rfl ?_
 unfold F82 at h
 refine EN ?_
 refine R0 ?_
 let g1:=(decide (p_n≥low))
 refine RT (.n 6 (.i g1 (.i g1 (.n 1 (.i g1 (.n 1 .nil)))))) ?_
 obtain rfl:=oi h
 exact awp_ret gm
theorem ct84  {p:S_api_ClPair} {below:Int} {res:Int} (h:F84 p below=some res):PCall Tryz.prog 84 [(.agg [(di p.A),(di p.B)]),(di below)] (vi res):=by
 refine PCall.of_awp tt_ok (N:=24) Tryz.func84 rfl (by kernel_rfl) rfl (Nat.le_of_ble_eq_true rfl) rfl ?_
 unfold F84 at h
 refine EN ?_
 refine R0 ?_
 refine awp_seq ?_
 obtain ⟨x1,hx1,h⟩:=ob h
 obtain ⟨x2,hx2,h⟩:=ob h
 refine RT (.n 4 (.pc (ct82 hx1) (.n 3 (.i (!(!x1)) (.n 1 (.n 1 (.i (!(!x1)) (.n 1 (.i (!(!x1)) (.i (!(!x1)) (.p (show ((!(!x1))=true→PCall Tryz.prog 82 [(di p.B),(di 0),(di (w64 (below-1)))] (vb x2)) from (fun hg=>ct82 (optG_of hx2 hg))) (.h (.call [(di p.B),(di 0),(di (w64 (below-1)))] (vb x2)) (.i (!(!x1)) (.n 1 (.p (show ((!x1)=false→(!(!x1))=true) from not_of) (.n 1 .nil)))))))))))))))) ?_
 refine cd h (fun hb3 h=>?_) (fun hb3 h=>?_)
 ·refine R0 ?_
  obtain rfl:=oi h
  exact awp_ret gm
 ·refine awp_skip ?_
  show awp ..
  refine awp_seq (R0 ?_)
  refine cd h (fun hb4 h=>?_) (fun hb4 h=>?_)
  ·refine R0 ?_
   obtain rfl:=oi h
   exact awp_ret gm
  ·refine awp_skip ?_
   show awp ..
   refine R0 ?_
   obtain rfl:=oi h
   exact awp_ret gm
theorem ct20 {fuel:Nat}  {p_m:S_api_ClMap} {res:Int×Int×Int} (h:F20 fuel p_m=some res):PCall Tryz.prog 20 [(.agg [(L66 p_m.Borders),(di p_m.Step),(L66 p_m.Heights),(L70 p_m.Sides),(di p_m.Inks),(L70 p_m.Like)])] (.tup [vi res.1,vi res.2.1,vi res.2.2]):=by
 refine PCall.of_awp tt_ok (N:=138) Tryz.func20 rfl (by kernel_rfl) rfl (Nat.le_of_ble_eq_true rfl) rfl ?_
 unfold F20 at h
 refine EN ?_
 refine R0 ?_
 refine awp_seq ?_
 obtain ⟨x1,hx1,h⟩:=ob h
 obtain ⟨x2,hx2,h⟩:=ob h
 let g2 := !(cond (!x1) true (!x2))
 let g1 := !(cond (cond (!x1) true (!x2)) true (decide ((p_m.Sides.length:Int)>10)))
 refine RT (.n 3 (.pc (ct82 hx1) (.n 3 (.i (!(!x1)) (.n 1 (.i (!(!x1)) (.n 1 (.i (!(!x1)) (.p (show ((!(!x1))=true→PCall Tryz.prog 82 [(di (p_m.Heights.length:Int)),(di 1),(di 8)] (vb x2)) from (fun hg=>ct82 (optG_of hx2 hg))) (.h (.call [(di (p_m.Heights.length:Int)),(di 1),(di 8)] (vb x2)) (.i (!(!x1)) (.n 1 (.p (show ((!x1)=false→(!(!x1))=true) from not_of) (.n 1 (.n 2 (.i g2 (.n 1 (.i g2 (.n 1 (.i g2 (.n 1 (.p (show ((cond (!x1) true (!x2))=false→(!(cond (!x1) true (!x2)))=true) from not_of) (.n 1 (.n 2 (.i g1 (.n 1 (.i g1 (.n 1 (.i g1 (.n 1 (.p (show ((cond (cond (!x1) true (!x2)) true (decide ((p_m.Sides.length:Int)>10)))=false→(!(cond (cond (!x1) true (!x2)) true (decide ((p_m.Sides.length:Int)>10))))=true) from not_of) (.n 1 .nil)))))))))))))))))))))))))))))))) ?_
 refine cd h (fun hb3 h=>?_) (fun hb3 h=>?_)
 ·refine R0 ?_
  obtain rfl:=oi h
  exact awp_ret gm
 ·refine awp_skip ?_
  show awp ..
  refine awp_seq ?_
  obtain ⟨x4,hx4,h⟩:=ob h
  obtain ⟨x5,hx5,h⟩:=ob h
  refine RT (.n 2 (.pc (ct82 hx4) (.n 3 (.i (!(!x4)) (.n 1 (.i (!(!x4)) (.p (show ((!(!x4))=true→PCall Tryz.prog 82 [(di p_m.Inks),(di 1),(di 6)] (vb x5)) from (fun hg=>ct82 (optG_of hx5 hg))) (.h (.call [(di p_m.Inks),(di 1),(di 6)] (vb x5)) (.i (!(!x4)) (.n 1 (.p (show ((!x4)=false→(!(!x4))=true) from not_of) (.n 1 .nil)))))))))))) ?_
  refine cd h (fun hb6 h=>?_) (fun hb6 h=>?_)
  ·refine R0 ?_
   obtain rfl:=oi h
   exact awp_ret gm
  ·refine awp_skip ?_
   show awp ..
   refine awp_seq (R0 ?_)
   refine cuo h (fun (ro7:Int×Int×Int)=>[(2,vi ro7.1),(3,vi ro7.2.1),(4,vi ro7.2.2)]) (fun (ro7:Int×Int×Int)=>[]) (fun (so7:Unit)=>[(1,rf 0)]) (fun (so7:Unit)=>[.cells [.d (L66 p_m.Borders),vi p_m.Step,.d (L66 p_m.Heights),.d (L70 p_m.Sides),vi p_m.Inks,.d (L70 p_m.Like)]]) (fun o7 h=>?_) (fun ro7 h=>?_) (fun so7 h=>?_)
   ·refine awp_selQ (LP 1 [1,5] (F20L1 fuel p_m) o7 (fun (c8:Int)=>pr [(1,rf 0),(5,vi c8)] [.cells [.d (L66 p_m.Borders),vi p_m.Step,.d (L66 p_m.Heights),.d (L70 p_m.Sides),vi p_m.Inks,.d (L70 p_m.Like)]]) fuel 0 h (fun _=>rfl) ?_)
    clear h
    intro n9 c8 h hrn9
    rw [F20L1] at h
    refine awp_seq (R0 ?_)
    refine cd h (fun hb10 h=>?_) (fun hb10 h=>?_)
    ·refine awp_skip ?_
     show awp ..
     refine awp_seq (awp_block ?_)
     obtain ⟨x11,hx11,h⟩:=ob h
     obtain ⟨x12,hx12,h⟩:=ob h
     refine RT (.n 3 (.ix (idxOk cel66_len hx11) (.n 1 (.pc (ct83 hx12) .nil)))) ?_
     refine awp_seq ?_
     obtain ⟨x13,hx13,h⟩:=ob h
     obtain ⟨x14,hx14,h⟩:=ob h
     refine DT 16 (.n 4 (.i (x12==0) (.n 1 (.n 1 (.i (x12==0) (.i (x12==0) (.p (show ((x12==0)=true→IX66 p_m.Borders c8 x13) from (fun hg=>idxOk cel66_len (optG_of hx13 hg))) (.h (.cells (cel66 x13)) (.i (x12==0) (.n 1 (.i (x12==0) (.n 1 (.n 1 (.i (x12==0) (.n 1 (.n 1 (.i (x12==0) (.i (x12==0) (.p (show ((x12==0)=true→IX66 p_m.Borders c8 x14) from (fun hg=>idxOk cel66_len (optG_of hx14 hg))) (.h (.cells (cel66 x14)) (.i (x12==0) (.n 1 (.i (x12==0) (.n 1 (.i (x12==0) (.n 1 (.i (x12==0) (.i (x12==0) (.n 1 (.i (x12==0) (.n 1 .nil))))))))))))))))))))))))))))))) ?_
     refine cuo h (fun (ro15:Int×Int×Int)=>[(2,vi ro15.1),(3,vi ro15.2.1),(4,vi ro15.2.2)]) (fun (ro15:Int×Int×Int)=>[]) (fun (so15:Int)=>[(1,rf 0),(5,vi c8),(6,vi so15)]) (fun (so15:Int)=>[.cells [.d (L66 p_m.Borders),vi p_m.Step,.d (L66 p_m.Heights),.d (L70 p_m.Sides),vi p_m.Inks,.d (L70 p_m.Like)]]) (fun o15 h=>?_) (fun ro15 h=>?_) (fun so15 h=>?_)
     ·refine awp_selQ (cd h (fun hb16 h=>?_) (fun hb16 h=>?_))
      ·refine X0 ?_
       obtain rfl:=oi h
       exact gs [0] [1,5,6] OutQ.norm
      ·refine awp_skip ?_
       obtain rfl:=oi h
       exact gs [0] [1,5,6] OutQ.norm
     ·obtain rfl:=oi h
      exact gs [] [2,3,4] OutQ.ret
     ·show awp ..
      refine EN ?_
      refine R0 ?_
      refine cd h (fun hb17 h=>?_) (fun hb17 h=>?_)
      ·refine R0 ?_
       obtain rfl:=oi h
       exact awp_ret (gs [] [2,3,4] OutQ.ret)
      ·refine awp_skip ?_
       show awp ..
       refine X0 ?_
       exact gn 1 [1,5] (hrn9 _ h)
    ·refine awp_exit ?_
     obtain rfl:=oi h
     exact gs [0] [1] OutQ.norm
   ·obtain rfl:=oi h
    exact gm
   ·show awp ..
    refine awp_seq (EN ?_)
    refine R0 ?_
    refine cuo h (fun (ro18:Int×Int×Int)=>[(2,vi ro18.1),(3,vi ro18.2.1),(4,vi ro18.2.2)]) (fun (ro18:Int×Int×Int)=>[]) (fun (so18:Unit)=>[(1,rf 0)]) (fun (so18:Unit)=>[.cells [.d (L66 p_m.Borders),vi p_m.Step,.d (L66 p_m.Heights),.d (L70 p_m.Sides),vi p_m.Inks,.d (L70 p_m.Like)]]) (fun o18 h=>?_) (fun ro18 h=>?_) (fun so18 h=>?_)
    ·refine awp_selQ (LP 1 [1,7] (F20L2 fuel p_m) o18 (fun (c19:Int)=>pr [(1,rf 0),(7,vi c19)] [.cells [.d (L66 p_m.Borders),vi p_m.Step,.d (L66 p_m.Heights),.d (L70 p_m.Sides),vi p_m.Inks,.d (L70 p_m.Like)]]) fuel 0 h (fun _=>rfl) ?_)
     clear h
     intro n20 c19 h hrn20
     rw [F20L2] at h
     refine awp_seq (R0 ?_)
     refine cd h (fun hb21 h=>?_) (fun hb21 h=>?_)
     ·refine awp_skip ?_
      show awp ..
      refine awp_seq (awp_block ?_)
      obtain ⟨x22,hx22,h⟩:=ob h
      obtain ⟨x23,hx23,h⟩:=ob h
      refine RT (.n 3 (.ix (idxOk cel66_len hx22) (.n 1 (.pc (ct83 hx23) .nil)))) ?_
      refine R0 ?_
      refine cd h (fun hb24 h=>?_) (fun hb24 h=>?_)
      ·refine R0 ?_
       obtain rfl:=oi h
       exact awp_ret (gs [] [2,3,4] OutQ.ret)
      ·refine awp_skip ?_
       show awp ..
       refine X0 ?_
       exact gn 1 [1,7] (hrn20 _ h)
     ·refine awp_exit ?_
      obtain rfl:=oi h
      exact gs [0] [1] OutQ.norm
    ·obtain rfl:=oi h
     exact gm
    ·show awp ..
     refine awp_seq (EN ?_)
     refine R0 ?_
     refine cuo h (fun (ro25:Int×Int×Int)=>[(2,vi ro25.1),(3,vi ro25.2.1),(4,vi ro25.2.2)]) (fun (ro25:Int×Int×Int)=>[]) (fun (so25:Unit)=>[(1,rf 0)]) (fun (so25:Unit)=>[.cells [.d (L66 p_m.Borders),vi p_m.Step,.d (L66 p_m.Heights),.d (L70 p_m.Sides),vi p_m.Inks,.d (L70 p_m.Like)]]) (fun o25 h=>?_) (fun ro25 h=>?_) (fun so25 h=>?_)
     ·refine awp_selQ (LP 1 [1,9] (F20L3 p_m) o25 (fun (c26:Int)=>pr [(1,rf 0),(9,vi c26)] [.cells [.d (L66 p_m.Borders),vi p_m.Step,.d (L66 p_m.Heights),.d (L70 p_m.Sides),vi p_m.Inks,.d (L70 p_m.Like)]]) fuel 0 h (fun _=>rfl) ?_)
      clear h
      intro n27 c26 h hrn27
      rw [F20L3] at h
      refine awp_seq (R0 ?_)
      refine cd h (fun hb28 h=>?_) (fun hb28 h=>?_)
      ·refine awp_skip ?_
       show awp ..
       refine awp_seq (awp_block ?_)
       obtain ⟨x29,hx29,h⟩:=ob h
       obtain ⟨x30,hx30,h⟩:=ob h
       refine DT 8 (.n 3 (.ix (idxOk cel70_len hx29) (.n 4 (.pc (ct84 hx30) .nil)))) ?_
       refine R0 ?_
       refine cd h (fun hb31 h=>?_) (fun hb31 h=>?_)
       ·refine R0 ?_
        obtain rfl:=oi h
        exact awp_ret (gs [] [2,3,4] OutQ.ret)
       ·refine awp_skip ?_
        show awp ..
        refine X0 ?_
        exact gn 1 [1,9] (hrn27 _ h)
      ·refine awp_exit ?_
       obtain rfl:=oi h
       exact gs [0] [1] OutQ.norm
     ·obtain rfl:=oi h
      exact gm
     ·show awp ..
      refine awp_seq (EN ?_)
      refine R0 ?_
      refine cuo h (fun (ro32:Int×Int×Int)=>[(2,vi ro32.1),(3,vi ro32.2.1),(4,vi ro32.2.2)]) (fun (ro32:Int×Int×Int)=>[]) (fun (so32:Unit)=>[]) (fun (so32:Unit)=>[.cells [.d (L66 p_m.Borders),vi p_m.Step,.d (L66 p_m.Heights),.d (L70 p_m.Sides),vi p_m.Inks,.d (L70 p_m.Like)]]) (fun o32 h=>?_) (fun ro32 h=>?_) (fun so32 h=>?_)
      ·refine awp_selQ (LP 1 [1,11] (F20L4 p_m) o32 (fun (c33:Int)=>pr [(1,rf 0),(11,vi c33)] [.cells [.d (L66 p_m.Borders),vi p_m.Step,.d (L66 p_m.Heights),.d (L70 p_m.Sides),vi p_m.Inks,.d (L70 p_m.Like)]]) fuel 0 h (fun _=>rfl) ?_)
       clear h
       intro n34 c33 h hrn34
       rw [F20L4] at h
       refine awp_seq (R0 ?_)
       refine cd h (fun hb35 h=>?_) (fun hb35 h=>?_)
       ·refine awp_skip ?_
        show awp ..
        refine awp_seq (awp_block ?_)
        obtain ⟨x36,hx36,h⟩:=ob h
        obtain ⟨x37,hx37,h⟩:=ob h
        refine DT 7 (.n 3 (.ix (idxOk cel70_len hx36) (.n 3 (.pc (ct84 hx37) .nil)))) ?_
        refine R0 ?_
        refine cd h (fun hb38 h=>?_) (fun hb38 h=>?_)
        ·refine R0 ?_
         obtain rfl:=oi h
         exact awp_ret (gs [] [2,3,4] OutQ.ret)
        ·refine awp_skip ?_
         show awp ..
         refine X0 ?_
         exact gn 1 [1,11] (hrn34 _ h)
       ·refine awp_exit ?_
        obtain rfl:=oi h
        exact gs [0] [] OutQ.norm
      ·obtain rfl:=oi h
       exact gm
      ·show awp ..
       refine EN ?_
       refine R0 ?_
       obtain rfl:=oi h
       exact awp_ret gm
theorem ct89  {l:(List Int)} {p_n:Int} {res:Int} (h:F89 l p_n=some res):PCall Tryz.prog 89 [(L181 l),(di p_n)] (vi res):=by
 refine PCall.of_awp tt_ok (N:=16) Tryz.func89 rfl (by kernel_rfl) rfl (Nat.le_of_ble_eq_true rfl) rfl ?_
 unfold F89 at h
 refine EN ?_
 refine R0 ?_
 refine awp_seq (R0 ?_)
 refine cd h (fun hb1 h=>?_) (fun hb1 h=>?_)
 ·refine R0 ?_
  obtain rfl:=oi h
  exact awp_ret gm
 ·refine awp_skip ?_
  show awp ..
  obtain ⟨x2,hx2,h⟩:=ob h
  obtain ⟨x3,hx3,h⟩:=ob h
  refine RT (.n 4 (.p (need_of hx2:(l.length:Int)≠0) (.n 1 (.ix (idxOk cel181_len hx3) .nil)))) ?_
  obtain rfl:=oi h
  exact awp_ret gm
theorem ct88  {p_s:S_api_Span} {p_n:Int} {res:Int} (h:F88 p_s p_n=some res):PCall Tryz.prog 88 [(.agg [(di p_s.Lo),(di p_s.Hi)]),(di p_n)] (vi res):=by
 refine PCall.of_awp tt_ok (N:=16) Tryz.func88 rfl (by kernel_rfl) rfl (Nat.le_of_ble_eq_true rfl) rfl ?_
 unfold F88 at h
 refine EN ?_
 refine R0 ?_
 obtain ⟨x1,hx1,h⟩:=ob h
 refine DT 10 (.n 9 (.p (need_of hx1:(w64 ((w64 (p_s.Hi-p_s.Lo))+1))≠0) (.n 1 .nil))) ?_
 obtain rfl:=oi h
 exact awp_ret gm
theorem ct22 {fuel:Nat}  {p_m:S_api_ClMap} {p_x:(List Int)} {res:(List Int)} (h:F22 fuel p_m p_x=some res):PCall Tryz.prog 22 [(.agg [(L66 p_m.Borders),(di p_m.Step),(L66 p_m.Heights),(L70 p_m.Sides),(di p_m.Inks),(L70 p_m.Like)]),(L181 p_x)] (.d (L3 res)):=by
 refine PCall.of_awp tt_ok (N:=56) Tryz.func22 rfl (by kernel_rfl) rfl (Nat.le_of_ble_eq_true rfl) rfl ?_
 unfold F22 at h
 refine EN ?_
 refine R0 ?_
 refine R0 ?_
 refine awp_seq (R0 ?_)
 refine WA 1 [(1,.d (L181 p_x)),(2,rf 0),(5,.d dnil),(6,vi 0)] [.cells [.d (L66 p_m.Borders),vi p_m.Step,.d (L66 p_m.Heights),.d (L70 p_m.Sides),vi p_m.Inks,.d (L70 p_m.Like)]] ?_
 refine awp_nil 5 1 (by kernel_rfl) ?_
 refine awp_eq (T':=[(5,.sl 1 1 0 ([]:List Int).length),(1,.d (L181 p_x)),(2,rf 0),(6,vi 0)]) (H':=[.cells [.d (L66 p_m.Borders),vi p_m.Step,.d (L66 p_m.Heights),.d (L70 p_m.Sides),vi p_m.Inks,.d (L70 p_m.Like)],.data (([]:List Int).flatMap cel3)]) (by kernel_rfl) (by kernel_rfl) ?_
 refine WA 2 [(1,.d (L181 p_x)),(2,rf 0),(5,.sl 1 1 0 ([]:List Int).length),(6,vi 0)] [.cells [.d (L66 p_m.Borders),vi p_m.Step,.d (L66 p_m.Heights),.d (L70 p_m.Sides),vi p_m.Inks,.d (L70 p_m.Like)],.data (([]:List Int).flatMap cel3)] ?_
 refine cuo h (fun (ro2:(List Int))=>[(4,.d (L3 ro2))]) (fun (ro2:(List Int))=>[]) (fun (so2:(List Int))=>[(5,.sl 1 1 0 so2.length)]) (fun (so2:(List Int))=>[.cells [.d (L66 p_m.Borders),vi p_m.Step,.d (L66 p_m.Heights),.d (L70 p_m.Sides),vi p_m.Inks,.d (L70 p_m.Like)],.data (so2.flatMap cel3)]) (fun o2 h=>?_) (fun ro2 h=>?_) (fun so2 h=>?_)
 ·refine awp_selQ (EN ?_)
  refine LP 2 [1,2,5,6] (F22L1 p_m p_x) o2 (fun (c3:Int×(List Int))=>pr [(1,.d (L181 p_x)),(2,rf 0),(5,.sl 1 1 0 c3.2.length),(6,vi c3.1)] [.cells [.d (L66 p_m.Borders),vi p_m.Step,.d (L66 p_m.Heights),.d (L70 p_m.Sides),vi p_m.Inks,.d (L70 p_m.Like)],.data (c3.2.flatMap cel3)]) fuel (0,([]:List Int)) h (fun _=>rfl) ?_
  clear h
  intro n4 c3 h hrn4
  rw [F22L1] at h
  refine awp_seq (R0 ?_)
  refine cd h (fun hb5 h=>?_) (fun hb5 h=>?_)
  ·refine awp_skip ?_
   show awp ..
   refine awp_seq (awp_block ?_)
   obtain ⟨x6,hx6,h⟩:=ob h
   refine RT (.n 3 (.ix (idxOk cel66_len hx6) .nil)) ?_
   refine awp_seq ?_
   obtain ⟨x7,hx7,h⟩:=ob h
   let g1:=(decide (c3.1>0))
   refine DT 13 (.n 5 (.i g1 (.n 1 (.i g1 (.i g1 (.p (show (g1=true→(0≤(w64 (c3.1-1))∧(w64 (c3.1-1))<(c3.2.length:Int))) from (fun hg=>idx_bounds (optG_of hx7 hg))) (.n 1 (.i g1 (.p (show (g1=true→LoadOk ((c3.2.flatMap cel3).map .d) (0+(w64 (c3.1-1)).toNat*1) 1 (([(di x7)]:List D).map .d)) from (fun hg=>loadOk (j:=0) (es:=([(di x7)]:List D)) cel3_len (optG_of hx7 hg) rfl rfl rfl (Nat.le_of_ble_eq_true rfl))) (.h (.vals (([(di x7)]:List D).map .d)) (.n 1 (.i g1 (.n 1 (.i g1 (.i g1 (.n 1 (.n 1 (.i g1 (.n 1 (.i g1 (.i g1 (.n 1 (.i g1 (.n 1 .nil)))))))))))))))))))))))) ?_
   refine cd h (fun hb8 h=>?_) (fun hb8 h=>?_)
   ·obtain ⟨x9,hx9,h⟩:=ob h
    refine ET 10 (.n 5 (.p (show (0≤(w64 (c3.1-1))∧(w64 (c3.1-1))<(c3.2.length:Int)) from idx_bounds hx9) (.n 1 (.p (show LoadOk ((c3.2.flatMap cel3).map .d) (0+(w64 (c3.1-1)).toNat*1) 1 (([(di x9)]:List D).map .d) from loadOk (j:=0) (es:=([(di x9)]:List D)) cel3_len hx9 rfl rfl rfl (Nat.le_of_ble_eq_true rfl)) (.h (.vals (([(di x9)]:List D).map .d)) .nil))))) ?_
    show awp ..
    obtain ⟨x10,hx10,h⟩:=ob h
    obtain ⟨x11,hx11,h⟩:=ob h
    obtain ⟨x12,hx12,h⟩:=ob h
    refine ET 7 (.n 4 (.pc (ct89 hx10) (.pc (ct88 hx11) (.n 1 (.ap (appendOk cel3_len (need_of hx12)) .nil))))) ?_
    show awp ..
    refine X0 ?_
    exact gn 2 [1,2,5,6] (hrn4 _ h)
   ·refine awp_skip ?_
    show awp ..
    obtain ⟨x13,hx13,h⟩:=ob h
    obtain ⟨x14,hx14,h⟩:=ob h
    obtain ⟨x15,hx15,h⟩:=ob h
    refine ET 7 (.n 4 (.pc (ct89 hx13) (.pc (ct88 hx14) (.n 1 (.ap (appendOk cel3_len (need_of hx15)) .nil))))) ?_
    show awp ..
    refine X0 ?_
    exact gn 2 [1,2,5,6] (hrn4 _ h)
  ·refine awp_exit ?_
   obtain rfl:=oi h
   exact gs [0,1] [5] OutQ.norm
 ·obtain rfl:=oi h
  exact gm
 ·show awp ..
  refine EN ?_
  refine R0 ?_
  obtain rfl:=oi h
  refine WA 2 [(4,.sl 1 1 0 so2.length)] [.cells [.d (L66 p_m.Borders),vi p_m.Step,.d (L66 p_m.Heights),.d (L70 p_m.Sides),vi p_m.Inks,.d (L70 p_m.Like)],.data (so2.flatMap cel3)] ?_
  refine awp_freeze 4 1 (so2.flatMap cel3) (.sl 1 1 0 so2.length) (.d (L3 so2)) _ _ (ps:=[(so2.flatMap cel3).length=so2.length*1]) (by kernel_rfl) (by kernel_rfl) (by kernel_rfl) (flatMap_len cel3 1 cel3_len so2) rfl rfl ?_
  refine WA 2 [(4,.d (L3 so2))] [.cells [.d (L66 p_m.Borders),vi p_m.Step,.d (L66 p_m.Heights),.d (L70 p_m.Sides),vi p_m.Inks,.d (L70 p_m.Like)],.data (([]:List Int).flatMap cel3)] ?_
  exact awp_ret gm
theorem ct23 {fuel:Nat}  {p_m:S_api_ClMap} {legend:(List Int)} {res:Int×Int} (h:F23 fuel p_m legend=some res):PCall Tryz.prog 23 [(.agg [(L66 p_m.Borders),(di p_m.Step),(L66 p_m.Heights),(L70 p_m.Sides),(di p_m.Inks),(L70 p_m.Like)]),(L3 legend)] (.tup [vi res.1,vi res.2]):=by
 refine PCall.of_awp tt_ok (N:=72) Tryz.func23 rfl (by kernel_rfl) rfl (Nat.le_of_ble_eq_true rfl) rfl ?_
 unfold F23 at h
 refine EN ?_
 refine R0 ?_
 obtain ⟨x1,hx1,h⟩:=ob h
 refine RT (.n 1 (.pc (ct20 hx1) .nil)) ?_
 refine awp_seq ?_
 let g1:=(x1.2.2==0)
 refine RT (.n 4 (.i g1 (.n 1 (.n 1 (.i g1 (.n 1 (.i g1 (.n 1 (.i g1 (.i g1 (.n 1 (.i g1 (.n 1 .nil))))))))))))) ?_
 refine cuo h (fun (ro2:Int×Int)=>[(4,vi ro2.1),(5,vi ro2.2)]) (fun (ro2:Int×Int)=>[]) (fun (so2:Int)=>[(1,.d (L3 legend)),(2,rf 0),(8,vi so2)]) (fun (so2:Int)=>[.cells [.d (L66 p_m.Borders),vi p_m.Step,.d (L66 p_m.Heights),.d (L70 p_m.Sides),vi p_m.Inks,.d (L70 p_m.Like)]]) (fun o2 h=>?_) (fun ro2 h=>?_) (fun so2 h=>?_)
 ·refine awp_selQ (cd h (fun hb3 h=>?_) (fun hb3 h=>?_))
  ·refine X0 ?_
   obtain rfl:=oi h
   exact gs [0] [1,2,8] OutQ.norm
  ·refine awp_skip ?_
   obtain rfl:=oi h
   exact gs [0] [1,2,8] OutQ.norm
 ·obtain rfl:=oi h
  exact gm
 ·show awp ..
  refine awp_seq (EN ?_)
  refine R0 ?_
  refine cd h (fun hb4 h=>?_) (fun hb4 h=>?_)
  ·refine R0 ?_
   obtain rfl:=oi h
   exact awp_ret gm
  ·refine awp_skip ?_
   show awp ..
   refine awp_seq (R0 ?_)
   refine cuo h (fun (ro5:Int×Int)=>[(4,vi ro5.1),(5,vi ro5.2)]) (fun (ro5:Int×Int)=>[]) (fun (so5:Unit)=>[]) (fun (so5:Unit)=>[.cells [.d (L66 p_m.Borders),vi p_m.Step,.d (L66 p_m.Heights),.d (L70 p_m.Sides),vi p_m.Inks,.d (L70 p_m.Like)]]) (fun o5 h=>?_) (fun ro5 h=>?_) (fun so5 h=>?_)
   ·refine awp_selQ (LP 1 [1,2,9] (F23L1 p_m legend) o5 (fun (c6:Int)=>pr [(1,.d (L3 legend)),(2,rf 0),(9,vi c6)] [.cells [.d (L66 p_m.Borders),vi p_m.Step,.d (L66 p_m.Heights),.d (L70 p_m.Sides),vi p_m.Inks,.d (L70 p_m.Like)]]) fuel 0 h (fun _=>rfl) ?_)
    clear h
    intro n7 c6 h hrn7
    rw [F23L1] at h
    refine awp_seq (R0 ?_)
    refine cd h (fun hb8 h=>?_) (fun hb8 h=>?_)
    ·refine awp_skip ?_
     show awp ..
     refine awp_seq (awp_block ?_)
     refine awp_seq ?_
     obtain ⟨x9,hx9,h⟩:=ob h
     obtain ⟨x10,hx10,h⟩:=ob h
     obtain ⟨x11,hx11,h⟩:=ob h
     obtain ⟨x12,hx12,h⟩:=ob h
     refine DT 16 (.n 2 (.ix (idxOk cel3_len hx9) (.n 4 (.ix (idxOk cel66_len hx10) (.n 5 (.ix (idxOk cel66_len hx11) (.n 2 (.pc (ct82 hx12) .nil)))))))) ?_
     refine cd h (fun hb13 h=>?_) (fun hb13 h=>?_)
     ·refine R0 ?_
      obtain rfl:=oi h
      exact awp_ret (gs [] [4,5] OutQ.ret)
     ·refine awp_skip ?_
      show awp ..
      obtain ⟨x14,hx14,h⟩:=ob h
      obtain ⟨x15,hx15,h⟩:=ob h
      let g1:=(decide (c6>0))
      refine DT 15 (.n 5 (.i g1 (.i g1 (.p (show (g1=true→IX3 legend c6 x14) from (fun hg=>idxOk cel3_len (optG_of hx14 hg))) (.h (.cells (cel3 x14)) (.i g1 (.n 1 (.n 2 (.i g1 (.n 1 (.i g1 (.i g1 (.p (show (g1=true→IX3 legend (w64 (c6-1)) x15) from (fun hg=>idxOk cel3_len (optG_of hx15 hg))) (.h (.cells (cel3 x15)) (.i g1 (.n 1 (.n 1 (.i g1 (.n 1 (.i g1 (.i g1 (.n 1 (.i g1 (.i g1 (.n 1 (.i g1 (.n 1 .nil))))))))))))))))))))))))))) ?_
      refine cd h (fun hb16 h=>?_) (fun hb16 h=>?_)
      ·refine R0 ?_
       obtain rfl:=oi h
       exact awp_ret (gs [] [4,5] OutQ.ret)
      ·refine awp_skip ?_
       show awp ..
       refine X0 ?_
       exact gn 1 [1,2,9] (hrn7 _ h)
    ·refine awp_exit ?_
     obtain rfl:=oi h
     exact gs [0] [] OutQ.norm
   ·obtain rfl:=oi h
    exact gm
   ·show awp ..
    refine EN ?_
    refine R0 ?_
    obtain rfl:=oi h
    exact awp_ret gm
theorem ct26 {fuel:Nat}  {legend:(List Int)} {high:Int} {res:Int} (h:F26 fuel legend high=some res):PCall Tryz.prog 26 [(L3 legend),(di high)] (vi res):=by
 refine PCall.of_awp tt_ok (N:=21) Tryz.func26 rfl (by kernel_rfl) rfl (Nat.le_of_ble_eq_true rfl) rfl ?_
 unfold F26 at h
 refine EN ?_
 refine R0 ?_
 refine R0 ?_
 refine awp_seq ?_
 refine cuo h (fun (ro1:Int)=>[(4,vi ro1)]) (fun (ro1:Int)=>[]) (fun (so1:Int)=>[(5,vi so1)]) (fun (so1:Int)=>[]) (fun o1 h=>?_) (fun ro1 h=>?_) (fun so1 h=>?_)
 ·refine awp_selQ (LP 0 [0,1,5] (F26L1 legend high) o1 (fun (c2:Int)=>pr [(0,.d (L3 legend)),(1,vi high),(5,vi c2)] []) fuel 0 h (fun _=>rfl) ?_)
  clear h
  intro n3 c2 h hrn3
  rw [F26L1] at h
  refine awp_seq ?_
  obtain ⟨x4,hx4,h⟩:=ob h
  let g1:=(decide (c2<(legend.length:Int)))
  refine RT (.n 7 (.i g1 (.i g1 (.p (show (g1=true→IX3 legend c2 x4) from (fun hg=>idxOk cel3_len (optG_of hx4 hg))) (.h (.cells (cel3 x4)) (.i g1 (.n 1 (.n 1 (.i g1 (.i g1 (.n 1 (.i g1 (.n 1 .nil))))))))))))) ?_
  refine cd h (fun hb5 h=>?_) (fun hb5 h=>?_)
  ·refine awp_skip ?_
   show awp ..
   refine awp_block (X0 ?_)
   exact gn 0 [0,1,5] (hrn3 _ h)
  ·refine awp_exit ?_
   obtain rfl:=oi h
   exact gs [] [5] OutQ.norm
 ·obtain rfl:=oi h
  exact gm
 ·show awp ..
  refine EN ?_
  refine R0 ?_
  obtain rfl:=oi h
  exact awp_ret gm
theorem ct27  {p_n:Int} {p_s:S_api_Span} {res:Bool} (h:F27 p_n p_s=some res):PCall Tryz.prog 27 [(di p_n),(.agg [(di p_s.Lo),(di p_s.Hi)])] (vb res):=by
 refine PCall.of_awp tt_ok (N:=11) Tryz.func27 rfl (by kernel_rfl) rfl (Nat.le_of_ble_eq_true rfl) rfl ?_
 unfold F27 at h
 refine EN ?_
 refine R0 ?_
 obtain ⟨x1,hx1,h⟩:=ob h
 refine RT (.n 5 (.pc (ct71 hx1) .nil)) ?_
 obtain rfl:=oi h
 exact awp_ret gm
theorem ct28 {fuel:Nat}  {l:(List Int)} {p_n:Int} {res:Bool} (h:F28 fuel l p_n=some res):PCall Tryz.prog 28 [(L3 l),(di p_n)] (vb res):=by
 refine PCall.of_awp tt_ok (N:=18) Tryz.func28 rfl (by kernel_rfl) rfl (Nat.le_of_ble_eq_true rfl) rfl ?_
 unfold F28 at h
 refine EN ?_
 refine R0 ?_
 refine awp_seq (R0 ?_)
 refine cuo h (fun (ro1:Bool)=>[(4,vb ro1)]) (fun (ro1:Bool)=>[]) (fun (so1:Unit)=>[]) (fun (so1:Unit)=>[]) (fun o1 h=>?_) (fun ro1 h=>?_) (fun so1 h=>?_)
 ·refine awp_selQ (LP 0 [0,1,5] (F28L1 l p_n) o1 (fun (c2:Int)=>pr [(0,.d (L3 l)),(1,vi p_n),(5,vi c2)] []) fuel 0 h (fun _=>rfl) ?_)
  clear h
  intro n3 c2 h hrn3
  rw [F28L1] at h
  refine awp_seq (R0 ?_)
  refine cd h (fun hb4 h=>?_) (fun hb4 h=>?_)
  ·refine awp_skip ?_
   show awp ..
   refine awp_seq (awp_block ?_)
   obtain ⟨x5,hx5,h⟩:=ob h
   refine RT (.n 2 (.ix (idxOk cel3_len hx5) .nil)) ?_
   refine cd h (fun hb6 h=>?_) (fun hb6 h=>?_)
   ·refine R0 ?_
    obtain rfl:=oi h
    exact awp_ret (gs [] [4] OutQ.ret)
   ·refine awp_skip ?_
    show awp ..
    refine X0 ?_
    exact gn 0 [0,1,5] (hrn3 _ h)
  ·refine awp_exit ?_
   obtain rfl:=oi h
   exact gs [] [] OutQ.norm
 ·obtain rfl:=oi h
  exact gm
 ·show awp ..
  refine EN ?_
  refine R0 ?_
  obtain rfl:=oi h
  exact awp_ret gm
end Go.Proofs.YtkcgfceihpampaaGreatDoor
