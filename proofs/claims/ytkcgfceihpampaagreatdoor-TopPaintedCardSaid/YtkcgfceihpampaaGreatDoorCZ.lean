/- That functions of the seat compute this. Printed by a program of mine. -/
import Derived.Test.YtkcgfceihpampaaGreatDoorS
import Derived.Test.YtkcgfceihpampaaGreatDoorCD
import Derived.Test.YtkcgfceihpampaaGreatDoorCE
import Derived.Test.YtkcgfceihpampaaGreatDoorCF
import Derived.Test.YtkcgfceihpampaaGreatDoorCG
import Derived.Test.YtkcgfceihpampaaGreatDoorCH
import Derived.Test.YtkcgfceihpampaaGreatDoorCI
import Derived.Test.YtkcgfceihpampaaGreatDoorCW
import Derived.Test.YtkcgfceihpampaaGreatDoorCX
import Derived.Test.YtkcgfceihpampaaGreatDoorDZ
namespace Go.Proofs.YtkcgfceihpampaaGreatDoor
open Go Go.Sx
set_option maxRecDepth 100000
set_option linter.unusedVariables false
theorem ct4 {fuel:Nat}  {p_s:S_api_ShSheet} {p_m:S_api_ClMap} {p_x:S_hachuretop_Painted} {res:Bool} (h:F4 fuel p_s p_m p_x=some res):PCall Tryz.prog 4 [(.agg [(di p_s.Interval),(L9 p_s.Points),(L121 p_s.Notes)]),(.agg [(L66 p_m.Borders),(di p_m.Step),(L66 p_m.Heights),(L70 p_m.Sides),(di p_m.Inks),(L70 p_m.Like)]),(.agg [(L181 p_x.Heights),(L181 p_x.Off),(L181 p_x.Legend)])] (vb res):=by
 refine PCall.of_awp tt_ok (N:=237) Tryz.func4 rfl (by kernel_rfl) rfl (Nat.le_of_ble_eq_true rfl) rfl ?_
 unfold F4 at h
 refine EN ?_
 refine R0 ?_
 obtain ⟨x1,hx1,h⟩:=ob h
 refine RT (.n 1 (.pc (ct16 hx1) .nil)) ?_
 refine awp_seq (R0 ?_)
 refine cd h (fun hb2 h=>?_) (fun hb2 h=>?_)
 ·obtain ⟨x3,hx3,h⟩:=ob h
  obtain ⟨x4,hx4,h⟩:=ob h
  refine RT (.pc (ct7 hx3) (.n 1 (.p (show (x3=true→PCall Tryz.prog 17 [] (vb x4)) from (fun hg=>ct17 (optG_of hx4 hg))) (.h (.call [] (vb x4)) (.i x3 (.n 1 .nil)))))) ?_
  obtain rfl:=oi h
  exact awp_ret gm
 ·refine awp_skip ?_
  show awp ..
  obtain ⟨x5,hx5,h⟩:=ob h
  refine RT (.n 3 (.pc (ct18 hx5) .nil)) ?_
  obtain ⟨x6,hx6,h⟩:=ob h
  obtain ⟨x7,hx7,h⟩:=ob h
  refine RT (.n 4 (.pc (ct19 hx6) (.pc (ct10 hx7) .nil))) ?_
  refine awp_seq ?_
  let g1 := !(x7.2 != 0)
  refine RT (.n 4 (.i g1 (.n 1 (.n 1 (.i g1 (.n 1 (.i g1 (.i g1 (.n 1 (.p (show ((x7.2 != 0)=false→(!(x7.2 != 0))=true) from not_of) (.n 1 .nil))))))))))) ?_
  refine cd h (fun hb8 h=>?_) (fun hb8 h=>?_)
  ·refine R0 ?_
   obtain rfl:=oi h
   exact awp_ret gm
  ·refine awp_skip ?_
   show awp ..
   refine R0 ?_
   obtain ⟨x9,hx9,h⟩:=ob h
   refine RT (.n 1 (.pc (ct20 hx9) .nil)) ?_
   refine awp_seq (R0 ?_)
   refine cd h (fun hb10 h=>?_) (fun hb10 h=>?_)
   ·obtain ⟨x11,hx11,h⟩:=ob h
    refine RT (.n 1 (.pc (ct21 hx11) .nil)) ?_
    obtain ⟨x12,hx12,h⟩:=ob h
    obtain ⟨x13,hx13,h⟩:=ob h
    let g2:=(x11.2.2==x9.2.2)
    let g1:=(cond g2 x12 false)
    refine RT (.n 4 (.p (show (g2=true→PCall Tryz.prog 7 [] (vb x12)) from (fun hg=>ct7 (optG_of hx12 hg))) (.h (.call [] (vb x12)) (.i g2 (.n 1 (.n 1 (.p (show (g1=true→PCall Tryz.prog 17 [] (vb x13)) from (fun hg=>ct17 (optG_of hx13 hg))) (.h (.call [] (vb x13)) (.i g1 (.n 1 .nil)))))))))) ?_
    obtain rfl:=oi h
    exact awp_ret gm
   ·refine awp_skip ?_
    show awp ..
    obtain ⟨x14,hx14,h⟩:=ob h
    refine RT (.n 3 (.pc (ct22 hx14) .nil)) ?_
    obtain ⟨x15,hx15,h⟩:=ob h
    refine RT (.n 2 (.pc (ct23 hx15) .nil)) ?_
    refine awp_seq (R0 ?_)
    refine cd h (fun hb16 h=>?_) (fun hb16 h=>?_)
    ·obtain ⟨x17,hx17,h⟩:=ob h
     obtain ⟨x18,hx18,h⟩:=ob h
     refine RT (.pc (ct7 hx17) (.n 1 (.p (show (x17=true→PCall Tryz.prog 17 [] (vb x18)) from (fun hg=>ct17 (optG_of hx18 hg))) (.h (.call [] (vb x18)) (.i x17 (.n 1 .nil)))))) ?_
     obtain rfl:=oi h
     exact awp_ret gm
    ·refine awp_skip ?_
     show awp ..
     obtain ⟨x19,hx19,h⟩:=ob h
     refine RT (.n 2 (.pc (ct24 hx19) .nil)) ?_
     obtain ⟨x20,hx20,h⟩:=ob h
     refine RT (.n 2 (.pc (ct25 hx20) .nil)) ?_
     refine awp_seq ?_
     let g2 := !(x19.2 != 0)
     let g1 := !(cond (x19.2 != 0) true (x20.2 != 0))
     refine RT (.n 4 (.i g2 (.n 1 (.p (show ((x19.2 != 0)=false→(!(x19.2 != 0))=true) from not_of) (.n 1 (.n 2 (.i g1 (.n 1 (.n 1 (.i g1 (.n 1 (.i g1 (.i g1 (.n 1 (.p (show ((cond (x19.2 != 0) true (x20.2 != 0))=false→(!(cond (x19.2 != 0) true (x20.2 != 0)))=true) from not_of) (.n 1 .nil)))))))))))))))) ?_
     refine cd h (fun hb21 h=>?_) (fun hb21 h=>?_)
     ·refine R0 ?_
      obtain rfl:=oi h
      exact awp_ret gm
     ·refine awp_skip ?_
      show awp ..
      refine awp_seq (R0 ?_)
      refine cuo h (fun (ro22:Bool)=>[(6,vb ro22)]) (fun (ro22:Bool)=>[]) (fun (so22:Unit)=>[(4,rf 1),(10,.d (L3 x5)),(18,.d (L3 x14))]) (fun (so22:Unit)=>[.cells [vi p_s.Interval,.d (L9 p_s.Points),.d (L121 p_s.Notes)],.cells [.d (L66 p_m.Borders),vi p_m.Step,.d (L66 x7.1),.d (L70 p_m.Sides),vi p_m.Inks,.d (L70 p_m.Like)],.cells [.d (L181 p_x.Heights),.d (L181 p_x.Off),.d (L181 p_x.Legend)]]) (fun o22 h=>?_) (fun ro22 h=>?_) (fun so22 h=>?_)
      ·refine awp_selQ (LP 3 [4,10,18,21,23,25] (F4L1 fuel x5 x14 x19 x20) o22 (fun (c23:Int)=>pr [(4,rf 1),(10,.d (L3 x5)),(18,.d (L3 x14)),(21,.d (L66 x19.1)),(23,.d (L3 x20.1)),(25,vi c23)] [.cells [vi p_s.Interval,.d (L9 p_s.Points),.d (L121 p_s.Notes)],.cells [.d (L66 p_m.Borders),vi p_m.Step,.d (L66 x7.1),.d (L70 p_m.Sides),vi p_m.Inks,.d (L70 p_m.Like)],.cells [.d (L181 p_x.Heights),.d (L181 p_x.Off),.d (L181 p_x.Legend)]]) fuel 0 h (fun _=>rfl) ?_)
       clear h
       intro n24 c23 h hrn24
       rw [F4L1] at h
       refine awp_seq (R0 ?_)
       refine cd h (fun hb25 h=>?_) (fun hb25 h=>?_)
       ·refine awp_skip ?_
        show awp ..
        refine awp_seq (awp_block ?_)
        obtain ⟨x26,hx26,h⟩:=ob h
        obtain ⟨x27,hx27,h⟩:=ob h
        refine RT (.n 3 (.ix (idxOk cel3_len hx26) (.n 1 (.pc (ct26 hx27) .nil)))) ?_
        obtain ⟨x28,hx28,h⟩:=ob h
        obtain ⟨x29,hx29,h⟩:=ob h
        obtain ⟨x30,hx30,h⟩:=ob h
        obtain ⟨x31,hx31,h⟩:=ob h
        let g1:=((!(!x29))&&(!x30))
        refine RT (.n 3 (.ix (idxOk cel66_len hx28) (.n 1 (.pc (ct27 hx29) (.n 4 (.i (!(!x29)) (.i (!(!x29)) (.p (show ((!(!x29))=true→PCall Tryz.prog 28 [(L3 x20.1),(di c23)] (vb x30)) from (fun hg=>ct28 (optG_of hx30 hg))) (.h (.call [(L3 x20.1),(di c23)] (vb x30)) (.i (!(!x29)) (.n 1 (.i (!(!x29)) (.n 1 (.n 3 (.i g1 (.i g1 (.p (show (g1=true→IX66 x19.1 c23 x31) from (fun hg=>idxOk cel66_len (optG_of hx31 hg))) (.h (.cells (cel66 x31)) (.i g1 (.n 1 (.i g1 (.n 1 (.i g1 (.i g1 (.n 1 (.i (!(!x29)) (.p (show ((!(!x29))=true→(!x30)=true→((!(!x29))&&(!x30))=true) from (fun hg h1=>by first|exact hg|exact h1|(rw [hg,h1];rfl)|(simp only [hg,h1,Bool.not_true,Bool.not_false,Bool.and_self,Bool.true_and,Bool.and_true];done)|(simp only [Bool.and_eq_true] at hg;simp only [hg,h1,Bool.not_true,Bool.not_false,Bool.and_self,Bool.true_and,Bool.and_true];done)|simp_all)) (.h (.own) (.p (show ((!x29)=false→(!(!x29))=true) from not_of) (.n 1 .nil)))))))))))))))))))))))))))))) ?_
        refine cd h (fun hb32 h=>?_) (fun hb32 h=>?_)
        ·refine R0 ?_
         obtain rfl:=oi h
         exact awp_ret (gs [] [6] OutQ.ret)
        ·refine awp_skip ?_
         show awp ..
         refine X0 ?_
         exact gn 3 [4,10,18,21,23,25] (hrn24 _ h)
       ·refine awp_exit ?_
        obtain rfl:=oi h
        exact gs [0,1,2] [4,10,18] OutQ.norm
      ·obtain rfl:=oi h
       exact gm
      ·show awp ..
       obtain ⟨x33,hx33,h⟩:=ob h
       refine EN ?_
       refine RT (.n 2 (.pc (ct29 hx33) .nil)) ?_
       refine awp_seq (R0 ?_)
       refine cd h (fun hb34 h=>?_) (fun hb34 h=>?_)
       ·obtain ⟨x35,hx35,h⟩:=ob h
        obtain ⟨x36,hx36,h⟩:=ob h
        let g2:=(x33.2.2==9)
        let g1:=(cond g2 x35 false)
        refine RT (.n 3 (.p (show (g2=true→PCall Tryz.prog 7 [] (vb x35)) from (fun hg=>ct7 (optG_of hx35 hg))) (.h (.call [] (vb x35)) (.i g2 (.n 1 (.n 1 (.p (show (g1=true→PCall Tryz.prog 17 [] (vb x36)) from (fun hg=>ct17 (optG_of hx36 hg))) (.h (.call [] (vb x36)) (.i g1 (.n 1 .nil)))))))))) ?_
        obtain rfl:=oi h
        exact awp_ret gm
       ·refine awp_skip ?_
        show awp ..
        refine awp_seq (R0 ?_)
        refine cd h (fun hb37 h=>?_) (fun hb37 h=>?_)
        ·refine R0 ?_
         obtain rfl:=oi h
         exact awp_ret gm
        ·refine awp_skip ?_
         show awp ..
         refine awp_seq (R0 ?_)
         refine cuo h (fun (ro38:Bool)=>[(6,vb ro38)]) (fun (ro38:Bool)=>[]) (fun (so38:Unit)=>[]) (fun (so38:Unit)=>[.cells [vi p_s.Interval,.d (L9 p_s.Points),.d (L121 p_s.Notes)],.cells [.d (L66 p_m.Borders),vi p_m.Step,.d (L66 x7.1),.d (L70 p_m.Sides),vi p_m.Inks,.d (L70 p_m.Like)],.cells [.d (L181 p_x.Heights),.d (L181 p_x.Off),.d (L181 p_x.Legend)]]) (fun o38 h=>?_) (fun ro38 h=>?_) (fun so38 h=>?_)
         ·refine awp_selQ (LP 3 [4,10,18,27,30] (F4L2 fuel p_m x5 x7 x14 x33) o38 (fun (c39:Int)=>pr [(4,rf 1),(10,.d (L3 x5)),(18,.d (L3 x14)),(27,.d (L3 x33.1)),(30,vi c39)] [.cells [vi p_s.Interval,.d (L9 p_s.Points),.d (L121 p_s.Notes)],.cells [.d (L66 p_m.Borders),vi p_m.Step,.d (L66 x7.1),.d (L70 p_m.Sides),vi p_m.Inks,.d (L70 p_m.Like)],.cells [.d (L181 p_x.Heights),.d (L181 p_x.Off),.d (L181 p_x.Legend)]]) fuel 0 h (fun _=>rfl) ?_)
          clear h
          intro n40 c39 h hrn40
          rw [F4L2] at h
          refine awp_seq (R0 ?_)
          refine cd h (fun hb41 h=>?_) (fun hb41 h=>?_)
          ·refine awp_skip ?_
           show awp ..
           refine awp_seq (awp_block ?_)
           obtain ⟨x42,hx42,h⟩:=ob h
           obtain ⟨x43,hx43,h⟩:=ob h
           obtain ⟨x44,hx44,h⟩:=ob h
           obtain ⟨x45,hx45,h⟩:=ob h
           obtain ⟨x46,hx46,h⟩:=ob h
           obtain ⟨x47,hx47,h⟩:=ob h
           refine DT 21 (.n 5 (.ix (idxOk cel70_len hx42) (.n 2 (.ix (idxOk cel3_len hx43) (.n 1 (.pc (ct26 hx44) (.n 5 (.ix (idxOk cel70_len hx45) (.n 2 (.ix (idxOk cel3_len hx46) (.n 1 (.pc (ct26 hx47) .nil)))))))))))) ?_
           obtain ⟨x48,hx48,h⟩:=ob h
           obtain ⟨x49,hx49,h⟩:=ob h
           obtain ⟨x50,hx50,h⟩:=ob h
           refine DT 13 (.n 3 (.ix (idxOk cel3_len hx48) (.n 3 (.ix (idxOk cel3_len hx49) (.n 1 (.pc (ct30 hx50) .nil)))))) ?_
           refine cd h (fun hb51 h=>?_) (fun hb51 h=>?_)
           ·refine R0 ?_
            obtain rfl:=oi h
            exact awp_ret (gs [] [6] OutQ.ret)
           ·refine awp_skip ?_
            show awp ..
            refine X0 ?_
            exact gn 3 [4,10,18,27,30] (hrn40 _ h)
          ·refine awp_exit ?_
           obtain rfl:=oi h
           exact gs [0,1,2] [] OutQ.norm
         ·obtain rfl:=oi h
          exact gm
         ·show awp ..
          obtain ⟨x52,hx52,h⟩:=ob h
          obtain ⟨x53,hx53,h⟩:=ob h
          refine EN ?_
          refine RT (.pc (ct7 hx52) (.n 1 (.p (show (x52=true→PCall Tryz.prog 17 [] (vb x53)) from (fun hg=>ct17 (optG_of hx53 hg))) (.h (.call [] (vb x53)) (.i x52 (.n 1 .nil)))))) ?_
          obtain rfl:=oi h
          exact awp_ret gm
end Go.Proofs.YtkcgfceihpampaaGreatDoor
