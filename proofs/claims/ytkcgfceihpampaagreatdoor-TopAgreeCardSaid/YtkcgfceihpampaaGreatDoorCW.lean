/- That functions of the seat compute this. Printed by a program of mine. -/
import Derived.Test.YtkcgfceihpampaaGreatDoorS
import Derived.Test.YtkcgfceihpampaaGreatDoorCD
import Derived.Test.YtkcgfceihpampaaGreatDoorCQ
import Derived.Test.YtkcgfceihpampaaGreatDoorCR
import Derived.Test.YtkcgfceihpampaaGreatDoorCT
import Derived.Test.YtkcgfceihpampaaGreatDoorCU
import Derived.Test.YtkcgfceihpampaaGreatDoorDW
namespace Go.Proofs.YtkcgfceihpampaaGreatDoor
open Go Go.Sx
set_option maxRecDepth 100000
set_option linter.unusedVariables false
theorem ct37v1 {further res} (h:F37v1 further=some res):PCall Tryz.prog 37 [dnil] (.d (.agg [(di res.Interval),(L9 res.Points),(L121 res.Notes)])):=by
 refine PO 12 Tryz.func37 rfl ?_;unfold F37v1 at h;refine EN (R0 ?_);obtain ⟨x1,hx1,h⟩:=ob h;obtain ⟨x2,hx2,h⟩:=ob h;obtain ⟨x3,hx3,h⟩:=ob h;obtain ⟨x4,hx4,h⟩:=ob h;obtain ⟨x5,hx5,h⟩:=ob h;refine RT (.n 1 (.pc (ct112 hx1) (.pc (ct112 hx2) (.pc (ct112 hx3) (.pc (ct112 hx4) (.h (.cells []) (.n 1 (.al (appendOk cel121_len (need_of hx5)) .nil)))))))) ?_;cases h;exact awp_ret gm
theorem ct7 {fuel:Nat} {res} (h:F7 fuel=some res):PCall Tryz.prog 7 [] (vb res):=by
 refine PO 202 Tryz.func7 rfl ?_;unfold F7 at h;refine EN (R0 ?_);obtain ⟨x1,hx1,h⟩:=ob h;obtain ⟨x2,hx2,h⟩:=ob h;obtain ⟨x3,hx3,h⟩:=ob h;obtain ⟨x4,hx4,h⟩:=ob h;obtain ⟨x5,hx5,h⟩:=ob h;refine RT (.pc (ct37v1 hx1) (.pc (ct38 hx2) (.pc (ct37 hx3) (.pc (ct39 hx4) (.pc (ct37 hx5) .nil))))) ?_;obtain ⟨x6,hx6,h⟩:=ob h;refine RT (.n 1 (.pc (ct12 hx6) .nil)) ?_;obtain ⟨x7,hx7,h⟩:=ob h;refine RT (.n 1 (.pc (ct12 hx7) .nil)) ?_;obtain ⟨x8,hx8,h⟩:=ob h;refine RT (.n 1 (.pc (ct10 hx8) .nil)) ?_;obtain ⟨x9,hx9,h⟩:=ob h;refine RT (.n 1 (.pc (ct40 hx9) .nil)) ?_;obtain ⟨x10,hx10,h⟩:=ob h;refine RT (.n 1 (.pc (ct41 hx10) .nil)) ?_;obtain ⟨x11,hx11,h⟩:=ob h;refine RT (.n 1 (.pc (ct42 hx11) .nil)) ?_;obtain ⟨x12,hx12,h⟩:=ob h;refine RT (.n 1 (.pc (ct43 hx12) .nil)) ?_;obtain ⟨x13,hx13,h⟩:=ob h;refine RT (.n 1 (.pc (ct14 hx13) .nil)) ?_;obtain ⟨x14,hx14,h⟩:=ob h;refine RT (.n 1 (.pc (ct44 hx14) .nil)) ?_;obtain ⟨x15,hx15,h⟩:=ob h;obtain ⟨x16,hx16,h⟩:=ob h;refine RT (.pc (ct46 hx15) (.hc [] (ct45v1 hx16) .nil)) ?_;obtain ⟨x17,hx17,h⟩:=ob h;refine RT (.n 1 (.pc (ct10 hx17) .nil)) ?_;obtain ⟨x18,hx18,h⟩:=ob h;refine RT (.n 1 (.pc (ct42 hx18) .nil)) (WA 5 [(1,rf 0),(4,vb x6.1),(5,vi x6.2),(6,vb x7.1),(7,vi x7.2),(8,.d (L66 x8.1)),(9,vi x8.2),(10,rf 3),(11,vi x9.2.1),(12,vi x9.2.2),(13,.d (L3 x10.1)),(14,vi x10.2),(15,.d (L3 x11.1)),(16,vi x11.2),(17,.d (L3 x12.1)),(18,vi x12.2),(19,vi x13.1),(20,vi x13.2),(21,.d (.v (.string x14.1))),(22,vi x14.2),(23,rf 4),(24,vi x16.2),(26,vi x17.2),(28,vi x18.2)] [.cells [vi x1.Interval,.d (L9 x1.Points),.d (L121 x1.Notes)],.cells [vi x3.Interval,.d (L9 x3.Points),.d (L121 x3.Notes)],.cells [vi x5.Interval,.d (L9 x5.Points),.d (L121 x5.Notes)],.cells [vi x9.1.Lo,vi x9.1.Hi],.cells [vi x16.1.Interval,.d (L9 x16.1.Points),.d (L121 x16.1.Notes)]] ?_);obtain ⟨x19,hx19,h⟩:=ob h;obtain ⟨x20,hx20,h⟩:=ob h;obtain ⟨x21,hx21,h⟩:=ob h;obtain ⟨x22,hx22,h⟩:=ob h;obtain ⟨x23,hx23,h⟩:=ob h;obtain ⟨x24,hx24,h⟩:=ob h;obtain ⟨x25,hx25,h⟩:=ob h;obtain ⟨x26,hx26,h⟩:=ob h;obtain ⟨x27,hx27,h⟩:=ob h;obtain ⟨x28,hx28,h⟩:=ob h;obtain ⟨x29,hx29,h⟩:=ob h;obtain ⟨x30,hx30,h⟩:=ob h;obtain ⟨x31,hx31,h⟩:=ob h;refine EN ?_
 let g23:=(cond (x6.2==0) (x7.2==0) false)
 let g22:=(cond g23 (x8.2==0) false)
 let g21:=(cond g22 (x9.2.2==0) false)
 let g20:=(cond g21 (x10.2==0) false)
 let g19:=(cond g20 (x11.2==0) false)
 let g18:=(cond g19 (x12.2==0) false)
 let g17:=(cond g18 (x13.2==0) false)
 let g16:=(cond g17 (x14.2==0) false)
 let g15:=(cond g16 (x16.2==0) false)
 let g14:=(cond g15 (x17.2==9) false)
 let g13:=(cond g14 (x18.2==4) false)
 let g12:=(cond g13 x6.1 false)
 let g11:=(cond g12 (!x7.1) false)
 let g10:=(cond g11 x23 false)
 let g9:=(cond g10 ((x9.1.Lo==x24.Lo)&&(x9.1.Hi==x24.Hi)) false)
 let g8:=(cond g9 (x9.2.1==2) false)
 let g7:=(cond g8 x25 false)
 let g6:=(cond g7 x26 false)
 let g5:=(cond g6 x27 false)
 let g4:=(cond g5 (x13.1==60) false)
 let g3:=(cond g4 (x14.1==x28) false)
 let g2:=(cond g3 x29 false)
 let g1:=(cond g2 x30 false)
 refine DT 98 (.n 4 (.i (x6.2==0) (.n 1 (.i (x6.2==0) (.n 1 (.n 2 (.i g23 (.n 1 (.i g23 (.n 1 (.n 2 (.i g22 (.n 1 (.i g22 (.n 1 (.n 2 (.i g21 (.n 1 (.i g21 (.n 1 (.n 2 (.i g20 (.n 1 (.i g20 (.n 1 (.n 2 (.i g19 (.n 1 (.i g19 (.n 1 (.n 2 (.i g18 (.n 1 (.i g18 (.n 1 (.n 2 (.i g17 (.n 1 (.i g17 (.n 1 (.n 2 (.i g16 (.n 1 (.i g16 (.n 1 (.n 2 (.i g15 (.n 1 (.i g15 (.n 1 (.n 2 (.i g14 (.n 1 (.i g14 (.n 1 (.n 2 (.i g13 (.n 1 (.n 2 (.i g12 (.n 1 (.i g12 (.n 1 (.n 2 (.p (show (g11=true→PCall Tryz.prog 47 [(di 1180),(di 1200)] (.d (.agg [(di x19.Lo),(di x19.Hi)]))) from (fun hg=>ct47 (optG_of hx19 hg))) (.h (.call [(di 1180),(di 1200)] (.d (.agg [(di x19.Lo),(di x19.Hi)]))) (.p (show (g11=true→PCall Tryz.prog 47 [(di 900),(di 940)] (.d (.agg [(di x20.Lo),(di x20.Hi)]))) from (fun hg=>ct47 (optG_of hx20 hg))) (.h (.call [(di 900),(di 940)] (.d (.agg [(di x20.Lo),(di x20.Hi)]))) (.p (show (g11=true→PCall Tryz.prog 47 [(di 910),(di 950)] (.d (.agg [(di x21.Lo),(di x21.Hi)]))) from (fun hg=>ct47 (optG_of hx21 hg))) (.h (.call [(di 910),(di 950)] (.d (.agg [(di x21.Lo),(di x21.Hi)]))) (.p (show (g11=true→PCall Tryz.prog 47 [(di 900),(di 940)] (.d (.agg [(di x22.Lo),(di x22.Hi)]))) from (fun hg=>ct47 (optG_of hx22 hg))) (.h (.call [(di 900),(di 940)] (.d (.agg [(di x22.Lo),(di x22.Hi)]))) (.i g11 (.i g11 (.i g11 (.i g11 (.n 1 (.i g11 (.i g11 (.p (show (g11=true→PCall Tryz.prog 15 [(L66 x8.1),(L66 ([(⟨x19.Lo,x19.Hi⟩:S_api_Span),(⟨x20.Lo,x20.Hi⟩:S_api_Span),(⟨x21.Lo,x21.Hi⟩:S_api_Span),(⟨x22.Lo,x22.Hi⟩:S_api_Span)]:List S_api_Span))] (vb x23)) from (fun hg=>ct15 (optG_of hx23 hg))) (.h (.call [(L66 x8.1),(L66 ([(⟨x19.Lo,x19.Hi⟩:S_api_Span),(⟨x20.Lo,x20.Hi⟩:S_api_Span),(⟨x21.Lo,x21.Hi⟩:S_api_Span),(⟨x22.Lo,x22.Hi⟩:S_api_Span)]:List S_api_Span))] (vb x23)) (.i g11 (.n 1 (.n 2 (.p (show (g10=true→PCall Tryz.prog 47 [(di 10),(di 40)] (.d (.agg [(di x24.Lo),(di x24.Hi)]))) from (fun hg=>ct47 (optG_of hx24 hg))) (.h (.call [(di 10),(di 40)] (.d (.agg [(di x24.Lo),(di x24.Hi)]))) (.i g10 (.i g10 (.n 1 (.i g10 (.n 1 (.n 2 (.i g9 (.n 1 (.i g9 (.n 1 (.n 3 (.i g8 (.i g8 (.p (show (g8=true→PCall Tryz.prog 48 [(L3 x10.1),(L3 ([0]:List Int))] (vb x25)) from (fun hg=>ct48 (optG_of hx25 hg))) (.h (.call [(L3 x10.1),(L3 ([0]:List Int))] (vb x25)) (.i g8 (.n 1 (.n 3 (.i g7 (.i g7 (.p (show (g7=true→PCall Tryz.prog 48 [(L3 x11.1),(L3 ([0,1,4]:List Int))] (vb x26)) from (fun hg=>ct48 (optG_of hx26 hg))) (.h (.call [(L3 x11.1),(L3 ([0,1,4]:List Int))] (vb x26)) (.i g7 (.n 1 (.n 3 (.i g6 (.i g6 (.p (show (g6=true→PCall Tryz.prog 48 [(L3 x12.1),(L3 ([0]:List Int))] (vb x27)) from (fun hg=>ct48 (optG_of hx27 hg))) (.h (.call [(L3 x12.1),(L3 ([0]:List Int))] (vb x27)) (.i g6 (.n 1 (.n 2 (.i g5 (.n 1 (.i g5 (.n 1 (.n 2 (.p (show (g4=true→PCall Tryz.prog 46 [] (.d (.v (.string x28)))) from (fun hg=>ct46 (optG_of hx28 hg))) (.h (.call [] (.d (.v (.string x28)))) (.i g4 (.i g4 (.n 1 (.i g4 (.n 1 (.n 3 (.i g3 (.i g3 (.p (show (g3=true→PCall Tryz.prog 49 [(.agg [(di x16.1.Interval),(L9 x16.1.Points),(L121 x16.1.Notes)]),(.agg [(di x1.Interval),(L9 x1.Points),(L121 x1.Notes)])] (vb x29)) from (fun hg=>ct49 (optG_of hx29 hg))) (.h (.call [(.agg [(di x16.1.Interval),(L9 x16.1.Points),(L121 x16.1.Notes)]),(.agg [(di x1.Interval),(L9 x1.Points),(L121 x1.Notes)])] (vb x29)) (.i g3 (.n 1 (.n 1 (.p (show (g2=true→PCall Tryz.prog 50 [(.v (.string (⟨#[97,45,57]⟩:ByteArray)))] (vb x30)) from (fun hg=>ct50 (optG_of hx30 hg))) (.h (.call [(.v (.string (⟨#[97,45,57]⟩:ByteArray)))] (vb x30)) (.i g2 (.n 1 (.n 1 (.p (show (g1=true→PCall Tryz.prog 50 [(.v (.string (⟨#[57,97]⟩:ByteArray)))] (vb x31)) from (fun hg=>ct50 (optG_of hx31 hg))) (.h (.call [(.v (.string (⟨#[57,97]⟩:ByteArray)))] (vb x31)) (.i g1 (.n 1 (.i g1 (.n 1 .nil))))))))))))))))))))))))))))))))))))))))))))))))))))))))))))))))))))))))))))))))))))))))))))))))))))))))))))))))))))))))))))))))))))))))))))))))))))) ?_;cases h;exact awp_ret gm
end Go.Proofs.YtkcgfceihpampaaGreatDoor
