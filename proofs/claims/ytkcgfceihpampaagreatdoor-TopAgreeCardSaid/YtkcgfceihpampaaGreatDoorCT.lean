/- That functions of the seat compute this. Printed by a program of mine. -/
import Derived.Test.YtkcgfceihpampaaGreatDoorS
import Derived.Test.YtkcgfceihpampaaGreatDoorCA
import Derived.Test.YtkcgfceihpampaaGreatDoorDT
namespace Go.Proofs.YtkcgfceihpampaaGreatDoor
open Go Go.Sx
set_option maxRecDepth 100000
set_option linter.unusedVariables false
theorem ct174 {words res} (h:F174 words=some res):HCall Tryz.prog 174 [.d (L9 words),.ref 0 0] [.bld (some none)] (.tup []) [.bld (some (some (res,1))),.bldr res]:=by
 refine HO 7 1 Tryz.func174 rfl ?_;unfold F174 at h;obtain ⟨x1,hx1,h⟩:=ob h;obtain ⟨x2,hx2,h⟩:=ob h;obtain ⟨x3,hx3,h⟩:=ob h;refine EN (XT (.n 1 (.pc (ct176 hx1) (.p (show (x1.size+(⟨#[10]⟩:ByteArray).size≤9223372036854775807) from need_of hx2) (.n 1 (.hc [(0,false)] (ct175 hx3) .nil))))) ?_);obtain rfl:=oi h;exact (main_retN [0,1] (.tup []) (by kernel_rfl) (by kernel_rfl) (by kernel_rfl) (by kernel_rfl))
theorem ct174v1 {words a1 res} (h:F174v1 words a1=some res):HCall Tryz.prog 174 [.d (L9 words),.ref 0 0] [.bld (some (some (a1,1))),.bldr a1] (.tup []) [.bld (some (some (res,1))),.bldr res]:=by
 refine HO 7 2 Tryz.func174 rfl ?_;unfold F174v1 at h;obtain ⟨x1,hx1,h⟩:=ob h;obtain ⟨x2,hx2,h⟩:=ob h;obtain ⟨x3,hx3,h⟩:=ob h;refine EN (XT (.n 1 (.pc (ct176 hx1) (.p (show (x1.size+(⟨#[10]⟩:ByteArray).size≤9223372036854775807) from need_of hx2) (.n 1 (.hc [(0,false),(1,false)] (ct175v1 hx3) .nil))))) ?_);obtain rfl:=oi h;exact (main_retN [0,1] (.tup []) (by kernel_rfl) (by kernel_rfl) (by kernel_rfl) (by kernel_rfl))
theorem ct116 {fuel:Nat} {p_s res} (h:F116 fuel p_s=some res):PCall Tryz.prog 116 [(.agg [(di p_s.Interval),(L9 p_s.Points),(L121 p_s.Notes)])] (.d (.v (.string res))):=by
 refine PO 115 Tryz.func116 rfl ?_;unfold F116 at h;refine EN (R0 (RT (.h (.own) .nil) (R0 ?_)));obtain ⟨x1,hx1,h⟩:=ob h;obtain ⟨x2,hx2,h⟩:=ob h;refine RT (.n 3 (.pc (ct177 hx1) (.n 1 (.hc [(1,false)] (ct174 hx2) .nil)))) (awp_seq (R0 ?_))
 let q1:O:=.cells [vi p_s.Interval,.d (L9 p_s.Points),.d (L121 p_s.Notes)]
 let q2:Nat×V:=(4,.fn (.func 174) [] [.ref 1 0])
 refine cuo h (fun ro3=>[(2,.d (.v (.string ro3)))]) (fun ro3=>[]) (fun so3=>[(1,.ref 0 0),(3,.ref 1 0),q2]) (fun so3=>[q1,.bld (some (some (so3,2))),.bldr so3]) (fun o3 h=>?_) (fun ro3 h=>?_) (fun so3 h=>?_)
 ·refine awp_selQ (LP 3 [1,3,4,19,20,21] (F116L1 p_s) o3 (fun c4=>pr [(1,.ref 0 0),(3,.ref 1 0),q2,(19,.d (L9 p_s.Points)),(20,vi (p_s.Points.length:Int)),(21,vi c4.1)] [q1,.bld (some (some (c4.2,2))),.bldr c4.2]) fuel (0,x2) h (fun _=>rfl) ?_);clear h;intro n5 c4 h hrn5;rw [F116L1] at h;refine R0 (awp_seq (cd h (fun hb6 h=>?_) (fun hb6 h=>?_)))
  ·refine SK (awp_seq (awp_block ?_));obtain ⟨x7,hx7,h⟩:=ob h;refine RT (.ix (idxOk cel9_len hx7) .nil) ?_;obtain ⟨x8,hx8,h⟩:=ob h;refine XT (.n 3 (.hc [(1,false),(2,false)] (ct174v1 hx8) .nil)) ?_;show awp ..;exact X0 (gn 3 [1,3,4,19,20,21] (hrn5 _ h))
  ·refine awp_exit ?_;cases h;exact gs [0,1,2] [1,3,4] OutQ.norm
 ·obtain rfl:=oi h;exact gm
 ·show awp ..;refine awp_seq (EN (R0 (cuo h (fun ro9=>[(2,.d (.v (.string ro9)))]) (fun ro9=>[]) (fun so9=>[(3,.ref 1 0)]) (fun so9=>[q1,.bld (some (some (so9,2))),.bldr so9]) (fun o9 h=>?_) (fun ro9 h=>?_) (fun so9 h=>?_))))
  ·refine awp_selQ (LP 3 [1,3,4,31,32,33] (F116L2 p_s) o9 (fun c10=>pr [(1,.ref 0 0),(3,.ref 1 0),q2,(31,.d (L121 p_s.Notes)),(32,vi (p_s.Notes.length:Int)),(33,vi c10.1)] [q1,.bld (some (some (c10.2,2))),.bldr c10.2]) fuel (0,so3) h (fun _=>rfl) ?_);clear h;intro n11 c10 h hrn11;rw [F116L2] at h;refine R0 (awp_seq (cd h (fun hb12 h=>?_) (fun hb12 h=>?_)))
   ·refine SK (awp_seq (awp_block ?_));obtain ⟨x13,hx13,h⟩:=ob h;refine RT (.ix (idxOk cel121_len hx13) .nil) ?_;obtain ⟨x14,hx14,h⟩:=ob h;obtain ⟨x15,hx15,h⟩:=ob h;refine DT 7 (.n 3 (.pc (ct177 hx14) (.n 3 (.pc (ct177 hx15) .nil)))) ?_;obtain ⟨x16,hx16,h⟩:=ob h;refine RT (.n 1 (.pc (ct178 hx16) .nil)) (awp_block (R0 (cd h (fun hb17 h=>?_) (fun hb17 h=>?_))))
    ·obtain ⟨x18,hx18,h⟩:=ob h;obtain ⟨x19,hx19,h⟩:=ob h;refine XT (.n 5 (.ix (idxOk cel9_len hx18) (.n 4 (.hc [(1,false),(2,false)] (ct174v1 hx19) .nil)))) ?_;show awp ..;exact X0 (gn 3 [1,3,4,31,32,33] (hrn11 _ h))
    ·refine R0 (cd h (fun hb20 h=>?_) (fun hb20 h=>?_))
     ·obtain ⟨x21,hx21,h⟩:=ob h;obtain ⟨x22,hx22,h⟩:=ob h;refine XT (.n 5 (.ix (idxOk cel9_len hx21) (.n 4 (.hc [(1,false),(2,false)] (ct174v1 hx22) .nil)))) ?_;show awp ..;exact X0 (gn 3 [1,3,4,31,32,33] (hrn11 _ h))
     ·refine R0 (cd h (fun hb23 h=>?_) (fun hb23 h=>?_))
      ·obtain ⟨x24,hx24,h⟩:=ob h;obtain ⟨x25,hx25,h⟩:=ob h;obtain ⟨x26,hx26,h⟩:=ob h;refine ET 14 (.n 5 (.ix (idxOk cel9_len hx24) (.n 5 (.ix (idxOk cel9_len hx25) (.n 2 (.hc [(1,false),(2,false)] (ct174v1 hx26) .nil)))))) ?_;show awp ..;exact X0 (gn 3 [1,3,4,31,32,33] (hrn11 _ h))
      ·refine R0 (cd h (fun hb27 h=>?_) (fun hb27 h=>?_))
       ·obtain ⟨x28,hx28,h⟩:=ob h;obtain ⟨x29,hx29,h⟩:=ob h;obtain ⟨x30,hx30,h⟩:=ob h;refine ET 16 (.n 5 (.ix (idxOk cel9_len hx28) (.n 5 (.ix (idxOk cel9_len hx29) (.n 4 (.hc [(1,false),(2,false)] (ct174v1 hx30) .nil)))))) ?_;show awp ..;exact X0 (gn 3 [1,3,4,31,32,33] (hrn11 _ h))
       ·refine awp_skip ?_;show awp ..;exact X0 (gn 3 [1,3,4,31,32,33] (hrn11 _ h))
   ·refine awp_exit ?_;cases h;exact gs [0,1,2] [3] OutQ.norm
  ·obtain rfl:=oi h;exact gm
  ·show awp ..;obtain ⟨x31,hx31,h⟩:=ob h;refine EN (RT (.hc [(1,false),(2,false)] (ct179 hx31) .nil) ?_);obtain rfl:=oi h;exact awp_ret gm
theorem ct44 {fuel:Nat} {p_s res} (h:F44 fuel p_s=some res):PCall Tryz.prog 44 [(.agg [(di p_s.Interval),(L9 p_s.Points),(L121 p_s.Notes)])] (.tup [.d (.v (.string res.1)),vi res.2]):=by
 refine PO 18 Tryz.func44 rfl ?_;unfold F44 at h;refine EN (R0 (awp_seq ?_));obtain ⟨x1,hx1,h⟩:=ob h;refine RT (.n 1 (.pc (ct65 hx1) .nil)) (R0 (cd h (fun hb2 h=>?_) (fun hb2 h=>?_)))
 ·refine R0 ?_;cases h;exact awp_ret gm
 ·refine SK ?_;obtain ⟨x3,hx3,h⟩:=ob h;refine RT (.n 1 (.pc (ct116 hx3) .nil)) ?_;cases h;exact awp_ret gm
end Go.Proofs.YtkcgfceihpampaaGreatDoor
