/- That functions of the seat compute this. Printed by a program of mine. -/
import Derived.Test.YtkcgfceihpampaaGreatDoorS
import Derived.Test.YtkcgfceihpampaaGreatDoorCD
import Derived.Test.YtkcgfceihpampaaGreatDoorCK
import Derived.Test.YtkcgfceihpampaaGreatDoorCL
import Derived.Test.YtkcgfceihpampaaGreatDoorCU
import Derived.Test.YtkcgfceihpampaaGreatDoorCV
import Derived.Test.YtkcgfceihpampaaGreatDoorCW
import Derived.Test.YtkcgfceihpampaaGreatDoorCY
import Derived.Test.YtkcgfceihpampaaGreatDoorDZ
namespace Go.Proofs.YtkcgfceihpampaaGreatDoor
open Go Go.Sx
set_option maxRecDepth 100000
set_option linter.unusedVariables false
theorem ct3 {fuel:Nat}  {p_r:S_api_CvRow} {res:Bool} (h:F3 fuel p_r=some res):PCall Tryz.prog 3 [(.agg [(di p_r.Steep),(L91 p_r.Points)])] (vb res):=by
 refine PCall.of_awp tt_ok (N:=111) Tryz.func3 rfl (by kernel_rfl) rfl (Nat.le_of_ble_eq_true rfl) rfl ?_
 unfold F3 at h
 refine EN ?_
 refine R0 ?_
 obtain ⟨x1,hx1,h⟩:=ob h
 refine RT (.n 1 (.pc (ct6 hx1) .nil)) ?_
 refine awp_seq (RT (.n 4 (.p (show ((!(x1.2.2 != 0))=true→(!(x1.2.2 != 0))=true) from id) (.n 1 (.p (show ((!(x1.2.2 != 0))=true→(!(x1.2.2 != 0))=true) from id) (.n 1 (.p (show ((!(x1.2.2 != 0))=true→(!(x1.2.2 != 0))=true) from id) (.n 1 (.p (show ((x1.2.2 != 0)=false→(!(x1.2.2 != 0))=true) from not_of) (.n 1 .nil))))))))) ?_)
 refine cd h (fun hb2 h=>?_) (fun hb2 h=>?_)
 ·obtain ⟨x3,hx3,h⟩:=ob h
  obtain ⟨x4,hx4,h⟩:=ob h
  refine RT (.pc (ct7 hx3) (.n 1 (.p (show (x3=true→PCall Tryz.prog 8 [] (vb x4)) from (fun hg=>ct8 (optG_of hx4 hg))) (.h (.call [] (vb x4)) (.p (show (x3=true→x3=true) from id) (.n 1 .nil)))))) ?_
  obtain rfl:=oi h
  exact awp_ret gm
 ·refine awp_skip ?_
  show awp ..
  obtain ⟨x5,hx5,h⟩:=ob h
  refine RT (.n 1 (.pc (ct9 hx5) .nil)) ?_
  obtain ⟨x6,hx6,h⟩:=ob h
  refine RT (.n 1 (.pc (ct10 hx6) .nil)) ?_
  obtain ⟨x7,hx7,h⟩:=ob h
  refine RT (.n 1 (.pc (ct11 hx7) .nil)) ?_
  obtain ⟨x8,hx8,h⟩:=ob h
  refine RT (.n 1 (.pc (ct12 hx8) .nil)) ?_
  obtain ⟨x9,hx9,h⟩:=ob h
  refine RT (.n 1 (.pc (ct13 hx9) .nil)) ?_
  obtain ⟨x10,hx10,h⟩:=ob h
  refine RT (.n 1 (.pc (ct14 hx10) .nil)) ?_
  refine awp_seq ?_
  obtain ⟨x11,hx11,h⟩:=ob h
  refine RT (.n 4 (.p (show ((!(x8.2 != 0))=true→(!(x8.2 != 0))=true) from id) (.n 1 (.p (show ((x8.2 != 0)=false→(!(x8.2 != 0))=true) from not_of) (.n 1 (.n 2 (.p (show ((!(cond (x8.2 != 0) true (x9.2 != 0)))=true→(!(cond (x8.2 != 0) true (x9.2 != 0)))=true) from id) (.n 1 (.p (show ((cond (x8.2 != 0) true (x9.2 != 0))=false→(!(cond (x8.2 != 0) true (x9.2 != 0)))=true) from not_of) (.n 1 (.n 3 (.p (show ((!(cond (cond (x8.2 != 0) true (x9.2 != 0)) true (x10.2 != 0)))=true→(!(cond (cond (x8.2 != 0) true (x9.2 != 0)) true (x10.2 != 0)))=true) from id) (.n 1 (.p (show ((!(cond (cond (x8.2 != 0) true (x9.2 != 0)) true (x10.2 != 0)))=true→(!(cond (cond (x8.2 != 0) true (x9.2 != 0)) true (x10.2 != 0)))=true) from id) (.p (show ((!(cond (cond (x8.2 != 0) true (x9.2 != 0)) true (x10.2 != 0)))=true→(!(cond (cond (x8.2 != 0) true (x9.2 != 0)) true (x10.2 != 0)))=true) from id) (.n 1 (.p (show ((cond (cond (x8.2 != 0) true (x9.2 != 0)) true (x10.2 != 0))=false→(!(cond (cond (x8.2 != 0) true (x9.2 != 0)) true (x10.2 != 0)))=true) from not_of) (.n 1 (.n 3 (.p (show ((!(cond (cond (cond (x8.2 != 0) true (x9.2 != 0)) true (x10.2 != 0)) true (!(x8.1==(x7.2==0)))))=true→(!(cond (cond (cond (x8.2 != 0) true (x9.2 != 0)) true (x10.2 != 0)) true (!(x8.1==(x7.2==0)))))=true) from id) (.p (show ((!(cond (cond (cond (x8.2 != 0) true (x9.2 != 0)) true (x10.2 != 0)) true (!(x8.1==(x7.2==0)))))=true→(!(cond (cond (cond (x8.2 != 0) true (x9.2 != 0)) true (x10.2 != 0)) true (!(x8.1==(x7.2==0)))))=true) from id) (.p (show ((!(cond (cond (cond (x8.2 != 0) true (x9.2 != 0)) true (x10.2 != 0)) true (!(x8.1==(x7.2==0)))))=true→PCall Tryz.prog 15 [(L66 x6.1),(L66 x7.1)] (vb x11)) from (fun hg=>ct15 (optG_of hx11 hg))) (.h (.call [(L66 x6.1),(L66 x7.1)] (vb x11)) (.p (show ((!(cond (cond (cond (x8.2 != 0) true (x9.2 != 0)) true (x10.2 != 0)) true (!(x8.1==(x7.2==0)))))=true→(!(cond (cond (cond (x8.2 != 0) true (x9.2 != 0)) true (x10.2 != 0)) true (!(x8.1==(x7.2==0)))))=true) from id) (.n 1 (.p (show ((cond (cond (cond (x8.2 != 0) true (x9.2 != 0)) true (x10.2 != 0)) true (!(x8.1==(x7.2==0))))=false→(!(cond (cond (cond (x8.2 != 0) true (x9.2 != 0)) true (x10.2 != 0)) true (!(x8.1==(x7.2==0)))))=true) from not_of) (.n 1 (.n 3 (.p (show ((!(cond (cond (cond (cond (x8.2 != 0) true (x9.2 != 0)) true (x10.2 != 0)) true (!(x8.1==(x7.2==0)))) true (!x11)))=true→(!(cond (cond (cond (cond (x8.2 != 0) true (x9.2 != 0)) true (x10.2 != 0)) true (!(x8.1==(x7.2==0)))) true (!x11)))=true) from id) (.p (show ((!(cond (cond (cond (cond (x8.2 != 0) true (x9.2 != 0)) true (x10.2 != 0)) true (!(x8.1==(x7.2==0)))) true (!x11)))=true→(!(cond (cond (cond (cond (x8.2 != 0) true (x9.2 != 0)) true (x10.2 != 0)) true (!(x8.1==(x7.2==0)))) true (!x11)))=true) from id) (.n 1 (.p (show ((cond (cond (cond (cond (x8.2 != 0) true (x9.2 != 0)) true (x10.2 != 0)) true (!(x8.1==(x7.2==0)))) true (!x11))=false→(!(cond (cond (cond (cond (x8.2 != 0) true (x9.2 != 0)) true (x10.2 != 0)) true (!(x8.1==(x7.2==0)))) true (!x11)))=true) from not_of) (.n 1 .nil))))))))))))))))))))))))))))))))) ?_
  refine cd h (fun hb12 h=>?_) (fun hb12 h=>?_)
  ·refine R0 ?_
   obtain rfl:=oi h
   exact awp_ret gm
  ·refine awp_skip ?_
   show awp ..
   obtain ⟨x13,hx13,h⟩:=ob h
   obtain ⟨x14,hx14,h⟩:=ob h
   refine RT (.n 6 (.p (show ((decide (x10.1≥0))=true→(decide (x10.1≥0))=true) from id) (.n 1 (.p (show ((decide (x10.1≥0))=true→(decide (x10.1≥0))=true) from id) (.p (show ((decide (x10.1≥0))=true→(decide (x10.1≥0))=true) from id) (.n 1 (.p (show ((decide (x10.1≥0))=true→(decide (x10.1≥0))=true) from id) (.n 1 (.p (show ((decide (x10.1≥0))=true→(decide (x10.1≥0))=true) from id) (.p (show ((decide (x10.1≥0))=true→(decide (x10.1≥0))=true) from id) (.n 1 (.p (show ((decide (x10.1≥0))=true→(decide (x10.1≥0))=true) from id) (.n 1 (.n 2 (.p (show ((cond (decide (x10.1≥0)) (decide (x10.1≤(if (w64 (x9.1-p_r.Steep))>0 then (w64 (x9.1-p_r.Steep)) else 0))) false)=true→(cond (decide (x10.1≥0)) (decide (x10.1≤(if (w64 (x9.1-p_r.Steep))>0 then (w64 (x9.1-p_r.Steep)) else 0))) false)=true) from id) (.n 1 (.n 1 (.p (show ((cond (decide (x10.1≥0)) (decide (x10.1≤(if (w64 (x9.1-p_r.Steep))>0 then (w64 (x9.1-p_r.Steep)) else 0))) false)=true→(cond (decide (x10.1≥0)) (decide (x10.1≤(if (w64 (x9.1-p_r.Steep))>0 then (w64 (x9.1-p_r.Steep)) else 0))) false)=true) from id) (.p (show ((cond (decide (x10.1≥0)) (decide (x10.1≤(if (w64 (x9.1-p_r.Steep))>0 then (w64 (x9.1-p_r.Steep)) else 0))) false)=true→(cond (decide (x10.1≥0)) (decide (x10.1≤(if (w64 (x9.1-p_r.Steep))>0 then (w64 (x9.1-p_r.Steep)) else 0))) false)=true) from id) (.n 1 (.p (show ((cond (decide (x10.1≥0)) (decide (x10.1≤(if (w64 (x9.1-p_r.Steep))>0 then (w64 (x9.1-p_r.Steep)) else 0))) false)=true→(cond (decide (x10.1≥0)) (decide (x10.1≤(if (w64 (x9.1-p_r.Steep))>0 then (w64 (x9.1-p_r.Steep)) else 0))) false)=true) from id) (.n 1 (.n 1 (.p (show ((cond (cond (decide (x10.1≥0)) (decide (x10.1≤(if (w64 (x9.1-p_r.Steep))>0 then (w64 (x9.1-p_r.Steep)) else 0))) false) ((x10.1==0)==x8.1) false)=true→PCall Tryz.prog 7 [] (vb x13)) from (fun hg=>ct7 (optG_of hx13 hg))) (.h (.call [] (vb x13)) (.p (show ((cond (cond (decide (x10.1≥0)) (decide (x10.1≤(if (w64 (x9.1-p_r.Steep))>0 then (w64 (x9.1-p_r.Steep)) else 0))) false) ((x10.1==0)==x8.1) false)=true→(cond (cond (decide (x10.1≥0)) (decide (x10.1≤(if (w64 (x9.1-p_r.Steep))>0 then (w64 (x9.1-p_r.Steep)) else 0))) false) ((x10.1==0)==x8.1) false)=true) from id) (.n 1 (.n 1 (.p (show ((cond (cond (cond (decide (x10.1≥0)) (decide (x10.1≤(if (w64 (x9.1-p_r.Steep))>0 then (w64 (x9.1-p_r.Steep)) else 0))) false) ((x10.1==0)==x8.1) false) x13 false)=true→PCall Tryz.prog 8 [] (vb x14)) from (fun hg=>ct8 (optG_of hx14 hg))) (.h (.call [] (vb x14)) (.p (show ((cond (cond (cond (decide (x10.1≥0)) (decide (x10.1≤(if (w64 (x9.1-p_r.Steep))>0 then (w64 (x9.1-p_r.Steep)) else 0))) false) ((x10.1==0)==x8.1) false) x13 false)=true→(cond (cond (cond (decide (x10.1≥0)) (decide (x10.1≤(if (w64 (x9.1-p_r.Steep))>0 then (w64 (x9.1-p_r.Steep)) else 0))) false) ((x10.1==0)==x8.1) false) x13 false)=true) from id) (.n 1 .nil)))))))))))))))))))))))))))))))) ?_
   obtain rfl:=oi h
   exact awp_ret gm
end Go.Proofs.YtkcgfceihpampaaGreatDoor
