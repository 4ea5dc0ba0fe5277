/- That functions of the seat compute this. Printed by a program of mine. -/
import Derived.Test.YtkcgfceihpampaaGreatDoorS
import Derived.Test.YtkcgfceihpampaaGreatDoorCA
import Derived.Test.YtkcgfceihpampaaGreatDoorCT
import Derived.Test.YtkcgfceihpampaaGreatDoorDR
namespace Go.Proofs.YtkcgfceihpampaaGreatDoor
open Go Go.Sx
set_option maxRecDepth 100000
set_option linter.unusedVariables false
theorem ct118v1  {p_s:ByteArray} {res:ByteArray} (h:F118v1 p_s=some res):HCall Tryz.prog 118 [.d (.v (.string p_s))] [] (.fn (.func 180) [] [.ref 0 0]) [.cells [.d (.v (.string res))]]:=by
 refine HCall.of_awpS tt_ok (N:=4) (fl:=0) Tryz.func118 rfl (by kernel_rfl) rfl rfl (Nat.le_of_ble_eq_true rfl) ?_
 unfold F118v1 at h
 refine EN ?_
 refine R0 ?_
 refine R0 ?_
 obtain rfl:=oi h
 exact awp_ret (main_retS [0] (.fn (.func 180) [] [.ref 0 0]) (by kernel_rfl) (by kernel_rfl) (by kernel_rfl) (by kernel_rfl))
theorem ct122  {is:Bool} {res:Unit} (h:F122 is=some res):HCall Tryz.prog 122 [vb is] [] (.tup []) []:=by
 refine HCall.of_awpS tt_ok (N:=5) (fl:=0) Tryz.func122 rfl (by kernel_rfl) rfl rfl (Nat.le_of_ble_eq_true rfl) ?_
 unfold F122 at h
 refine EN ?_
 refine R0 ?_
 refine cd h (fun hb1 h=>?_) (fun hb1 h=>?_)
 ·exact absurd h (by simp)
 ·refine awp_skip ?_
  obtain rfl:=oi h
  exact (main_retN [] (.tup []) (by kernel_rfl) (by kernel_rfl) (by kernel_rfl) (by kernel_rfl))
theorem ct184  {word:ByteArray} {res:Int} (h:F184 word=some res):PCall Tryz.prog 184 [(.v (.string word))] (vi res):=by
 refine PCall.of_awp tt_ok (N:=14) Tryz.func184 rfl (by kernel_rfl) rfl (Nat.le_of_ble_eq_true rfl) rfl ?_
 unfold F184 at h
 refine EN ?_
 refine R0 ?_
 obtain ⟨x1,hx1,h⟩:=ob h
 refine RT (.n 1 (.pc (ct212 hx1) .nil)) ?_
 obtain ⟨x2,hx2,h⟩:=ob h
 refine RT (.n 2 (.hc [] (ct122 hx2) .nil)) ?_
 refine R0 ?_
 obtain rfl:=oi h
 exact awp_ret gm
theorem ct182  {i:Int} {b0x0:List ByteArray} {b2x0:Int} {a3:List ByteArray} {a4:List S_api_ShNote} {res:Int} (h:F182 i b0x0 b2x0 a3 a4=some res):HCall Tryz.prog 182 [vi i,.ref 0 0,.ref 1 0] [.cells [.d (L9 b0x0)],.cells [.ref 2 0],.cells [vi b2x0,.sl 1 3 0 a3.length,.sl 5 4 0 a4.length],.fixed (a3.flatMap cel9),.fixed (a4.flatMap cel121)] (vi res) [.cells [.d (L9 b0x0)],.cells [.ref 2 0],.cells [vi b2x0,.sl 1 3 0 a3.length,.sl 5 4 0 a4.length],.fixed (a3.flatMap cel9),.fixed (a4.flatMap cel121)]:=by
 refine HCall.of_awpS tt_ok (N:=24) (fl:=5) Tryz.func182 rfl (by kernel_rfl) rfl rfl (Nat.le_of_ble_eq_true rfl) ?_
 unfold F182 at h
 refine EN ?_
 refine R0 ?_
 obtain ⟨x1,hx1,h⟩:=ob h
 refine RT (.n 4 (.hc [] (ct122 hx1) .nil)) ?_
 obtain ⟨x2,hx2,h⟩:=ob h
 obtain ⟨x3,hx3,h⟩:=ob h
 refine DT 8 (.n 6 (.ix (idxOk cel9_len hx2) (.n 1 (.p (show argsOk [.cells [.d (L9 b0x0)],.cells [.ref 2 0],.cells [vi b2x0,.sl 1 3 0 a3.length,.sl 5 4 0 a4.length],.fixed (a3.flatMap cel9),.fixed (a4.flatMap cel121)] [.sl 1 3 0 a3.length,.d (.v (.string x2))] [(L9 a3),(.v (.string x2))] from (And.intro (lentOkF cel9_len rfl) (And.intro (rfl) trivial))) (.p (show PCall Tryz.prog 183 [(L9 a3),(.v (.string x2))] (vi x3) from ct183 hx3) (.h (.call [(L9 a3),(.v (.string x2))] (vi x3)) .nil)))))) ?_
 obtain ⟨x4,hx4,h⟩:=ob h
 refine RT (.n 2 (.hc [] (ct122 hx4) .nil)) ?_
 refine R0 ?_
 obtain rfl:=oi h
 exact awp_ret (main_retS [0,1,2,3,4] (vi x3) (by kernel_rfl) (by kernel_rfl) (by kernel_rfl) (by kernel_rfl))
theorem ct119v1  {w:(List ByteArray)} {b0x0:Int} {a1:List ByteArray} {a2:List S_api_ShNote} {res:Int×(List ByteArray)×(List S_api_ShNote)} (h:F119v1 w b0x0 a1 a2=some res):HCall Tryz.prog 119 [.ref 0 0,.d (L9 w)] [.cells [vi b0x0,.sl 1 1 0 a1.length,.sl 5 2 0 a2.length],.data (a1.flatMap cel9),.data (a2.flatMap cel121)] (.tup []) [.cells [vi res.1,.sl 1 1 0 res.2.1.length,.sl 5 2 0 res.2.2.length],.data (res.2.1.flatMap cel9),.data (res.2.2.flatMap cel121)]:=by
 refine HCall.of_awpS tt_ok (N:=131) (fl:=3) Tryz.func119 rfl (by kernel_rfl) rfl rfl (Nat.le_of_ble_eq_true rfl) ?_
 unfold F119v1 at h
 refine EN ?_
 refine R0 ?_
 refine R0 ?_
 obtain ⟨x1,hx1,h⟩:=ob h
 refine RT (.n 1 (.ix (idxOk cel9_len hx1) .nil)) ?_
 refine awp_block (R0 ?_)
 refine cd h (fun hb2 h=>?_) (fun hb2 h=>?_)
 ·obtain ⟨x3,hx3,h⟩:=ob h
  refine RT (.n 3 (.hc [] (ct122 hx3) .nil)) ?_
  obtain ⟨x4,hx4,h⟩:=ob h
  obtain ⟨x5,hx5,h⟩:=ob h
  refine ET 5 (.n 2 (.ix (idxOk cel9_len hx4) (.n 1 (.pc (ct184 hx5) .nil)))) ?_
  obtain rfl:=oi h
  exact (main_retN [0,1,2] (.tup []) (by kernel_rfl) (by kernel_rfl) (by kernel_rfl) (by kernel_rfl))
 ·refine R0 ?_
  refine cd h (fun hb6 h=>?_) (fun hb6 h=>?_)
  ·obtain ⟨x7,hx7,h⟩:=ob h
   refine RT (.n 3 (.hc [] (ct122 hx7) .nil)) ?_
   obtain ⟨x8,hx8,h⟩:=ob h
   obtain ⟨x9,hx9,h⟩:=ob h
   refine ET 10 (.n 6 (.ix (idxOk cel9_len hx8) (.n 2 (.p (show AppendOk ((a1.flatMap cel9).map .d) a1.length ([x8]:List ByteArray).length (a1++([x8]:List ByteArray)).length 1 16 (([x8]:List ByteArray).flatMap cel9) ((a1++([x8]:List ByteArray)).flatMap cel9) from appendOk cel9_len (need_of hx9)) (.h (.app 1 [37] [0] (a1++([x8]:List ByteArray)).length ((a1++([x8]:List ByteArray)).flatMap cel9)) .nil))))) ?_
   obtain rfl:=oi h
   exact (main_retN [0,1,2] (.tup []) (by kernel_rfl) (by kernel_rfl) (by kernel_rfl) (by kernel_rfl))
  ·refine R0 ?_
   refine cd h (fun hb10 h=>?_) (fun hb10 h=>?_)
   ·obtain ⟨x11,hx11,h⟩:=ob h
    refine RT (.n 3 (.hc [] (ct122 hx11) .nil)) ?_
    obtain ⟨x12,hx12,h⟩:=ob h
    obtain ⟨x13,hx13,h⟩:=ob h
    refine RT (.n 1 (.hc [(4,false),(3,false),(0,false),(1,true),(2,true)] (ct182 hx12) (.n 1 (.hc [(4,false),(3,false),(0,false),(1,true),(2,true)] (ct182 hx13) .nil)))) ?_
    obtain ⟨x14,hx14,h⟩:=ob h
    refine ET 10 (.n 9 (.p (show AppendOk ((a2.flatMap cel121).map .d) a2.length ([(⟨3,x12,x13,(⟨0,0⟩:S_api_Span)⟩:S_api_ShNote)]:List S_api_ShNote).length (a2++([(⟨3,x12,x13,(⟨0,0⟩:S_api_Span)⟩:S_api_ShNote)]:List S_api_ShNote)).length 5 40 (([(⟨3,x12,x13,(⟨0,0⟩:S_api_Span)⟩:S_api_ShNote)]:List S_api_ShNote).flatMap cel121) ((a2++([(⟨3,x12,x13,(⟨0,0⟩:S_api_Span)⟩:S_api_ShNote)]:List S_api_ShNote)).flatMap cel121) from appendOk cel121_len (need_of hx14)) (.h (.app 2 [59] [0] (a2++([(⟨3,x12,x13,(⟨0,0⟩:S_api_Span)⟩:S_api_ShNote)]:List S_api_ShNote)).length ((a2++([(⟨3,x12,x13,(⟨0,0⟩:S_api_Span)⟩:S_api_ShNote)]:List S_api_ShNote)).flatMap cel121)) .nil))) ?_
    obtain rfl:=oi h
    exact (main_retN [0,1,2] (.tup []) (by kernel_rfl) (by kernel_rfl) (by kernel_rfl) (by kernel_rfl))
   ·refine awp_seq (R0 ?_)
    refine cuo h (fun (ro15:Int×(List ByteArray)×(List S_api_ShNote))=>[]) (fun (ro15:Int×(List ByteArray)×(List S_api_ShNote))=>[.cells [vi ro15.1,.sl 1 1 0 ro15.2.1.length,.sl 5 2 0 ro15.2.2.length],.data (ro15.2.1.flatMap cel9),.data (ro15.2.2.flatMap cel121)]) (fun (so15:Bool)=>[(2,.ref 3 0),(3,.ref 4 0),(4,.fn (.func 182) [] [.ref 4 0,.ref 3 0]),(12,.d (.v (.string x1))),(67,vb so15)]) (fun (so15:Bool)=>[.cells [vi b0x0,.sl 1 1 0 a1.length,.sl 5 2 0 a2.length],.data (a1.flatMap cel9),.data (a2.flatMap cel121),.cells [.ref 0 0],.cells [.d (L9 w)]]) (fun o15 h=>?_) (fun ro15 h=>?_) (fun so15 h=>?_)
    ·refine awp_selQ (cd h (fun hb16 h=>?_) (fun hb16 h=>?_))
     ·refine awp_skip ?_
      obtain rfl:=oi h
      exact gs [0,1,2,3,4] [2,3,4,12,67] OutQ.norm
     ·refine X0 ?_
      obtain rfl:=oi h
      exact gs [0,1,2,3,4] [2,3,4,12,67] OutQ.norm
    ·obtain rfl:=oi h
     exact (main_retS [0,1,2] (.tup []) (by kernel_rfl) (by kernel_rfl) (by kernel_rfl) (by kernel_rfl))
    ·show awp ..
     refine cd h (fun hb17 h=>?_) (fun hb17 h=>?_)
     ·obtain ⟨x18,hx18,h⟩:=ob h
      refine EN ?_
      refine RT (.n 3 (.hc [] (ct122 hx18) .nil)) ?_
      refine RS 1 ?_
      obtain ⟨x19,hx19,h⟩:=ob h
      obtain ⟨x20,hx20,h⟩:=ob h
      obtain ⟨x21,hx21,h⟩:=ob h
      obtain ⟨x22,hx22,h⟩:=ob h
      obtain ⟨x23,hx23,h⟩:=ob h
      refine DT 13 (.n 1 (.p (show (([(4,.cells [.d (L9 w)]),(3,.cells [.ref 0 0]),(0,.cells [vi b0x0,.sl 1 1 0 a1.length,.sl 5 2 0 a2.length]),(1,.data (a1.flatMap cel9)),(2,.data (a2.flatMap cel121))]:List (Nat×O))=[(4,.cells [.d (L9 w)]),(3,.cells [.ref 0 0]),(0,.cells [vi b0x0,.sl 1 1 0 a1.length,.sl 5 2 0 a2.length]),(1,.data (a1.flatMap cel9)),(2,.data (a2.flatMap cel121))]) from rfl) (.p (show HCall Tryz.prog 182 [vi 1,.ref 0 0,.ref 1 0] [.cells [.d (L9 w)],.cells [.ref 2 0],.cells [vi b0x0,.sl 1 3 0 a1.length,.sl 5 4 0 a2.length],.fixed (a1.flatMap cel9),.fixed (a2.flatMap cel121)] (vi x19) [.cells [.d (L9 w)],.cells [.ref 2 0],.cells [vi b0x0,.sl 1 3 0 a1.length,.sl 5 4 0 a2.length],.fixed (a1.flatMap cel9),.fixed (a2.flatMap cel121)] from ct182 hx19) (.h (.rcall [(4,false),(3,false),(0,false),(1,true),(2,true)] (vi x19)) (.n 1 (.ix (idxOk cel9_len hx20) (.n 1 (.pc (ct184 hx21) (.n 1 (.ix (idxOk cel9_len hx22) (.n 1 (.pc (ct184 hx23) (.n 2 (.h (.res 5) .nil)))))))))))))) ?_
      refine awp_seq ?_
      obtain ⟨x24,hx24,h⟩:=ob h
      refine RT (.n 1 (.ix (idxOk cel9_len hx24) .nil)) ?_
      refine cd h (fun hb25 h=>?_) (fun hb25 h=>?_)
      ·refine X0 ?_
       show awp ..
       obtain ⟨x26,hx26,h⟩:=ob h
       refine ET 8 (.n 7 (.p (show AppendOk ((a2.flatMap cel121).map .d) a2.length ([(⟨2,x19,0,(⟨x21,x23⟩:S_api_Span)⟩:S_api_ShNote)]:List S_api_ShNote).length (a2++([(⟨2,x19,0,(⟨x21,x23⟩:S_api_Span)⟩:S_api_ShNote)]:List S_api_ShNote)).length 5 40 (([(⟨2,x19,0,(⟨x21,x23⟩:S_api_Span)⟩:S_api_ShNote)]:List S_api_ShNote).flatMap cel121) ((a2++([(⟨2,x19,0,(⟨x21,x23⟩:S_api_Span)⟩:S_api_ShNote)]:List S_api_ShNote)).flatMap cel121) from appendOk cel121_len (need_of hx26)) (.h (.app 2 [95] [0] (a2++([(⟨2,x19,0,(⟨x21,x23⟩:S_api_Span)⟩:S_api_ShNote)]:List S_api_ShNote)).length ((a2++([(⟨2,x19,0,(⟨x21,x23⟩:S_api_Span)⟩:S_api_ShNote)]:List S_api_ShNote)).flatMap cel121)) .nil))) ?_
       obtain rfl:=oi h
       exact (main_retN [0,1,2] (.tup []) (by kernel_rfl) (by kernel_rfl) (by kernel_rfl) (by kernel_rfl))
      ·refine awp_skip ?_
       show awp ..
       obtain ⟨x27,hx27,h⟩:=ob h
       refine ET 8 (.n 7 (.p (show AppendOk ((a2.flatMap cel121).map .d) a2.length ([(⟨1,x19,0,(⟨x21,x23⟩:S_api_Span)⟩:S_api_ShNote)]:List S_api_ShNote).length (a2++([(⟨1,x19,0,(⟨x21,x23⟩:S_api_Span)⟩:S_api_ShNote)]:List S_api_ShNote)).length 5 40 (([(⟨1,x19,0,(⟨x21,x23⟩:S_api_Span)⟩:S_api_ShNote)]:List S_api_ShNote).flatMap cel121) ((a2++([(⟨1,x19,0,(⟨x21,x23⟩:S_api_Span)⟩:S_api_ShNote)]:List S_api_ShNote)).flatMap cel121) from appendOk cel121_len (need_of hx27)) (.h (.app 2 [95] [0] (a2++([(⟨1,x19,0,(⟨x21,x23⟩:S_api_Span)⟩:S_api_ShNote)]:List S_api_ShNote)).length ((a2++([(⟨1,x19,0,(⟨x21,x23⟩:S_api_Span)⟩:S_api_ShNote)]:List S_api_ShNote)).flatMap cel121)) .nil))) ?_
       obtain rfl:=oi h
       exact (main_retN [0,1,2] (.tup []) (by kernel_rfl) (by kernel_rfl) (by kernel_rfl) (by kernel_rfl))
     ·refine EN ?_
      refine R0 ?_
      refine cd h (fun hb28 h=>?_) (fun hb28 h=>?_)
      ·obtain ⟨x29,hx29,h⟩:=ob h
       refine RT (.n 3 (.hc [] (ct122 hx29) .nil)) ?_
       refine RS 1 ?_
       obtain ⟨x30,hx30,h⟩:=ob h
       obtain ⟨x31,hx31,h⟩:=ob h
       obtain ⟨x32,hx32,h⟩:=ob h
       obtain ⟨x33,hx33,h⟩:=ob h
       obtain ⟨x34,hx34,h⟩:=ob h
       obtain ⟨x35,hx35,h⟩:=ob h
       refine DT 15 (.n 1 (.p (show (([(4,.cells [.d (L9 w)]),(3,.cells [.ref 0 0]),(0,.cells [vi b0x0,.sl 1 1 0 a1.length,.sl 5 2 0 a2.length]),(1,.data (a1.flatMap cel9)),(2,.data (a2.flatMap cel121))]:List (Nat×O))=[(4,.cells [.d (L9 w)]),(3,.cells [.ref 0 0]),(0,.cells [vi b0x0,.sl 1 1 0 a1.length,.sl 5 2 0 a2.length]),(1,.data (a1.flatMap cel9)),(2,.data (a2.flatMap cel121))]) from rfl) (.p (show HCall Tryz.prog 182 [vi 1,.ref 0 0,.ref 1 0] [.cells [.d (L9 w)],.cells [.ref 2 0],.cells [vi b0x0,.sl 1 3 0 a1.length,.sl 5 4 0 a2.length],.fixed (a1.flatMap cel9),.fixed (a2.flatMap cel121)] (vi x30) [.cells [.d (L9 w)],.cells [.ref 2 0],.cells [vi b0x0,.sl 1 3 0 a1.length,.sl 5 4 0 a2.length],.fixed (a1.flatMap cel9),.fixed (a2.flatMap cel121)] from ct182 hx30) (.h (.rcall [(4,false),(3,false),(0,false),(1,true),(2,true)] (vi x30)) (.n 1 (.p (show (([(4,.cells [.d (L9 w)]),(3,.cells [.ref 0 0]),(0,.cells [vi b0x0,.sl 1 1 0 a1.length,.sl 5 2 0 a2.length]),(1,.data (a1.flatMap cel9)),(2,.data (a2.flatMap cel121))]:List (Nat×O))=[(4,.cells [.d (L9 w)]),(3,.cells [.ref 0 0]),(0,.cells [vi b0x0,.sl 1 1 0 a1.length,.sl 5 2 0 a2.length]),(1,.data (a1.flatMap cel9)),(2,.data (a2.flatMap cel121))]) from rfl) (.p (show HCall Tryz.prog 182 [vi 2,.ref 0 0,.ref 1 0] [.cells [.d (L9 w)],.cells [.ref 2 0],.cells [vi b0x0,.sl 1 3 0 a1.length,.sl 5 4 0 a2.length],.fixed (a1.flatMap cel9),.fixed (a2.flatMap cel121)] (vi x31) [.cells [.d (L9 w)],.cells [.ref 2 0],.cells [vi b0x0,.sl 1 3 0 a1.length,.sl 5 4 0 a2.length],.fixed (a1.flatMap cel9),.fixed (a2.flatMap cel121)] from ct182 hx31) (.h (.rcall [(4,false),(3,false),(0,false),(1,true),(2,true)] (vi x31)) (.n 1 (.ix (idxOk cel9_len hx32) (.n 1 (.pc (ct184 hx33) (.n 1 (.ix (idxOk cel9_len hx34) (.n 1 (.pc (ct184 hx35) (.n 2 (.h (.res 5) .nil)))))))))))))))))) ?_
       obtain ⟨x36,hx36,h⟩:=ob h
       refine ET 8 (.n 7 (.p (show AppendOk ((a2.flatMap cel121).map .d) a2.length ([(⟨4,x30,x31,(⟨x33,x35⟩:S_api_Span)⟩:S_api_ShNote)]:List S_api_ShNote).length (a2++([(⟨4,x30,x31,(⟨x33,x35⟩:S_api_Span)⟩:S_api_ShNote)]:List S_api_ShNote)).length 5 40 (([(⟨4,x30,x31,(⟨x33,x35⟩:S_api_Span)⟩:S_api_ShNote)]:List S_api_ShNote).flatMap cel121) ((a2++([(⟨4,x30,x31,(⟨x33,x35⟩:S_api_Span)⟩:S_api_ShNote)]:List S_api_ShNote)).flatMap cel121) from appendOk cel121_len (need_of hx36)) (.h (.app 2 [125] [0] (a2++([(⟨4,x30,x31,(⟨x33,x35⟩:S_api_Span)⟩:S_api_ShNote)]:List S_api_ShNote)).length ((a2++([(⟨4,x30,x31,(⟨x33,x35⟩:S_api_Span)⟩:S_api_ShNote)]:List S_api_ShNote)).flatMap cel121)) .nil))) ?_
       obtain rfl:=oi h
       exact (main_retN [0,1,2] (.tup []) (by kernel_rfl) (by kernel_rfl) (by kernel_rfl) (by kernel_rfl))
      ·obtain ⟨x37,hx37,h⟩:=ob h
       refine XT (.hc [] (ct122 hx37) .nil) ?_
       obtain rfl:=oi h
       exact (main_retN [0,1,2] (.tup []) (by kernel_rfl) (by kernel_rfl) (by kernel_rfl) (by kernel_rfl))
theorem ct45rv1  {y1:ByteArray} {b1x0:Int} {a2:List ByteArray} {a3:List S_api_ShNote} {res:Int×(List ByteArray)×(List S_api_ShNote)} (h:F45rv1 y1 b1x0 a2 a3=some res):YCall Tryz.prog [.yld 0,.d (.v (.string y1))] [.loop (some none) [12] asn45x0 bdy45x0 33 [(2,.ref 1 0)],.cells [vi b1x0,.sl 1 2 0 a2.length,.sl 5 3 0 a3.length],.data (a2.flatMap cel9),.data (a3.flatMap cel121)] (vb true) [.loop (some none) [12] asn45x0 bdy45x0 33 [(2,.ref 1 0)],.cells [vi res.1,.sl 1 2 0 res.2.1.length,.sl 5 3 0 res.2.2.length],.data (res.2.1.flatMap cel9),.data (res.2.2.flatMap cel121)]:=by
 refine YCall.of_awp (N:=33) (k:=0) (ps:=[12]) (asg:=asn45x0) (bd:=bdy45x0) (Tl:=[(2,.ref 1 0)]) rfl (by kernel_rfl) rfl ?_
 refine awp_eq (T':=[(12,.d (.v (.string y1))),(2,.ref 1 0)]) (H':=[.loop (some none) [12] asn45x0 bdy45x0 33 [(2,.ref 1 0)],.cells [vi b1x0,.sl 1 2 0 a2.length,.sl 5 3 0 a3.length],.data (a2.flatMap cel9),.data (a3.flatMap cel121)]) (by kernel_rfl) rfl ?_
 change awp _ _ _ _ asn45x0 _ _ _
 unfold F45rv1 at h
 refine XA [(2,.ref 1 0),(4,.d (.v (.string y1)))] [.loop (some none) [12] asn45x0 bdy45x0 33 [(2,.ref 1 0)],.cells [vi b1x0,.sl 1 2 0 a2.length,.sl 5 3 0 a3.length],.data (a2.flatMap cel9),.data (a3.flatMap cel121)] ?_
 refine ⟨rfl,by kernel_rfl,?_⟩
 refine awp_eq (T':=[(2,.ref 1 0),(4,.d (.v (.string y1)))]) (H':=[.loop (none) [12] asn45x0 bdy45x0 33 [(2,.ref 1 0)],.cells [vi b1x0,.sl 1 2 0 a2.length,.sl 5 3 0 a3.length],.data (a2.flatMap cel9),.data (a3.flatMap cel121)]) rfl rfl ?_
 refine awp_wkQ ?_
 refine awp_block ?_
 obtain ⟨x1,hx1,h⟩:=ob h
 obtain ⟨x2,hx2,h⟩:=ob h
 obtain ⟨x3,hx3,h⟩:=ob h
 refine EN ?_
 refine XT (.n 1 (.pc (ct121 hx1) (.pc (ct120 hx2) (.hc [(1,false),(2,false),(3,false)] (ct119v1 hx3) .nil)))) ?_
 obtain rfl:=oi h
 repeat (first|refine blockQ_ne (by decide) ?_|refine thenQ_exit ?_|refine noGotoA_exit ?_)
 try delta blockQ
 try delta thenQ
 try delta noGotoA
 show Wk _ _ _ _ _
 refine Wk.mk 4 [] (by kernel_rfl) (T':=[]) (H':=[.loop (none) [12] asn45x0 bdy45x0 33 [(2,.ref 1 0)],.cells [vi x3.1,.sl 1 2 0 x3.2.1.length,.sl 5 3 0 x3.2.2.length],.data (x3.2.1.flatMap cel9),.data (x3.2.2.flatMap cel121)]) (by kernel_rfl) (by kernel_rfl) ?_
 exact ⟨none,rfl,rfl,by kernel_rfl,by kernel_rfl⟩
theorem ct180v1 {fuel:Nat}  {b1x0:Int} {a2:List ByteArray} {a3:List S_api_ShNote} {b4x0:ByteArray} {res:Int×(List ByteArray)×(List S_api_ShNote)×ByteArray} (h:F180v1 fuel b1x0 a2 a3 b4x0=some res):HCall Tryz.prog 180 [.yld 0,.ref 4 0] [.loop (some none) [12] asn45x0 bdy45x0 33 [(2,.ref 1 0)],.cells [vi b1x0,.sl 1 2 0 a2.length,.sl 5 3 0 a3.length],.data (a2.flatMap cel9),.data (a3.flatMap cel121),.cells [.d (.v (.string b4x0))]] (.tup []) [.loop (some none) [12] asn45x0 bdy45x0 33 [(2,.ref 1 0)],.cells [vi res.1,.sl 1 2 0 res.2.1.length,.sl 5 3 0 res.2.2.1.length],.data (res.2.1.flatMap cel9),.data (res.2.2.1.flatMap cel121),.cells [.d (.v (.string res.2.2.2))]]:=by
 refine HCall.of_awpS tt_ok (N:=25) (fl:=5) Tryz.func180 rfl (by kernel_rfl) rfl rfl (Nat.le_of_ble_eq_true rfl) ?_
 unfold F180v1 at h
 refine cuo h (fun (ro1:Int×(List ByteArray)×(List S_api_ShNote)×ByteArray)=>[]) (fun (ro1:Int×(List ByteArray)×(List S_api_ShNote)×ByteArray)=>[.loop (some none) [12] asn45x0 bdy45x0 33 [(2,.ref 1 0)],.cells [vi ro1.1,.sl 1 2 0 ro1.2.1.length,.sl 5 3 0 ro1.2.2.1.length],.data (ro1.2.1.flatMap cel9),.data (ro1.2.2.1.flatMap cel121),.cells [.d (.v (.string ro1.2.2.2))]]) (fun (so1:Int×(List ByteArray)×(List S_api_ShNote)×ByteArray)=>[]) (fun (so1:Int×(List ByteArray)×(List S_api_ShNote)×ByteArray)=>[.loop (some none) [12] asn45x0 bdy45x0 33 [(2,.ref 1 0)],.cells [vi so1.1,.sl 1 2 0 so1.2.1.length,.sl 5 3 0 so1.2.2.1.length],.data (so1.2.1.flatMap cel9),.data (so1.2.2.1.flatMap cel121),.cells [.d (.v (.string so1.2.2.2))]]) (fun o1 h=>?_) (fun ro1 h=>?_) (fun so1 h=>?_)
 ·refine awp_selQ (EN ?_)
  refine LP 5 [0,1] (F180v1L1) o1 (fun (c2:Int×(List ByteArray)×(List S_api_ShNote)×ByteArray)=>pr [(0,.yld 0),(1,.ref 4 0)] [.loop (some none) [12] asn45x0 bdy45x0 33 [(2,.ref 1 0)],.cells [vi c2.1,.sl 1 2 0 c2.2.1.length,.sl 5 3 0 c2.2.2.1.length],.data (c2.2.1.flatMap cel9),.data (c2.2.2.1.flatMap cel121),.cells [.d (.v (.string c2.2.2.2))]]) fuel (b1x0,a2,a3,b4x0) h (fun _=>rfl) ?_
  clear h
  intro n3 c2 h hrn3
  rw [F180v1L1] at h
  refine awp_seq (R0 ?_)
  refine cd h (fun hb4 h=>?_) (fun hb4 h=>?_)
  ·refine awp_skip ?_
   show awp ..
   refine awp_block (R0 ?_)
   refine awp_seq ?_
   obtain ⟨x5,hx5,h⟩:=ob h
   refine RT (.n 1 (.pc (ct181 hx5) .nil)) ?_
   refine R0 ?_
   refine cd h (fun hb6 h=>?_) (fun hb6 h=>?_)
   ·obtain ⟨x7,hx7,h⟩:=ob h
    obtain ⟨x8,hx8,h⟩:=ob h
    refine ET 9 (.n 3 (.p (show (0≤(0:Int)∧(0:Int)≤(w64 (x5+1))∧(w64 (x5+1))≤(c2.2.2.2.size:Int)) from need_of hx7) (.n 1 (.n 3 (.p (show (0≤(w64 (x5+1))∧(w64 (x5+1))≤(c2.2.2.2.size:Int)∧(c2.2.2.2.size:Int)≤(c2.2.2.2.size:Int)) from need_of hx8) (.n 1 .nil)))))) ?_
    show awp ..
    obtain ⟨x9,hx9,h⟩:=ob h
    refine RT (.n 2 (.yc [(0,false),(1,false),(2,false),(3,false)] (ct45rv1 hx9) .nil)) ?_
    refine awp_cond (b:=false) (by kernel_rfl) (fun hb=>absurd hb (by decide)) (fun hb=>?_)
    exact awp_skip (gn 5 [0,1] (hrn3 (x9.1,x9.2.1,x9.2.2,(c2.2.2.2.extract (w64 (x5+1)).toNat (c2.2.2.2.size:Int).toNat)) h))
   ·refine X0 ?_
    show awp ..
    obtain ⟨x10,hx10,h⟩:=ob h
    refine RT (.n 2 (.yc [(0,false),(1,false),(2,false),(3,false)] (ct45rv1 hx10) .nil)) ?_
    refine awp_cond (b:=false) (by kernel_rfl) (fun hb=>absurd hb (by decide)) (fun hb=>?_)
    exact awp_skip (gn 5 [0,1] (hrn3 (x10.1,x10.2.1,x10.2.2,(⟨#[]⟩:ByteArray)) h))
  ·refine awp_exit ?_
   obtain rfl:=oi h
   exact gs [0,1,2,3,4] [] OutQ.norm
 ·obtain rfl:=oi h
  exact (main_retS [0,1,2,3,4] (.tup []) (by kernel_rfl) (by kernel_rfl) (by kernel_rfl) (by kernel_rfl))
 ·obtain rfl:=oi h
  exact (main_retN [0,1,2,3,4] (.tup []) (by kernel_rfl) (by kernel_rfl) (by kernel_rfl) (by kernel_rfl))
theorem ct45v1 {fuel:Nat}  {p_t:ByteArray} {res:S_api_ShSheet×Int} (h:F45v1 fuel p_t=some res):HCall Tryz.prog 45 [.d (.v (.string p_t))] [] (.tup [.d (.agg [(di res.1.Interval),(L9 res.1.Points),(L121 res.1.Notes)]),vi res.2]) []:=by
 refine HCall.of_awpF tt_ok (N:=33) (fl:=0) Tryz.func45 rfl (by kernel_rfl) rfl rfl (Nat.le_of_ble_eq_true rfl) ?_
 unfold F45v1 at h
 refine awpF_seq ?_
 refine XA [(0,.d (.v (.string p_t))),(2,.ref 0 0),(3,.ref 1 0)] [.cells [vi 0,.d dnil,.d dnil],.cells [vi 0]] ?_
 show awpF _ _ _ _ _ _ _
 refine awpF_seq ?_
 refine EN ?_
 refine R0 ?_
 refine cd h (fun hb1 h=>?_) (fun hb1 h=>?_)
 ·refine R0 ?_
  obtain rfl:=oi h
  refine WA 2 [(2,.ref 0 0),(3,.ref 1 0)] [.cells [vi 0,.d dnil,.d dnil],.cells [vi 3]] ?_
  refine awp_laxC 0 1 _ (L9 ([]:List ByteArray)) [vi 0,.d dnil,.d dnil] _ (by kernel_rfl) (by kernel_rfl) (.nil (e:=1)) rfl ?_
  refine WA 2 [(2,.ref 0 0),(3,.ref 1 0)] [.cells [vi 0,.d (L9 ([]:List ByteArray)),.d dnil],.cells [vi 3]] ?_
  refine awp_laxC 0 2 _ (L121 ([]:List S_api_ShNote)) [vi 0,.d (L9 ([]:List ByteArray)),.d dnil] _ (by kernel_rfl) (by kernel_rfl) (.nil (e:=5)) rfl ?_
  refine WA 2 [(2,.ref 0 0),(3,.ref 1 0)] [.cells [vi 0,.d (L9 ([]:List ByteArray)),.d (L121 ([]:List S_api_ShNote))],.cells [vi 3]] ?_
  exact awp_ret (main_retS [] (.tup [.d (.agg [(di 0),(L9 ([]:List ByteArray)),(L121 ([]:List S_api_ShNote))]),vi 3]) (by kernel_rfl) (by kernel_rfl) (by kernel_rfl) (by kernel_rfl))
 ·refine awp_skip ?_
  show awpF _ _ _ _ _ _ _
  refine awpF_defer tt_ok [0,2,3] rfl rfl rfl rfl (by decide) rfl rfl rfl rfl rfl idle117 ?_
  refine awp_eq (T':=[(0,.d (.v (.string p_t))),(2,.ref 0 0),(3,.ref 1 0)]) (H':=[.cells [vi 0,.d dnil,.d dnil],.cells [vi 0]]) (by kernel_rfl) rfl ?_
  refine awp_seq (awp_nilC 0 1 1 [vi 0,.d dnil,.d dnil] [.cells [vi 0,.sl 1 2 0 ([]:List ByteArray).length,.d dnil],.cells [vi 0],.data (([]:List ByteArray).flatMap cel9)] (by kernel_rfl) (by kernel_rfl) (by kernel_rfl) ?_)
  refine awp_nilC 0 2 5 [vi 0,.sl 1 2 0 ([]:List ByteArray).length,.d dnil] [.cells [vi 0,.sl 1 2 0 ([]:List ByteArray).length,.sl 5 3 0 ([]:List S_api_ShNote).length],.cells [vi 0],.data (([]:List ByteArray).flatMap cel9),.data (([]:List S_api_ShNote).flatMap cel121)] (by kernel_rfl) (by kernel_rfl) (by kernel_rfl) ?_
  obtain ⟨x2,hx2,h⟩:=ob h
  refine EN ?_
  refine RT (.n 1 (.hc [] (ct118v1 hx2) .nil)) ?_
  refine awp_block (WA 5 [(0,.d (.v (.string p_t))),(2,.ref 0 0),(3,.ref 1 0),(11,.fn (.func 180) [] [.ref 4 0])] [.cells [vi 0,.sl 1 2 0 ([]:List ByteArray).length,.sl 5 3 0 ([]:List S_api_ShNote).length],.cells [vi 0],.data (([]:List ByteArray).flatMap cel9),.data (([]:List S_api_ShNote).flatMap cel121),.cells [.d (.v (.string x2))]] ?_)
  obtain ⟨x3,hx3,h⟩:=ob h
  refine awp_range (ks:=[2]) (ids:=[(5,false),(0,false),(2,false),(3,false),(4,false)]) (r := .tup []) (Hc:=[.loop (some none) [12] asn45x0 bdy45x0 33 [(2,.ref 1 0)],.cells [vi x3.1,.sl 1 2 0 x3.2.1.length,.sl 5 3 0 x3.2.2.1.length],.data (x3.2.1.flatMap cel9),.data (x3.2.2.1.flatMap cel121),.cells [.d (.v (.string x3.2.2.2))]]) none [(0,.d (.v (.string p_t))),(2,.ref 0 0),(3,.ref 1 0),(11,.fn (.func 180) [] [.ref 4 0])] [.cells [vi x3.1,.sl 1 2 0 x3.2.1.length,.sl 5 3 0 x3.2.2.1.length],.cells [vi 0],.data (x3.2.1.flatMap cel9),.data (x3.2.2.1.flatMap cel121),.cells [.d (.v (.string x3.2.2.2))],.data []] [HCall Tryz.prog 180 [.yld 0,.ref 4 0] [.loop (some none) [12] asn45x0 bdy45x0 33 [(2,.ref 1 0)],.cells [vi 0,.sl 1 2 0 ([]:List ByteArray).length,.sl 5 3 0 ([]:List S_api_ShNote).length],.data (([]:List ByteArray).flatMap cel9),.data (([]:List S_api_ShNote).flatMap cel121),.cells [.d (.v (.string x2))]] (.tup []) [.loop (some none) [12] asn45x0 bdy45x0 33 [(2,.ref 1 0)],.cells [vi x3.1,.sl 1 2 0 x3.2.1.length,.sl 5 3 0 x3.2.2.1.length],.data (x3.2.1.flatMap cel9),.data (x3.2.2.1.flatMap cel121),.cells [.d (.v (.string x3.2.2.2))]]] rfl (by kernel_rfl) (ct180v1 hx3) (fun _=>?_) (fun c hc=>absurd hc (by simp))
  show awp ..
  refine awp_freezeC 0 1 2 (x3.2.1.flatMap cel9) [vi x3.1,.sl 1 2 0 x3.2.1.length,.sl 5 3 0 x3.2.2.1.length] (.sl 1 2 0 x3.2.1.length) (.d (L9 x3.2.1)) _ _ (ps:=[(x3.2.1.flatMap cel9).length=x3.2.1.length*1]) (by kernel_rfl) (by kernel_rfl) (by kernel_rfl) (by kernel_rfl) (flatMap_len cel9 1 cel9_len x3.2.1) rfl rfl ?_
  refine WA 6 [(0,.d (.v (.string p_t))),(2,.ref 0 0),(3,.ref 1 0),(11,.fn (.func 180) [] [.ref 4 0])] [.cells [vi x3.1,.d (L9 x3.2.1),.sl 5 3 0 x3.2.2.1.length],.cells [vi 0],.data (([]:List ByteArray).flatMap cel9),.data (x3.2.2.1.flatMap cel121),.cells [.d (.v (.string x3.2.2.2))],.data []] ?_
  refine awp_freezeC 0 2 3 (x3.2.2.1.flatMap cel121) [vi x3.1,.d (L9 x3.2.1),.sl 5 3 0 x3.2.2.1.length] (.sl 5 3 0 x3.2.2.1.length) (.d (L121 x3.2.2.1)) _ _ (ps:=[(x3.2.2.1.flatMap cel121).length=x3.2.2.1.length*5]) (by kernel_rfl) (by kernel_rfl) (by kernel_rfl) (by kernel_rfl) (flatMap_len cel121 5 cel121_len x3.2.2.1) rfl rfl ?_
  refine WA 6 [(0,.d (.v (.string p_t))),(2,.ref 0 0),(3,.ref 1 0),(11,.fn (.func 180) [] [.ref 4 0])] [.cells [vi x3.1,.d (L9 x3.2.1),.d (L121 x3.2.2.1)],.cells [vi 0],.data (([]:List ByteArray).flatMap cel9),.data (([]:List S_api_ShNote).flatMap cel121),.cells [.d (.v (.string x3.2.2.2))],.data []] ?_
  obtain ⟨x4,hx4,h⟩:=ob h
  refine EN ?_
  refine RT (.n 1 (.pc (ct65 hx4) .nil)) ?_
  obtain ⟨x5,hx5,h⟩:=ob h
  obtain ⟨x6,hx6,h⟩:=ob h
  let g1:=(x4.2.2==0)
  refine RT (.n 4 (.i g1 (.p (show (g1=true→PCall Tryz.prog 116 [(.agg [(di x3.1),(L9 x3.2.1),(L121 x3.2.2.1)])] (.d (.v (.string x5)))) from (fun hg=>ct116 (optG_of hx5 hg))) (.h (.call [(.agg [(di x3.1),(L9 x3.2.1),(L121 x3.2.2.1)])] (.d (.v (.string x5)))) (.n 1 (.i g1 (.i g1 (.n 1 (.i g1 (.n 1 (.hc [] (ct122 hx6) .nil))))))))))) ?_
  refine R0 ?_
  obtain rfl:=oi h
  exact awp_ret (main_retS [] (.tup [.d (.agg [(di x3.1),(L9 x3.2.1),(L121 x3.2.2.1)]),vi 0]) (by kernel_rfl) (by kernel_rfl) (by kernel_rfl) (by kernel_rfl))
end Go.Proofs.YtkcgfceihpampaaGreatDoor
