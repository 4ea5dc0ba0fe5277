/- That functions of the seat compute this. Printed by a program of mine. -/
import Derived.Test.YtkcgfceihpampaaGreatDoorS
import Derived.Test.YtkcgfceihpampaaGreatDoorDY
namespace Go.Proofs.YtkcgfceihpampaaGreatDoor
open Go Go.Sx
set_option maxRecDepth 100000
set_option linter.unusedVariables false
theorem ct9 {fuel:Nat}  {p_r:S_api_CvRow} {res:S_api_ShSheet} (h:F9 fuel p_r=some res):PCall Tryz.prog 9 [(.agg [(di p_r.Steep),(L91 p_r.Points)])] (.d (.agg [(di res.Interval),(L9 res.Points),(L121 res.Notes)])):=by
 refine PCall.of_awp tt_ok (N:=62) Tryz.func9 rfl (by kernel_rfl) rfl (Nat.le_of_ble_eq_true rfl) rfl ?_
 unfold F9 at h
 refine EN ?_
 refine R0 ?_
 refine R0 ?_
 refine R0 ?_
 refine awp_seq (R0 ?_)
 refine WA 3 [(1,.ref 0 0),(2,.ref 1 0),(3,.ref 2 0),(4,.d (L9 ([(⟨#[97]⟩:ByteArray),(⟨#[98]⟩:ByteArray),(⟨#[99]⟩:ByteArray),(⟨#[100]⟩:ByteArray),(⟨#[101]⟩:ByteArray),(⟨#[102]⟩:ByteArray)]:List ByteArray))),(5,vi 0)] [.cells [vi p_r.Steep,.d (L91 p_r.Points)],.cells [vi 0,.d dnil,.d dnil],.cells [vi 1,.d dnil,.d dnil]] ?_
 refine awp_nilC 2 1 1 [vi 1,.d dnil,.d dnil] [.cells [vi p_r.Steep,.d (L91 p_r.Points)],.cells [vi 0,.d dnil,.d dnil],.cells [vi 1,.sl 1 3 0 ([]:List ByteArray).length,.d dnil],.data (([]:List ByteArray).flatMap cel9)] (by kernel_rfl) (by kernel_rfl) (by kernel_rfl) ?_
 refine WA 4 [(1,.ref 0 0),(2,.ref 1 0),(3,.ref 2 0),(4,.d (L9 ([(⟨#[97]⟩:ByteArray),(⟨#[98]⟩:ByteArray),(⟨#[99]⟩:ByteArray),(⟨#[100]⟩:ByteArray),(⟨#[101]⟩:ByteArray),(⟨#[102]⟩:ByteArray)]:List ByteArray))),(5,vi 0)] [.cells [vi p_r.Steep,.d (L91 p_r.Points)],.cells [vi 0,.d dnil,.d dnil],.cells [vi 1,.sl 1 3 0 ([]:List ByteArray).length,.d dnil],.data (([]:List ByteArray).flatMap cel9)] ?_
 refine awp_nilC 2 2 5 [vi 1,.sl 1 3 0 ([]:List ByteArray).length,.d dnil] [.cells [vi p_r.Steep,.d (L91 p_r.Points)],.cells [vi 0,.d dnil,.d dnil],.cells [vi 1,.sl 1 3 0 ([]:List ByteArray).length,.sl 5 4 0 ([]:List S_api_ShNote).length],.data (([]:List ByteArray).flatMap cel9),.data (([]:List S_api_ShNote).flatMap cel121)] (by kernel_rfl) (by kernel_rfl) (by kernel_rfl) ?_
 refine WA 5 [(1,.ref 0 0),(2,.ref 1 0),(3,.ref 2 0),(4,.d (L9 ([(⟨#[97]⟩:ByteArray),(⟨#[98]⟩:ByteArray),(⟨#[99]⟩:ByteArray),(⟨#[100]⟩:ByteArray),(⟨#[101]⟩:ByteArray),(⟨#[102]⟩:ByteArray)]:List ByteArray))),(5,vi 0)] [.cells [vi p_r.Steep,.d (L91 p_r.Points)],.cells [vi 0,.d dnil,.d dnil],.cells [vi 1,.sl 1 3 0 ([]:List ByteArray).length,.sl 5 4 0 ([]:List S_api_ShNote).length],.data (([]:List ByteArray).flatMap cel9),.data (([]:List S_api_ShNote).flatMap cel121)] ?_
 refine cuo h (fun (ro3:S_api_ShSheet)=>[(2,.ref 0 0)]) (fun (ro3:S_api_ShSheet)=>[.cells [vi ro3.Interval,.d (L9 ro3.Points),.d (L121 ro3.Notes)]]) (fun (so3:(List ByteArray)×(List S_api_ShNote))=>[(2,.ref 1 0),(3,.ref 2 0)]) (fun (so3:(List ByteArray)×(List S_api_ShNote))=>[.cells [vi p_r.Steep,.d (L91 p_r.Points)],.cells [vi 0,.d dnil,.d dnil],.cells [vi 1,.sl 1 3 0 so3.1.length,.sl 5 4 0 so3.2.length],.data (so3.1.flatMap cel9),.data (so3.2.flatMap cel121)]) (fun o3 h=>?_) (fun ro3 h=>?_) (fun so3 h=>?_)
 ·refine awp_selQ (EN ?_)
  refine LP 5 [1,2,3,4,5] (F9L1 p_r) o3 (fun (c4:Int×(List ByteArray)×(List S_api_ShNote))=>pr [(1,.ref 0 0),(2,.ref 1 0),(3,.ref 2 0),(4,.d (L9 ([(⟨#[97]⟩:ByteArray),(⟨#[98]⟩:ByteArray),(⟨#[99]⟩:ByteArray),(⟨#[100]⟩:ByteArray),(⟨#[101]⟩:ByteArray),(⟨#[102]⟩:ByteArray)]:List ByteArray))),(5,vi c4.1)] [.cells [vi p_r.Steep,.d (L91 p_r.Points)],.cells [vi 0,.d dnil,.d dnil],.cells [vi 1,.sl 1 3 0 c4.2.1.length,.sl 5 4 0 c4.2.2.length],.data (c4.2.1.flatMap cel9),.data (c4.2.2.flatMap cel121)]) fuel (0,([]:List ByteArray),([]:List S_api_ShNote)) h (fun _=>rfl) ?_
  clear h
  intro n5 c4 h hrn5
  rw [F9L1] at h
  refine awp_seq (R0 ?_)
  refine cd h (fun hb6 h=>?_) (fun hb6 h=>?_)
  ·refine awp_skip ?_
   show awp ..
   refine awp_seq (awp_block ?_)
   obtain ⟨x7,hx7,h⟩:=ob h
   obtain ⟨x8,hx8,h⟩:=ob h
   refine DT 7 (.n 4 (.ix (idxOk cel9_len hx7) (.n 2 (.p (show AppendOk ((c4.2.1.flatMap cel9).map .d) c4.2.1.length ([x7]:List ByteArray).length (c4.2.1++([x7]:List ByteArray)).length 1 16 (([x7]:List ByteArray).flatMap cel9) ((c4.2.1++([x7]:List ByteArray)).flatMap cel9) from appendOk cel9_len (need_of hx8)) (.h (.list (c4.2.1++([x7]:List ByteArray)).length ((c4.2.1++([x7]:List ByteArray)).flatMap cel9)) .nil))))) ?_
   obtain ⟨x9,hx9,h⟩:=ob h
   obtain ⟨x10,hx10,h⟩:=ob h
   obtain ⟨x11,hx11,h⟩:=ob h
   refine DT 18 (.n 6 (.ix (idxOk cel91_len hx9) (.n 5 (.ix (idxOk cel91_len hx10) (.n 5 (.p (show AppendOk ((c4.2.2.flatMap cel121).map .d) c4.2.2.length ([(⟨1,c4.1,0,(⟨x9.Lo,x10.Hi⟩:S_api_Span)⟩:S_api_ShNote)]:List S_api_ShNote).length (c4.2.2++([(⟨1,c4.1,0,(⟨x9.Lo,x10.Hi⟩:S_api_Span)⟩:S_api_ShNote)]:List S_api_ShNote)).length 5 40 (([(⟨1,c4.1,0,(⟨x9.Lo,x10.Hi⟩:S_api_Span)⟩:S_api_ShNote)]:List S_api_ShNote).flatMap cel121) ((c4.2.2++([(⟨1,c4.1,0,(⟨x9.Lo,x10.Hi⟩:S_api_Span)⟩:S_api_ShNote)]:List S_api_ShNote)).flatMap cel121) from appendOk cel121_len (need_of hx11)) (.h (.list (c4.2.2++([(⟨1,c4.1,0,(⟨x9.Lo,x10.Hi⟩:S_api_Span)⟩:S_api_ShNote)]:List S_api_ShNote)).length ((c4.2.2++([(⟨1,c4.1,0,(⟨x9.Lo,x10.Hi⟩:S_api_Span)⟩:S_api_ShNote)]:List S_api_ShNote)).flatMap cel121)) .nil))))))) ?_
   refine R0 ?_
   refine cd h (fun hb12 h=>?_) (fun hb12 h=>?_)
   ·obtain ⟨x13,hx13,h⟩:=ob h
    refine XT (.n 13 (.p (show AppendOk (((c4.2.2++([(⟨1,c4.1,0,(⟨x9.Lo,x10.Hi⟩:S_api_Span)⟩:S_api_ShNote)]:List S_api_ShNote)).flatMap cel121).map .d) (c4.2.2++([(⟨1,c4.1,0,(⟨x9.Lo,x10.Hi⟩:S_api_Span)⟩:S_api_ShNote)]:List S_api_ShNote)).length ([(⟨4,c4.1,(w64 (c4.1-1)),(⟨(w64 (0-p_r.Steep)),p_r.Steep⟩:S_api_Span)⟩:S_api_ShNote)]:List S_api_ShNote).length ((c4.2.2++([(⟨1,c4.1,0,(⟨x9.Lo,x10.Hi⟩:S_api_Span)⟩:S_api_ShNote)]:List S_api_ShNote))++([(⟨4,c4.1,(w64 (c4.1-1)),(⟨(w64 (0-p_r.Steep)),p_r.Steep⟩:S_api_Span)⟩:S_api_ShNote)]:List S_api_ShNote)).length 5 40 (([(⟨4,c4.1,(w64 (c4.1-1)),(⟨(w64 (0-p_r.Steep)),p_r.Steep⟩:S_api_Span)⟩:S_api_ShNote)]:List S_api_ShNote).flatMap cel121) (((c4.2.2++([(⟨1,c4.1,0,(⟨x9.Lo,x10.Hi⟩:S_api_Span)⟩:S_api_ShNote)]:List S_api_ShNote))++([(⟨4,c4.1,(w64 (c4.1-1)),(⟨(w64 (0-p_r.Steep)),p_r.Steep⟩:S_api_Span)⟩:S_api_ShNote)]:List S_api_ShNote)).flatMap cel121) from appendOk cel121_len (need_of hx13)) (.h (.list ((c4.2.2++([(⟨1,c4.1,0,(⟨x9.Lo,x10.Hi⟩:S_api_Span)⟩:S_api_ShNote)]:List S_api_ShNote))++([(⟨4,c4.1,(w64 (c4.1-1)),(⟨(w64 (0-p_r.Steep)),p_r.Steep⟩:S_api_Span)⟩:S_api_ShNote)]:List S_api_ShNote)).length (((c4.2.2++([(⟨1,c4.1,0,(⟨x9.Lo,x10.Hi⟩:S_api_Span)⟩:S_api_ShNote)]:List S_api_ShNote))++([(⟨4,c4.1,(w64 (c4.1-1)),(⟨(w64 (0-p_r.Steep)),p_r.Steep⟩:S_api_Span)⟩:S_api_ShNote)]:List S_api_ShNote)).flatMap cel121)) .nil))) ?_
    show awp ..
    refine X0 ?_
    exact gn 5 [1,2,3,4,5] (hrn5 _ h)
   ·refine awp_skip ?_
    show awp ..
    refine X0 ?_
    exact gn 5 [1,2,3,4,5] (hrn5 _ h)
  ·refine awp_exit ?_
   obtain rfl:=oi h
   exact gs [0,1,2,3,4] [2,3] OutQ.norm
 ·obtain rfl:=oi h
  exact gm
 ·show awp ..
  refine EN ?_
  refine R0 ?_
  obtain rfl:=oi h
  refine WA 5 [(2,.ref 1 0)] [.cells [vi p_r.Steep,.d (L91 p_r.Points)],.cells [vi 1,.sl 1 3 0 so3.1.length,.sl 5 4 0 so3.2.length],.cells [vi 1,.sl 1 3 0 so3.1.length,.sl 5 4 0 so3.2.length],.data (so3.1.flatMap cel9),.data (so3.2.flatMap cel121)] ?_
  refine awp_freezeC 1 1 3 (so3.1.flatMap cel9) [vi 1,.sl 1 3 0 so3.1.length,.sl 5 4 0 so3.2.length] (.sl 1 3 0 so3.1.length) (.d (L9 so3.1)) _ _ (ps:=[(so3.1.flatMap cel9).length=so3.1.length*1]) (by kernel_rfl) (by kernel_rfl) (by kernel_rfl) (by kernel_rfl) (flatMap_len cel9 1 cel9_len so3.1) rfl rfl ?_
  refine WA 5 [(2,.ref 1 0)] [.cells [vi p_r.Steep,.d (L91 p_r.Points)],.cells [vi 1,.d (L9 so3.1),.sl 5 4 0 so3.2.length],.cells [vi 1,.top,.sl 5 4 0 so3.2.length],.data (([]:List ByteArray).flatMap cel9),.data (so3.2.flatMap cel121)] ?_
  refine awp_freezeC 1 2 4 (so3.2.flatMap cel121) [vi 1,.d (L9 so3.1),.sl 5 4 0 so3.2.length] (.sl 5 4 0 so3.2.length) (.d (L121 so3.2)) _ _ (ps:=[(so3.2.flatMap cel121).length=so3.2.length*5]) (by kernel_rfl) (by kernel_rfl) (by kernel_rfl) (by kernel_rfl) (flatMap_len cel121 5 cel121_len so3.2) rfl rfl ?_
  refine WA 5 [(2,.ref 1 0)] [.cells [vi p_r.Steep,.d (L91 p_r.Points)],.cells [vi 1,.d (L9 so3.1),.d (L121 so3.2)],.cells [vi 1,.top,.top],.data (([]:List ByteArray).flatMap cel9),.data (([]:List S_api_ShNote).flatMap cel121)] ?_
  exact awp_ret gm
end Go.Proofs.YtkcgfceihpampaaGreatDoor
