/- That functions of the seat compute this. Printed by a program of mine. -/
import Derived.Test.YtkcgfceihpampaaGreatDoorS
import Derived.Test.YtkcgfceihpampaaGreatDoorDI
namespace Go.Proofs.YtkcgfceihpampaaGreatDoor
open Go Go.Sx
set_option maxRecDepth 100000
set_option linter.unusedVariables false
theorem ct35 {fuel:Nat} {p_c really changes res} (h:F35 fuel p_c really changes=some res):PCall Tryz.prog 35 [(.agg [(di p_c.Tol),(L82 p_c.Sheets),(L174 p_c.Edges)]),(.agg [(di really.Tol),(L82 really.Sheets),(L174 really.Edges)]),(L3 changes)] (.tup [.d (.agg [(di res.1.Interval),(L9 res.1.Points),(L121 res.1.Notes)]),.d (L3 res.2)]):=by
 refine PO 174 Tryz.func35 rfl ?_;unfold F35 at h;refine EN (R0 (R0 (R0 ?_)));refine RT (.n 2 (.p (by decide:(2:Int)≠0) (.n 1 .nil))) (R0 (awp_seq (R0 ?_)))
 let q1:Nat×V:=(9,.d (L9 ([(⟨#[97]⟩:ByteArray),(⟨#[98]⟩:ByteArray),(⟨#[99]⟩:ByteArray),(⟨#[100]⟩:ByteArray),(⟨#[101]⟩:ByteArray),(⟨#[102]⟩:ByteArray)]:List ByteArray)))
 let q2:O:=.cells [vi really.Tol,.d (L82 really.Sheets),.d (L174 really.Edges)]
 let q3:O:=.cells [vi p_c.Tol,.d (L82 p_c.Sheets),.d (L174 p_c.Edges)]
 let q4:O:=.cells [vi 0,.d dnil,.d dnil]
 let q6:Nat×V:=(10,vi (w64 (p_c.Tol.tdiv 2)))
 let q9:Nat×V:=(2,.d (L3 changes))
 let q14:O:=.cells [vi 100,.d dnil,.d dnil]
 refine WA 4 [q9,(3,rf 0),(4,rf 1),(6,rf 2),(8,rf 3),q1,q6,(11,.d dnil),(12,vi 0)] [q3,q2,q4,q14] (awp_nil 11 1 (by kernel_rfl) ?_)
 let q5:O:=.data (([]:List Int).flatMap cel3)
 let q10:Nat×V:=(11,.sl 1 4 0 ([]:List Int).length)
 refine awp_eq (T':=[q10,q9,(3,rf 0),(4,rf 1),(6,rf 2),(8,rf 3),q1,q6,(12,vi 0)]) (H':=[q3,q2,q4,q14,q5]) (by kernel_rfl) (by kernel_rfl) (WA 5 [q9,(3,rf 0),(4,rf 1),(6,rf 2),(8,rf 3),q1,q6,q10,(12,vi 0)] [q3,q2,q4,q14,q5] ?_)
 let q11:=([]:List ByteArray)
 let q8:O:=.data (q11.flatMap cel9)
 refine awp_nilC 3 1 1 [vi 100,.d dnil,.d dnil] [q3,q2,q4,.cells [vi 100,.sl 1 5 0 q11.length,.d dnil],q5,q8] (by kernel_rfl) (by kernel_rfl) (by kernel_rfl) (WA 6 [q9,(3,rf 0),(4,rf 1),(6,rf 2),(8,rf 3),q1,q6,q10,(12,vi 0)] [q3,q2,q4,.cells [vi 100,.sl 1 5 0 q11.length,.d dnil],q5,q8] ?_)
 let q12:=([]:List S_api_ShNote)
 refine awp_nilC 3 2 5 [vi 100,.sl 1 5 0 q11.length,.d dnil] [q3,q2,q4,.cells [vi 100,.sl 1 5 0 q11.length,.sl 5 6 0 q12.length],q5,q8,.data (q12.flatMap cel121)] (by kernel_rfl) (by kernel_rfl) (by kernel_rfl) (WA 7 [q9,(3,rf 0),(4,rf 1),(6,rf 2),(8,rf 3),q1,q6,q10,(12,vi 0)] [q3,q2,q4,.cells [vi 100,.sl 1 5 0 q11.length,.sl 5 6 0 q12.length],q5,q8,.data (q12.flatMap cel121)] (cuo h (fun ro4=>[(6,rf 0),(7,.d (L3 ro4.2))]) (fun ro4=>[.cells [vi ro4.1.Interval,.d (L9 ro4.1.Points),.d (L121 ro4.1.Notes)]]) (fun so4=>[(6,rf 2),(8,rf 3),(11,.sl 1 4 0 so4.1.length)]) (fun so4=>[q3,q2,q4,.cells [vi 100,.sl 1 5 0 so4.2.1.length,.sl 5 6 0 so4.2.2.length],.data (so4.1.flatMap cel3),.data (so4.2.1.flatMap cel9),.data (so4.2.2.flatMap cel121)]) (fun o4 h=>?_) (fun ro4 h=>?_) (fun so4 h=>?_)))
 ·refine awp_selQ (EN (LP 7 [2,3,4,6,8,9,10,11,12] (F35L1 fuel p_c really changes) o4 (fun c5=>pr [q9,(3,rf 0),(4,rf 1),(6,rf 2),(8,rf 3),q1,q6,(11,.sl 1 4 0 c5.2.1.length),(12,vi c5.1)] [q3,q2,q4,.cells [vi 100,.sl 1 5 0 c5.2.2.1.length,.sl 5 6 0 c5.2.2.2.length],.data (c5.2.1.flatMap cel3),.data (c5.2.2.1.flatMap cel9),.data (c5.2.2.2.flatMap cel121)]) fuel (0,([]:List Int),q11,q12) h (fun _=>rfl) ?_));clear h;intro n6 c5 h hrn6;rw [F35L1] at h;refine awp_seq (R0 (cd h (fun hb7 h=>?_) (fun hb7 h=>?_)))
  ·refine SK (awp_seq (awp_block ?_));obtain ⟨x8,hx8,h⟩:=ob h;refine RT (.n 3 (.ix (idxOk cel174_len hx8) .nil)) (R0 ?_)
   let q13:O:=.cells [vi x8.A,vi x8.B,.d (L183 x8.Points)]
   refine cuo h (fun ro9=>[(6,rf 0),(7,.d (L3 ro9.2))]) (fun ro9=>[.cells [vi ro9.1.Interval,.d (L9 ro9.1.Points),.d (L121 ro9.1.Notes)]]) (fun so9=>[q9,(3,rf 0),(4,rf 1),(6,rf 2),(8,rf 3),q1,q6,(11,.sl 1 4 0 so9.1.length),(12,vi c5.1)]) (fun so9=>[q3,q2,q4,.cells [vi 100,.sl 1 5 0 so9.2.1.length,.sl 5 6 0 so9.2.2.length],.data (so9.1.flatMap cel3),.data (so9.2.1.flatMap cel9),.data (so9.2.2.flatMap cel121),q13]) (fun o9 h=>?_) (fun ro9 h=>?_) (fun so9 h=>?_)
   ·refine awp_selQ (LP 8 [2,3,4,6,8,9,10,11,12,13,14] (F35L2 p_c really changes c5 x8) o9 (fun c10=>pr [q9,(3,rf 0),(4,rf 1),(6,rf 2),(8,rf 3),q1,q6,(11,.sl 1 4 0 c10.2.1.length),(12,vi c5.1),(13,rf 7),(14,vi c10.1)] [q3,q2,q4,.cells [vi 100,.sl 1 5 0 c10.2.2.1.length,.sl 5 6 0 c10.2.2.2.length],.data (c10.2.1.flatMap cel3),.data (c10.2.2.1.flatMap cel9),.data (c10.2.2.2.flatMap cel121),q13]) fuel (0,c5.2.1,c5.2.2.1,c5.2.2.2) h (fun _=>rfl) ?_);clear h;intro n11 c10 h hrn11;rw [F35L2] at h;refine awp_seq ?_
    let g1:=(decide (c10.1<(x8.Points.length:Int)))
    refine RT (.n 7 (.i g1 (.n 1 (.i g1 (.n 1 (.n 1 (.i g1 (.n 1 (.i g1 (.i g1 (.n 1 (.i g1 (.n 1 .nil))))))))))))) (cd h (fun hb12 h=>?_) (fun hb12 h=>?_))
    ·refine SK (awp_seq (awp_block ?_));obtain ⟨x13,hx13,h⟩:=ob h;obtain ⟨x14,hx14,h⟩:=ob h;obtain ⟨x15,hx15,h⟩:=ob h;obtain ⟨x16,hx16,h⟩:=ob h;refine DT 27 (.n 3 (.ix (idxOk cel183_len hx13) (.n 5 (.ix (idxOk cel183_len hx14) (.n 7 (.ix (idxOk cel174_len hx15) (.n 3 (.ix (idxOk cel183_len hx16) .nil)))))))) (awp_seq (R0 (cuo h (fun ro17=>[(6,rf 0),(7,.d (L3 ro17.2))]) (fun ro17=>[.cells [vi ro17.1.Interval,.d (L9 ro17.1.Points),.d (L121 ro17.1.Notes)]]) (fun so17=>[q9,(3,rf 0),(4,rf 1),(6,rf 2),(8,rf 3),q1,q6,(11,.sl 1 4 0 c10.2.1.length),(12,vi c5.1),(13,rf 7),(14,vi c10.1),(15,vi so17.1),(16,vi so17.2.1),(17,vi so17.2.2.1),(18,vi so17.2.2.2)]) (fun so17=>[q3,q2,q4,.cells [vi 100,.sl 1 5 0 c10.2.2.1.length,.sl 5 6 0 c10.2.2.2.length],.data (c10.2.1.flatMap cel3),.data (c10.2.2.1.flatMap cel9),.data (c10.2.2.2.flatMap cel121),q13]) (fun o17 h=>?_) (fun ro17 h=>?_) (fun so17 h=>?_))))
     ·refine awp_selQ (cd h (fun hb18 h=>?_) (fun hb18 h=>?_))
      ·obtain ⟨x19,hx19,h⟩:=ob h;obtain ⟨x20,hx20,h⟩:=ob h;obtain ⟨x21,hx21,h⟩:=ob h;obtain ⟨x22,hx22,h⟩:=ob h;refine ET 27 (.n 3 (.ix (idxOk cel183_len hx19) (.n 5 (.ix (idxOk cel183_len hx20) (.n 7 (.ix (idxOk cel174_len hx21) (.n 3 (.ix (idxOk cel183_len hx22) .nil)))))))) ?_;cases h;exact gs [0,1,2,3,4,5,6,7] [2,3,4,6,8,9,10,11,12,13,14,15,16,17,18] OutQ.norm
      ·refine awp_skip ?_;cases h;exact gs [0,1,2,3,4,5,6,7] [2,3,4,6,8,9,10,11,12,13,14,15,16,17,18] OutQ.norm
     ·cases h;exact gs [0] [6,7] OutQ.ret
     ·show awp ..;refine awp_seq (EN (RT (.n 5 (.i (x8.A != 0) (.n 1 (.i (x8.A != 0) (.n 1 (.i (x8.A != 0) (.n 1 .nil))))))) (cd h (fun hb23 h=>?_) (fun hb23 h=>?_))))
      ·refine awp_exit ?_;show awp ..;exact X0 (gn 8 [2,3,4,6,8,9,10,11,12,13,14] (hrn11 _ h))
      ·refine SK (R0 ?_);obtain ⟨x24,hx24,h⟩:=ob h;obtain ⟨x25,hx25,h⟩:=ob h;refine DT 7 (.n 4 (.ix (idxOk cel9_len hx24) (.n 2 (.ap (appendOk cel9_len (need_of hx25)) .nil)))) ?_;obtain ⟨x26,hx26,h⟩:=ob h;refine RT (.n 3 (.ap (appendOk cel3_len (need_of hx26)) .nil)) ?_;obtain ⟨x27,hx27,h⟩:=ob h;refine RT (.n 14 (.ap (appendOk cel121_len (need_of hx27)) .nil)) ?_;obtain ⟨x28,hx28,h⟩:=ob h;refine RT (.n 3 (.ix (idxOk cel3_len hx28) .nil)) ?_;obtain ⟨x29,hx29,h⟩:=ob h;refine XT (.n 20 (.ap (appendOk cel121_len (need_of hx29)) .nil)) ?_;show awp ..;exact X0 (gn 8 [2,3,4,6,8,9,10,11,12,13,14] (hrn11 _ h))
    ·refine awp_exit ?_;cases h;exact gs [0,1,2,3,4,5,6,7] [2,3,4,6,8,9,10,11,12] OutQ.norm
   ·cases h;exact gs [0] [6,7] OutQ.ret
   ·show awp ..;exact EN (X0 (gn 7 [2,3,4,6,8,9,10,11,12] (hrn6 _ h)))
  ·refine awp_exit ?_;cases h;exact gs [0,1,2,3,4,5,6] [6,8,11] OutQ.norm
 ·obtain rfl:=oi h;exact gm
 ·show awp ..;refine EN (R0 ?_);cases h
  let q7:O:=.cells [vi 100,.sl 1 5 0 so4.2.1.length,.sl 5 6 0 so4.2.2.length]
  let q15:O:=.data (so4.2.2.flatMap cel121)
  exact WA 7 [(6,rf 2),(7,.sl 1 4 0 so4.1.length)] [q3,q2,q7,q7,.data (so4.1.flatMap cel3),.data (so4.2.1.flatMap cel9),q15] (awp_freeze 7 4 (so4.1.flatMap cel3) (.sl 1 4 0 so4.1.length) (.d (L3 so4.1)) _ _ (ps:=[(so4.1.flatMap cel3).length=so4.1.length*1]) (by kernel_rfl) (by kernel_rfl) (by kernel_rfl) (flatMap_len cel3 1 cel3_len so4.1) rfl rfl (WA 7 [(6,rf 2),(7,.d (L3 so4.1))] [q3,q2,q7,q7,q5,.data (so4.2.1.flatMap cel9),q15] (awp_freezeC 2 1 5 (so4.2.1.flatMap cel9) [vi 100,.sl 1 5 0 so4.2.1.length,.sl 5 6 0 so4.2.2.length] (.sl 1 5 0 so4.2.1.length) (.d (L9 so4.2.1)) _ _ (ps:=[(so4.2.1.flatMap cel9).length=so4.2.1.length*1]) (by kernel_rfl) (by kernel_rfl) (by kernel_rfl) (by kernel_rfl) (flatMap_len cel9 1 cel9_len so4.2.1) rfl rfl (WA 7 [(6,rf 2),(7,.d (L3 so4.1))] [q3,q2,.cells [vi 100,.d (L9 so4.2.1),.sl 5 6 0 so4.2.2.length],.cells [vi 100,.top,.sl 5 6 0 so4.2.2.length],q5,q8,q15] (awp_freezeC 2 2 6 (so4.2.2.flatMap cel121) [vi 100,.d (L9 so4.2.1),.sl 5 6 0 so4.2.2.length] (.sl 5 6 0 so4.2.2.length) (.d (L121 so4.2.2)) _ _ (ps:=[(so4.2.2.flatMap cel121).length=so4.2.2.length*5]) (by kernel_rfl) (by kernel_rfl) (by kernel_rfl) (by kernel_rfl) (flatMap_len cel121 5 cel121_len so4.2.2) rfl rfl (WA 7 [(6,rf 2),(7,.d (L3 so4.1))] [q3,q2,.cells [vi 100,.d (L9 so4.2.1),.d (L121 so4.2.2)],.cells [vi 100,.top,.top],q5,q8,.data (q12.flatMap cel121)] (awp_ret gm)))))))
end Go.Proofs.YtkcgfceihpampaaGreatDoor
