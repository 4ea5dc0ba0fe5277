/- That functions of the seat compute this. Printed by a program of mine. -/
import Derived.Test.YtkcgfceihpampaaGreatDoorS
import Derived.Test.YtkcgfceihpampaaGreatDoorDG
namespace Go.Proofs.YtkcgfceihpampaaGreatDoor
open Go Go.Sx
set_option maxRecDepth 100000
set_option linter.unusedVariables false
theorem ct107 {l p_n res} (h:F107 l p_n=some res):PCall Tryz.prog 107 [(L5 l),(di p_n)] (vi res):=by
 refine PO 16 Tryz.func107 rfl ?_;unfold F107 at h;refine EN (R0 (awp_seq (R0 (cd h (fun hb1 h=>?_) (fun hb1 h=>?_)))))
 ·refine R0 ?_;obtain rfl:=oi h;exact awp_ret gm
 ·refine SK ?_;obtain ⟨x2,hx2,h⟩:=ob h;obtain ⟨x3,hx3,h⟩:=ob h;refine RT (.n 4 (.p (need_of hx2:(l.length:Int)≠0) (.n 1 (.ix (idxOk cel5_len hx3) .nil)))) ?_;cases h;exact awp_ret gm
theorem ct106 {fuel:Nat} {p_c p_x res} (h:F106 fuel p_c p_x=some res):PCall Tryz.prog 106 [(.agg [(di p_c.Tol),(L82 p_c.Sheets),(L174 p_c.Edges)]),(L5 p_x)] (.d (L3 res)):=by
 refine PO 34 Tryz.func106 rfl ?_;unfold F106 at h;refine EN (R0 (R0 (awp_seq (R0 ?_))))
 let q1:O:=.cells [vi p_c.Tol,.d (L82 p_c.Sheets),.d (L174 p_c.Edges)]
 refine WA 1 [(1,.d (L5 p_x)),(2,rf 0),(5,.d dnil),(6,vi 0)] [q1] (awp_nil 5 1 (by kernel_rfl) ?_)
 let q2:O:=.data (([]:List Int).flatMap cel3)
 refine awp_eq (T':=[(5,.sl 1 1 0 ([]:List Int).length),(1,.d (L5 p_x)),(2,rf 0),(6,vi 0)]) (H':=[q1,q2]) (by kernel_rfl) (by kernel_rfl) (WA 2 [(1,.d (L5 p_x)),(2,rf 0),(5,.sl 1 1 0 ([]:List Int).length),(6,vi 0)] [q1,q2] (cuo h (fun ro2=>[(4,.d (L3 ro2))]) (fun ro2=>[]) (fun so2=>[(5,.sl 1 1 0 so2.length)]) (fun so2=>[q1,.data (so2.flatMap cel3)]) (fun o2 h=>?_) (fun ro2 h=>?_) (fun so2 h=>?_)))
 ·refine awp_selQ (EN (LP 2 [1,2,5,6] (F106L1 p_c p_x) o2 (fun c3=>pr [(1,.d (L5 p_x)),(2,rf 0),(5,.sl 1 1 0 c3.2.length),(6,vi c3.1)] [q1,.data (c3.2.flatMap cel3)]) fuel (0,([]:List Int)) h (fun _=>rfl) ?_));clear h;intro n4 c3 h hrn4;rw [F106L1] at h;refine awp_seq (R0 (cd h (fun hb5 h=>?_) (fun hb5 h=>?_)))
  ·refine SK (awp_seq (awp_block ?_));obtain ⟨x6,hx6,h⟩:=ob h;refine RT (.n 3 (.ix (idxOk cel82_len hx6) .nil)) ?_;obtain ⟨x7,hx7,h⟩:=ob h;obtain ⟨x8,hx8,h⟩:=ob h;obtain ⟨x9,hx9,h⟩:=ob h;refine XT (.n 3 (.pc (ct107 hx7) (.n 3 (.p (need_of hx8:(w64 ((w64 (2*x6.Most))+1))≠0) (.n 1 (.n 3 (.ap (appendOk cel3_len (need_of hx9)) .nil))))))) ?_;show awp ..;exact X0 (gn 2 [1,2,5,6] (hrn4 _ h))
  ·refine awp_exit ?_;cases h;exact gs [0,1] [5] OutQ.norm
 ·obtain rfl:=oi h;exact gm
 ·show awp ..;refine EN (R0 ?_);obtain rfl:=oi h;exact WA 2 [(4,.sl 1 1 0 so2.length)] [q1,.data (so2.flatMap cel3)] (awp_freeze 4 1 (so2.flatMap cel3) (.sl 1 1 0 so2.length) (.d (L3 so2)) _ _ (ps:=[(so2.flatMap cel3).length=so2.length*1]) (by kernel_rfl) (by kernel_rfl) (by kernel_rfl) (flatMap_len cel3 1 cel3_len so2) rfl rfl (WA 2 [(4,.d (L3 so2))] [q1,q2] (awp_ret gm)))
theorem ct33 {fuel:Nat} {p_c p_x res} (h:F33 fuel p_c p_x=some res):PCall Tryz.prog 33 [(.agg [(di p_c.Tol),(L82 p_c.Sheets),(L174 p_c.Edges)]),(.agg [(L5 p_x.Shifts),(L5 p_x.Off),(L181 p_x.High)])] (.tup [.d (.agg [(di res.1.Tol),(L82 res.1.Sheets),(L174 res.1.Edges)]),.d (L3 res.2)]):=by
 refine PO 136 Tryz.func33 rfl ?_;unfold F33 at h;refine EN (R0 ?_);obtain ⟨x1,hx1,h⟩:=ob h;refine RT (.n 3 (.pc (ct106 hx1) .nil)) (R0 (awp_seq (R0 ?_)))
 let q1:O:=.cells [.d (L5 p_x.Shifts),.d (L5 p_x.Off),.d (L181 p_x.High)]
 let q2:O:=.cells [vi p_c.Tol,.d (L82 p_c.Sheets),.d (L174 p_c.Edges)]
 let q3:O:=.cells [vi 0,.d dnil,.d dnil]
 let q9:Nat×V:=(6,.d (L3 x1))
 refine WA 3 [(2,rf 0),(3,rf 1),(4,rf 2),q9,(7,.d dnil),(8,vi 0)] [q2,q1,q3] (awp_nil 7 1 (by kernel_rfl) ?_)
 let q12:O:=.data (([]:List Int).flatMap cel3)
 refine awp_eq (T':=[(7,.sl 1 3 0 ([]:List Int).length),(2,rf 0),(3,rf 1),(4,rf 2),q9,(8,vi 0)]) (H':=[q2,q1,q3,q12]) (by kernel_rfl) (by kernel_rfl) (WA 4 [(2,rf 0),(3,rf 1),(4,rf 2),q9,(7,.sl 1 3 0 ([]:List Int).length),(8,vi 0)] [q2,q1,q3,q12] (cuo h (fun ro3=>[(4,rf 0),(5,.d (L3 ro3.2))]) (fun ro3=>[.cells [vi ro3.1.Tol,.d (L82 ro3.1.Sheets),.d (L174 ro3.1.Edges)]]) (fun so3=>[(2,rf 0),(3,rf 1),(4,rf 2),q9,(7,.sl 1 3 0 so3.length)]) (fun so3=>[q2,q1,q3,.data (so3.flatMap cel3)]) (fun o3 h=>?_) (fun ro3 h=>?_) (fun so3 h=>?_)))
 ·refine awp_selQ (EN (LP 4 [2,3,4,6,7,8] (F33L1 x1) o3 (fun c4=>pr [(2,rf 0),(3,rf 1),(4,rf 2),q9,(7,.sl 1 3 0 c4.2.length),(8,vi c4.1)] [q2,q1,q3,.data (c4.2.flatMap cel3)]) fuel (0,([]:List Int)) h (fun _=>rfl) ?_));clear h;intro n5 c4 h hrn5;rw [F33L1] at h;refine awp_seq (R0 (cd h (fun hb6 h=>?_) (fun hb6 h=>?_)))
  ·refine SK (awp_seq (awp_block ?_));obtain ⟨x7,hx7,h⟩:=ob h;obtain ⟨x8,hx8,h⟩:=ob h;refine XT (.n 3 (.ix (idxOk cel3_len hx7) (.n 3 (.ap (appendOk cel3_len (need_of hx8)) .nil)))) ?_;show awp ..;exact X0 (gn 4 [2,3,4,6,7,8] (hrn5 _ h))
  ·refine awp_exit ?_;cases h;exact gs [0,1,2,3] [2,3,4,6,7] OutQ.norm
 ·obtain rfl:=oi h;exact gm
 ·show awp ..;refine EN ?_;refine RT (.n 2 (.p (by decide:(2:Int)≠0) (.n 1 .nil))) (R0 (awp_seq (R0 ?_)))
  let q4:O:=.data (so3.flatMap cel3)
  let q5:Nat×V:=(9,vi (w64 (p_c.Tol.tdiv 2)))
  let q6:Nat×V:=(7,.sl 1 3 0 so3.length)
  refine WA 4 [(2,rf 0),(3,rf 1),(4,rf 2),q9,q6,q5,(10,vi 0),(11,.d dnil),(12,vi 0)] [q2,q1,q3,q4] (awp_nil 11 3 (by kernel_rfl) ?_)
  let q13:=([]:List S_api_EdEdge)
  refine awp_eq (T':=[(11,.sl 3 4 0 q13.length),(2,rf 0),(3,rf 1),(4,rf 2),q9,q6,q5,(10,vi 0),(12,vi 0)]) (H':=[q2,q1,q3,q4,.data (q13.flatMap cel174)]) (by kernel_rfl) (by kernel_rfl) (WA 5 [(2,rf 0),(3,rf 1),(4,rf 2),q9,q6,q5,(10,vi 0),(11,.sl 3 4 0 q13.length),(12,vi 0)] [q2,q1,q3,q4,.data (q13.flatMap cel174)] (cuo h (fun ro10=>[(4,rf 0),(5,.d (L3 ro10.2))]) (fun ro10=>[.cells [vi ro10.1.Tol,.d (L82 ro10.1.Sheets),.d (L174 ro10.1.Edges)]]) (fun so10=>[(2,rf 0),(4,rf 2),q6,(11,.sl 3 4 0 so10.length)]) (fun so10=>[q2,q1,q3,q4,.data (so10.flatMap cel174)]) (fun o10 h=>?_) (fun ro10 h=>?_) (fun so10 h=>?_)))
  ·refine awp_selQ (EN (LP 5 [2,3,4,6,7,9,10,11,12] (F33L2 fuel p_c p_x x1) o10 (fun c11=>pr [(2,rf 0),(3,rf 1),(4,rf 2),q9,q6,q5,(10,vi c11.1),(11,.sl 3 4 0 c11.2.2.length),(12,vi c11.2.1)] [q2,q1,q3,q4,.data (c11.2.2.flatMap cel174)]) fuel (0,0,q13) h (fun _=>rfl) ?_));clear h;intro n12 c11 h hrn12;rw [F33L2] at h;refine awp_seq (R0 (cd h (fun hb13 h=>?_) (fun hb13 h=>?_)))
   ·refine SK (awp_seq (awp_block ?_));obtain ⟨x14,hx14,h⟩:=ob h;refine RT (.n 3 (.ix (idxOk cel174_len hx14) .nil)) (R0 (awp_seq (R0 ?_)))
    let q8:O:=.data (c11.2.2.flatMap cel174)
    let q10:Nat×V:=(11,.sl 3 4 0 c11.2.2.length)
    let q14:Nat×V:=(12,vi c11.2.1)
    refine WA 6 [(2,rf 0),(3,rf 1),(4,rf 2),q9,q6,q5,(10,vi c11.1),q10,q14,(13,rf 5),(14,vi 0)] [q2,q1,q3,q4,q8,.cells [vi x14.A,vi x14.B,.d dnil]] ?_
    let q11:=([]:List S_api_EdPoint)
    refine awp_nilC 5 2 2 [vi x14.A,vi x14.B,.d dnil] [q2,q1,q3,q4,q8,.cells [vi x14.A,vi x14.B,.sl 2 6 0 q11.length],.data (q11.flatMap cel183)] (by kernel_rfl) (by kernel_rfl) (by kernel_rfl) (WA 7 [(2,rf 0),(3,rf 1),(4,rf 2),q9,q6,q5,(10,vi c11.1),q10,q14,(13,rf 5),(14,vi 0)] [q2,q1,q3,q4,q8,.cells [vi x14.A,vi x14.B,.sl 2 6 0 q11.length],.data (q11.flatMap cel183)] (cuo h (fun ro16=>[(4,rf 0),(5,.d (L3 ro16.2))]) (fun ro16=>[.cells [vi ro16.1.Tol,.d (L82 ro16.1.Sheets),.d (L174 ro16.1.Edges)]]) (fun so16=>[(2,rf 0),(3,rf 1),(4,rf 2),q9,q6,q5,(10,vi so16.1),q10,q14,(13,rf 5)]) (fun so16=>[q2,q1,q3,q4,q8,.cells [vi x14.A,vi x14.B,.sl 2 6 0 so16.2.length],.data (so16.2.flatMap cel183)]) (fun o16 h=>?_) (fun ro16 h=>?_) (fun so16 h=>?_)))
    ·refine awp_selQ (EN (LP 7 [2,3,4,6,7,9,10,11,12,13,14] (F33L3 p_c p_x x1 c11 x14) o16 (fun c17=>pr [(2,rf 0),(3,rf 1),(4,rf 2),q9,q6,q5,(10,vi c17.1),q10,q14,(13,rf 5),(14,vi c17.2.1)] [q2,q1,q3,q4,q8,.cells [vi x14.A,vi x14.B,.sl 2 6 0 c17.2.2.length],.data (c17.2.2.flatMap cel183)]) fuel (c11.1,0,q11) h (fun _=>rfl) ?_));clear h;intro n18 c17 h hrn18;rw [F33L3] at h;refine awp_seq ?_;obtain ⟨x19,hx19,h⟩:=ob h;refine RT (.n 4 (.ix (idxOk cel174_len hx19) .nil)) (cd h (fun hb20 h=>?_) (fun hb20 h=>?_))
     ·refine SK (awp_seq (awp_block (R0 (awp_seq (R0 (cuo h (fun ro21=>[(4,rf 0),(5,.d (L3 ro21.2))]) (fun ro21=>[.cells [vi ro21.1.Tol,.d (L82 ro21.1.Sheets),.d (L174 ro21.1.Edges)]]) (fun so21=>[(2,rf 0),(3,rf 1),(4,rf 2),q9,q6,q5,(10,vi c17.1),q10,q14,(13,rf 5),(14,vi c17.2.1),(15,vi so21)]) (fun so21=>[q2,q1,q3,q4,q8,.cells [vi x14.A,vi x14.B,.sl 2 6 0 c17.2.2.length],.data (c17.2.2.flatMap cel183)]) (fun o21 h=>?_) (fun ro21 h=>?_) (fun so21 h=>?_)))))))
      ·refine awp_selQ (cd h (fun hb22 h=>?_) (fun hb22 h=>?_))
       ·obtain ⟨x23,hx23,h⟩:=ob h;obtain ⟨x24,hx24,h⟩:=ob h;refine ET 7 (.n 6 (.p (need_of hx23:(p_x.High.length:Int)≠0) (.n 1 (.ix (idxOk cel181_len hx24) (.n 2 (.p (by decide:(8800:Int)≠0) (.n 1 .nil))))))) ?_;cases h;exact gs [0,1,2,3,4,5,6] [2,3,4,6,7,9,10,11,12,13,14,15] OutQ.norm
       ·refine awp_skip ?_;cases h;exact gs [0,1,2,3,4,5,6] [2,3,4,6,7,9,10,11,12,13,14,15] OutQ.norm
      ·cases h;exact gs [0] [4,5] OutQ.ret
      ·show awp ..;obtain ⟨x25,hx25,h⟩:=ob h;obtain ⟨x26,hx26,h⟩:=ob h;refine EN (RT (.n 4 (.pc (ct107 hx25) (.n 3 (.p (need_of hx26:(w64 ((w64 (2*(w64 (p_c.Tol.tdiv 2))))+1))≠0) (.n 1 .nil))))) ?_);obtain ⟨x27,hx27,h⟩:=ob h;obtain ⟨x28,hx28,h⟩:=ob h;refine RT (.n 5 (.pc (ct107 hx27) (.n 3 (.p (need_of hx28:(w64 ((w64 (2*(w64 (p_c.Tol.tdiv 2))))+1))≠0) (.n 1 .nil))))) ?_;obtain ⟨x29,hx29,h⟩:=ob h;obtain ⟨x30,hx30,h⟩:=ob h;obtain ⟨x31,hx31,h⟩:=ob h;refine DT 22 (.n 6 (.ix (idxOk cel3_len hx29) (.n 8 (.ix (idxOk cel3_len hx30) (.n 6 (.ap (appendOk cel183_len (need_of hx31)) .nil)))))) (X0 ?_);show awp ..;exact X0 (gn 7 [2,3,4,6,7,9,10,11,12,13,14] (hrn18 _ h))
     ·refine awp_exit ?_;cases h;exact gs [0,1,2,3,4,5,6] [2,3,4,6,7,9,10,11,12,13] OutQ.norm
    ·cases h;exact gs [0] [4,5] OutQ.ret
    ·show awp ..;refine awp_freezeC 5 2 6 (so16.2.flatMap cel183) [vi x14.A,vi x14.B,.sl 2 6 0 so16.2.length] (.sl 2 6 0 so16.2.length) (.d (L183 so16.2)) _ _ (ps:=[(so16.2.flatMap cel183).length=so16.2.length*2]) (by kernel_rfl) (by kernel_rfl) (by kernel_rfl) (by kernel_rfl) (flatMap_len cel183 2 cel183_len so16.2) rfl rfl (WA 7 [(2,rf 0),(3,rf 1),(4,rf 2),q9,q6,q5,(10,vi so16.1),q10,q14,(13,rf 5)] [q2,q1,q3,q4,q8,.cells [vi x14.A,vi x14.B,.d (L183 so16.2)],.data (q11.flatMap cel183)] ?_);obtain ⟨x32,hx32,h⟩:=ob h;refine EN (XT (.n 3 (.ap (appendOk cel174_len (need_of hx32)) .nil)) ?_);show awp ..;exact X0 (gn 5 [2,3,4,6,7,9,10,11,12] (hrn12 _ h))
   ·refine awp_exit ?_;cases h;exact gs [0,1,2,3,4] [2,4,7,11] OutQ.norm
  ·obtain rfl:=oi h;exact gm
  ·show awp ..;refine EN (R0 (R0 ?_));cases h
   let q7:O:=.cells [vi p_c.Tol,.d (L82 p_c.Sheets),.sl 3 4 0 so10.length]
   exact WA 5 [(4,rf 2),(5,.sl 1 3 0 so3.length)] [q7,q1,q7,q4,.data (so10.flatMap cel174)] (awp_freeze 5 3 (so3.flatMap cel3) (.sl 1 3 0 so3.length) (.d (L3 so3)) _ _ (ps:=[(so3.flatMap cel3).length=so3.length*1]) (by kernel_rfl) (by kernel_rfl) (by kernel_rfl) (flatMap_len cel3 1 cel3_len so3) rfl rfl (WA 5 [(4,rf 2),(5,.d (L3 so3))] [q7,q1,q7,q12,.data (so10.flatMap cel174)] (awp_freezeC 2 2 4 (so10.flatMap cel174) [vi p_c.Tol,.d (L82 p_c.Sheets),.sl 3 4 0 so10.length] (.sl 3 4 0 so10.length) (.d (L174 so10)) _ _ (ps:=[(so10.flatMap cel174).length=so10.length*3]) (by kernel_rfl) (by kernel_rfl) (by kernel_rfl) (by kernel_rfl) (flatMap_len cel174 3 cel174_len so10) rfl rfl (WA 5 [(4,rf 2),(5,.d (L3 so3))] [.cells [vi p_c.Tol,.d (L82 p_c.Sheets),.top],q1,.cells [vi p_c.Tol,.d (L82 p_c.Sheets),.d (L174 so10)],q12,.data (q13.flatMap cel174)] (awp_ret gm)))))
end Go.Proofs.YtkcgfceihpampaaGreatDoor
