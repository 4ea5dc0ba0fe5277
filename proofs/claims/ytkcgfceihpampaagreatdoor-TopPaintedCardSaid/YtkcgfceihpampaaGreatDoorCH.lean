/- That functions of the seat compute this. Printed by a program of mine. -/
import Derived.Test.YtkcgfceihpampaaGreatDoorS
import Derived.Test.YtkcgfceihpampaaGreatDoorCG
import Derived.Test.YtkcgfceihpampaaGreatDoorDH
namespace Go.Proofs.YtkcgfceihpampaaGreatDoor
open Go Go.Sx
set_option maxRecDepth 100000
set_option linter.unusedVariables false
theorem ct86  {p_s:S_api_Span} {border:Int} {res:Bool} (h:F86 p_s border=some res):PCall Tryz.prog 86 [(.agg [(di p_s.Lo),(di p_s.Hi)]),(di border)] (vb res):=by
 refine PCall.of_awp tt_ok (N:=15) Tryz.func86 rfl (by kernel_rfl) rfl (Nat.le_of_ble_eq_true rfl) rfl ?_
 unfold F86 at h
 refine EN ?_
 refine R0 ?_
 let g1:=(decide (p_s.Lo<border))
 refine RT (.n 7 (.i g1 (.n 1 (.i g1 (.i g1 (.n 1 (.i g1 (.n 1 .nil)))))))) ?_
 obtain rfl:=oi h
 exact awp_ret gm
theorem ct87B {fuel:Nat} {rec111:S_colour_state→(List S_api_Span)→Int→(List S_api_Span)→(List S_api_ClPair)→Int→(List S_api_ClPair)→(List (S_colour_state×S_colour_rest))→Option (S_colour_rest×(List (S_colour_state×S_colour_rest)))} (hrec111:∀(p_s:S_colour_state) (b0x0:List S_api_Span) (b0x1:Int) (b0x2:List S_api_Span) (b0x3:List S_api_ClPair) (b0x4:Int) (b0x5:List S_api_ClPair) (m2:List (S_colour_state×S_colour_rest)) (res:S_colour_rest×(List (S_colour_state×S_colour_rest))),rec111 p_s b0x0 b0x1 b0x2 b0x3 b0x4 b0x5 m2=some res→HCall Tryz.prog 87 [.d (.agg [(di p_s.at_),(di p_s.border)]),rf 0,rf 1,rf 3,rf 4] [.cells [.d (L66 b0x0),vi b0x1,.d (L66 b0x2),.d (L70 b0x3),vi b0x4,.d (L70 b0x5)],.cells [.mp 2],.map (mpo154x156 m2),.cells [.fn (.func 87) [] [rf 0,rf 1,rf 3,rf 4]],.cells [.fn (.func 86) [] []]] (.d (.agg [(di res.1.many),(di res.1.next)])) [.cells [.d (L66 b0x0),vi b0x1,.d (L66 b0x2),.d (L70 b0x3),vi b0x4,.d (L70 b0x5)],.cells [.mp 2],.map (mpo154x156 res.2),.cells [.fn (.func 87) [] [rf 0,rf 1,rf 3,rf 4]],.cells [.fn (.func 86) [] []]]) {p_s:S_colour_state} {b0x0:List S_api_Span} {b0x1:Int} {b0x2:List S_api_Span} {b0x3:List S_api_ClPair} {b0x4:Int} {b0x5:List S_api_ClPair} {m2:List (S_colour_state×S_colour_rest)} {res:S_colour_rest×(List (S_colour_state×S_colour_rest))} (h:B87 fuel rec111 p_s b0x0 b0x1 b0x2 b0x3 b0x4 b0x5 m2=some res):HCall Tryz.prog 87 [.d (.agg [(di p_s.at_),(di p_s.border)]),rf 0,rf 1,rf 3,rf 4] [.cells [.d (L66 b0x0),vi b0x1,.d (L66 b0x2),.d (L70 b0x3),vi b0x4,.d (L70 b0x5)],.cells [.mp 2],.map (mpo154x156 m2),.cells [.fn (.func 87) [] [rf 0,rf 1,rf 3,rf 4]],.cells [.fn (.func 86) [] []]] (.d (.agg [(di res.1.many),(di res.1.next)])) [.cells [.d (L66 b0x0),vi b0x1,.d (L66 b0x2),.d (L70 b0x3),vi b0x4,.d (L70 b0x5)],.cells [.mp 2],.map (mpo154x156 res.2),.cells [.fn (.func 87) [] [rf 0,rf 1,rf 3,rf 4]],.cells [.fn (.func 86) [] []]]:=by
 refine HCall.of_awpS tt_ok (N:=122) (fl:=5) Tryz.func87 rfl (by kernel_rfl) rfl rfl (Nat.le_of_ble_eq_true rfl) ?_
 unfold B87 at h
 refine EN ?_
 refine R0 ?_
 refine awp_seq (R0 ?_)
 refine cd h (fun hb1 h=>?_) (fun hb1 h=>?_)
 ·refine R0 ?_
  obtain rfl:=oi h
  exact awp_ret (main_retS [0,1,2,3,4] (.d (.agg [(di 0),(di 0)])) (by kernel_rfl) (by kernel_rfl) (by kernel_rfl) (by kernel_rfl))
 ·refine awp_skip ?_
  show awp ..
  refine RT (.n 2 (.p (show LookOk (mpo154x156 m2) (.agg [(di p_s.at_),(di p_s.border)]) (.agg [(di 0),(di 0)]) (.agg [(di ((mget eqk154 p_s m2).getD (⟨0,0⟩:S_colour_rest)).many),(di ((mget eqk154 p_s m2).getD (⟨0,0⟩:S_colour_rest)).next)]) (mget eqk154 p_s m2).isSome from lookOk (fk:=dat154) (fv:=dat156) eqk154_ok rfl p_s m2) (.h (.look (.agg [(di ((mget eqk154 p_s m2).getD (⟨0,0⟩:S_colour_rest)).many),(di ((mget eqk154 p_s m2).getD (⟨0,0⟩:S_colour_rest)).next)]) (mget eqk154 p_s m2).isSome) .nil))) ?_
  refine awp_seq (R0 ?_)
  refine cd h (fun hb2 h=>?_) (fun hb2 h=>?_)
  ·refine R0 ?_
   obtain rfl:=oi h
   exact awp_ret (main_retS [0,1,2,3,4] (.d (.agg [(di ((mget eqk154 p_s m2).getD (⟨0,0⟩:S_colour_rest)).many),(di ((mget eqk154 p_s m2).getD (⟨0,0⟩:S_colour_rest)).next)])) (by kernel_rfl) (by kernel_rfl) (by kernel_rfl) (by kernel_rfl))
  ·refine awp_skip ?_
   show awp ..
   refine R0 ?_
   obtain ⟨x3,hx3,h⟩:=ob h
   refine RT (.n 5 (.ix (idxOk cel66_len hx3) .nil)) ?_
   refine awp_seq (R0 ?_)
   refine cuo h (fun (ro4:S_colour_rest×(List (S_colour_state×S_colour_rest)))=>[(6,rf 5)]) (fun (ro4:S_colour_rest×(List (S_colour_state×S_colour_rest)))=>[.cells [.d (L66 b0x0),vi b0x1,.d (L66 b0x2),.d (L70 b0x3),vi b0x4,.d (L70 b0x5)],.cells [.mp 2],.map (mpo154x156 ro4.2),.cells [.fn (.func 87) [] [rf 0,rf 1,rf 3,rf 4]],.cells [.fn (.func 86) [] []],.cells [vi ro4.1.many,vi ro4.1.next]]) (fun (so4:(List (S_colour_state×S_colour_rest))×Int×Int)=>[(2,rf 1),(5,rf 5),(6,rf 6),(7,rf 7)]) (fun (so4:(List (S_colour_state×S_colour_rest))×Int×Int)=>[.cells [.d (L66 b0x0),vi b0x1,.d (L66 b0x2),.d (L70 b0x3),vi b0x4,.d (L70 b0x5)],.cells [.mp 2],.map (mpo154x156 so4.1),.cells [.fn (.func 87) [] [rf 0,rf 1,rf 3,rf 4]],.cells [.fn (.func 86) [] []],.cells [vi p_s.at_,vi p_s.border],.cells [vi 0,vi 0],.cells [vi so4.2.1,vi so4.2.2],.cells [vi x3.Lo,vi x3.Hi]]) (fun o4 h=>?_) (fun ro4 h=>?_) (fun so4 h=>?_)
   ·refine awp_selQ (LP 9 [1,2,3,4,5,6,7,9,44,45] (F87L1 fuel rec111 p_s b0x0 b0x1 b0x2 b0x3 b0x4 b0x5 x3) o4 (fun (c5:Int×(List (S_colour_state×S_colour_rest))×Int×Int)=>pr [(1,rf 0),(2,rf 1),(3,rf 3),(4,rf 4),(5,rf 5),(6,rf 6),(7,rf 7),(9,rf 8),(44,vi (w64 ((w64 (x3.Hi-x3.Lo))+1))),(45,vi c5.1)] [.cells [.d (L66 b0x0),vi b0x1,.d (L66 b0x2),.d (L70 b0x3),vi b0x4,.d (L70 b0x5)],.cells [.mp 2],.map (mpo154x156 c5.2.1),.cells [.fn (.func 87) [] [rf 0,rf 1,rf 3,rf 4]],.cells [.fn (.func 86) [] []],.cells [vi p_s.at_,vi p_s.border],.cells [vi 0,vi 0],.cells [vi c5.2.2.1,vi c5.2.2.2],.cells [vi x3.Lo,vi x3.Hi]]) fuel (0,m2,((mget eqk154 p_s m2).getD (⟨0,0⟩:S_colour_rest)).many,(-1)) h (fun _=>rfl) ?_)
    clear h
    intro n6 c5 h hrn6
    rw [F87L1] at h
    refine R0 ?_
    refine awp_seq (cd h (fun hb7 h=>?_) (fun hb7 h=>?_))
    ·refine awp_skip ?_
     show awp ..
     refine awp_seq (awp_block ?_)
     refine R0 ?_
     refine R0 ?_
     refine awp_seq ?_
     let g1:=(decide (p_s.at_≥0))
     refine RT (.n 6 (.i g1 (.n 1 (.n 1 (.i g1 (.n 1 (.i g1 (.i g1 (.n 1 (.i g1 (.i g1 (.n 1 (.i g1 (.n 1 .nil)))))))))))))) ?_
     refine cd h (fun hb8 h=>?_) (fun hb8 h=>?_)
     ·refine awp_exit ?_
      show awp ..
      refine X0 ?_
      exact gn 9 [1,2,3,4,5,6,7,9,44,45] (hrn6 _ h)
     ·refine awp_skip ?_
      show awp ..
      obtain ⟨x9,hx9,h⟩:=ob h
      refine RT (.n 6 (.hc [(0,false),(1,false),(2,false),(3,false),(4,false)] (hrec111 _ _ _ _ _ _ _ _ _ hx9) .nil)) ?_
      refine awp_seq (R0 ?_)
      refine cd h (fun hb10 h=>?_) (fun hb10 h=>?_)
      ·refine awp_exit ?_
       show awp ..
       refine X0 ?_
       exact gn 9 [1,2,3,4,5,6,7,9,44,45] (hrn6 _ h)
      ·refine awp_skip ?_
       show awp ..
       refine awp_seq (R0 ?_)
       refine cuo h (fun (ro11:S_colour_rest×(List (S_colour_state×S_colour_rest)))=>[(6,rf 5)]) (fun (ro11:S_colour_rest×(List (S_colour_state×S_colour_rest)))=>[.cells [.d (L66 b0x0),vi b0x1,.d (L66 b0x2),.d (L70 b0x3),vi b0x4,.d (L70 b0x5)],.cells [.mp 2],.map (mpo154x156 ro11.2),.cells [.fn (.func 87) [] [rf 0,rf 1,rf 3,rf 4]],.cells [.fn (.func 86) [] []],.cells [vi ro11.1.many,vi ro11.1.next]]) (fun (so11:Int)=>[(1,rf 0),(2,rf 1),(3,rf 3),(4,rf 4),(5,rf 5),(6,rf 6),(7,rf 7),(9,rf 8),(11,vi (w64 (x3.Lo+c5.1))),(12,rf 9),(44,vi (w64 ((w64 (x3.Hi-x3.Lo))+1))),(45,vi c5.1)]) (fun (so11:Int)=>[.cells [.d (L66 b0x0),vi b0x1,.d (L66 b0x2),.d (L70 b0x3),vi b0x4,.d (L70 b0x5)],.cells [.mp 2],.map (mpo154x156 x9.2),.cells [.fn (.func 87) [] [rf 0,rf 1,rf 3,rf 4]],.cells [.fn (.func 86) [] []],.cells [vi p_s.at_,vi p_s.border],.cells [vi 0,vi 0],.cells [vi c5.2.2.1,vi c5.2.2.2],.cells [vi x3.Lo,vi x3.Hi],.cells [vi so11,vi x9.1.next]]) (fun o11 h=>?_) (fun ro11 h=>?_) (fun so11 h=>?_)
       ·refine awp_selQ (LP 10 [1,2,3,4,5,6,7,9,11,12,44,45,75,76,77] (F87L2 p_s b0x2 x3 c5) o11 (fun (c12:Int×Int)=>pr [(1,rf 0),(2,rf 1),(3,rf 3),(4,rf 4),(5,rf 5),(6,rf 6),(7,rf 7),(9,rf 8),(11,vi (w64 (x3.Lo+c5.1))),(12,rf 9),(44,vi (w64 ((w64 (x3.Hi-x3.Lo))+1))),(45,vi c5.1),(75,.d (L66 b0x2)),(76,vl b0x2),(77,vi c12.1)] [.cells [.d (L66 b0x0),vi b0x1,.d (L66 b0x2),.d (L70 b0x3),vi b0x4,.d (L70 b0x5)],.cells [.mp 2],.map (mpo154x156 x9.2),.cells [.fn (.func 87) [] [rf 0,rf 1,rf 3,rf 4]],.cells [.fn (.func 86) [] []],.cells [vi p_s.at_,vi p_s.border],.cells [vi 0,vi 0],.cells [vi c5.2.2.1,vi c5.2.2.2],.cells [vi x3.Lo,vi x3.Hi],.cells [vi c12.2,vi x9.1.next]]) fuel (0,x9.1.many) h (fun _=>rfl) ?_)
        clear h
        intro n13 c12 h hrn13
        rw [F87L2] at h
        refine R0 ?_
        refine awp_seq (cd h (fun hb14 h=>?_) (fun hb14 h=>?_))
        ·refine awp_skip ?_
         show awp ..
         refine awp_seq (awp_block ?_)
         obtain ⟨x15,hx15,h⟩:=ob h
         refine RT (.ix (idxOk cel66_len hx15) .nil) ?_
         obtain ⟨x16,hx16,h⟩:=ob h
         obtain ⟨x17,hx17,h⟩:=ob h
         let g1:=(x16&&(!(decide (p_s.at_<0))))
         refine RT (.n 3 (.pc (ct86 hx16) (.n 2 (.i x16 (.n 1 (.i x16 (.n 1 (.i x16 (.n 1 (.n 3 (.i g1 (.n 1 (.i g1 (.i g1 (.i g1 (.p (show (g1=true→PCall Tryz.prog 86 [(.agg [(di x15.Lo),(di x15.Hi)]),(di p_s.border)] (vb x17)) from (fun hg=>ct86 (optG_of hx17 hg))) (.h (.call [(.agg [(di x15.Lo),(di x15.Hi)]),(di p_s.border)] (vb x17)) (.i g1 (.n 1 (.i x16 (.p (show (x16=true→(decide (p_s.at_<0))=false→(x16&&(!(decide (p_s.at_<0))))=true) from (fun hg h1=>by first|exact hg|exact h1|(rw [hg,h1];rfl)|(simp only [hg,h1,Bool.not_true,Bool.not_false,Bool.and_self,Bool.true_and,Bool.and_true];done)|(simp only [Bool.and_eq_true] at hg;simp only [hg,h1,Bool.not_true,Bool.not_false,Bool.and_self,Bool.true_and,Bool.and_true];done)|simp_all)) (.h (.own) (.i x16 (.n 1 .nil)))))))))))))))))))))))) ?_
         refine cd h (fun hb18 h=>?_) (fun hb18 h=>?_)
         ·refine X0 ?_
          show awp ..
          refine X0 ?_
          exact gn 10 [1,2,3,4,5,6,7,9,11,12,44,45,75,76,77] (hrn13 _ h)
         ·refine awp_skip ?_
          show awp ..
          refine X0 ?_
          exact gn 10 [1,2,3,4,5,6,7,9,11,12,44,45,75,76,77] (hrn13 _ h)
        ·refine awp_exit ?_
         obtain rfl:=oi h
         exact gs [0,1,2,3,4,5,6,7,8,9] [1,2,3,4,5,6,7,9,11,12,44,45] OutQ.norm
       ·obtain rfl:=oi h
        exact gs [0,1,2,3,4,5] [6] OutQ.ret
       ·show awp ..
        refine EN ?_
        let g1 := !(decide (c5.2.2.2<0))
        refine RT (.n 5 (.i g1 (.n 1 (.n 1 (.i g1 (.n 1 (.i g1 (.i g1 (.n 1 (.p (show ((decide (c5.2.2.2<0))=false→(!(decide (c5.2.2.2<0)))=true) from not_of) (.n 1 .nil))))))))))) ?_
        refine cd h (fun hb19 h=>?_) (fun hb19 h=>?_)
        ·refine X0 ?_
         show awp ..
         refine X0 ?_
         exact gn 9 [1,2,3,4,5,6,7,9,44,45] (hrn6 _ h)
        ·refine awp_skip ?_
         show awp ..
         refine X0 ?_
         exact gn 9 [1,2,3,4,5,6,7,9,44,45] (hrn6 _ h)
    ·refine awp_exit ?_
     obtain rfl:=oi h
     exact gs [0,1,2,3,4,5,6,7,8] [2,5,6,7] OutQ.norm
   ·obtain rfl:=oi h
    exact (main_retS [0,1,2,3,4] (.d (.agg [(di ro4.1.many),(di ro4.1.next)])) (by kernel_rfl) (by kernel_rfl) (by kernel_rfl) (by kernel_rfl))
   ·show awp ..
    refine EN ?_
    refine RT (.n 3 (.p (show (setD (.agg [(di p_s.at_),(di p_s.border)]) (.agg [(di so4.2.1),(di so4.2.2)]) (mpo154x156 so4.1)=some (mpo154x156 (mset eqk154 p_s (⟨so4.2.1,so4.2.2⟩:S_colour_rest) so4.1))) from setOk (fk:=dat154) (fv:=dat156) eqk154_ok p_s (⟨so4.2.1,so4.2.2⟩:S_colour_rest) so4.1) (.h (.kvs (mpo154x156 (mset eqk154 p_s (⟨so4.2.1,so4.2.2⟩:S_colour_rest) so4.1))) .nil))) ?_
    refine R0 ?_
    obtain rfl:=oi h
    exact awp_ret (main_retS [0,1,2,3,4] (.d (.agg [(di so4.2.1),(di so4.2.2)])) (by kernel_rfl) (by kernel_rfl) (by kernel_rfl) (by kernel_rfl))
theorem ct87:∀{fuel:Nat} {p_s:S_colour_state} {b0x0:List S_api_Span} {b0x1:Int} {b0x2:List S_api_Span} {b0x3:List S_api_ClPair} {b0x4:Int} {b0x5:List S_api_ClPair} {m2:List (S_colour_state×S_colour_rest)} {res:S_colour_rest×(List (S_colour_state×S_colour_rest))},F87 fuel p_s b0x0 b0x1 b0x2 b0x3 b0x4 b0x5 m2=some res→HCall Tryz.prog 87 [.d (.agg [(di p_s.at_),(di p_s.border)]),rf 0,rf 1,rf 3,rf 4] [.cells [.d (L66 b0x0),vi b0x1,.d (L66 b0x2),.d (L70 b0x3),vi b0x4,.d (L70 b0x5)],.cells [.mp 2],.map (mpo154x156 m2),.cells [.fn (.func 87) [] [rf 0,rf 1,rf 3,rf 4]],.cells [.fn (.func 86) [] []]] (.d (.agg [(di res.1.many),(di res.1.next)])) [.cells [.d (L66 b0x0),vi b0x1,.d (L66 b0x2),.d (L70 b0x3),vi b0x4,.d (L70 b0x5)],.cells [.mp 2],.map (mpo154x156 res.2),.cells [.fn (.func 87) [] [rf 0,rf 1,rf 3,rf 4]],.cells [.fn (.func 86) [] []]]:=by
 intro fuel
 induction fuel with
 | zero=>intro _ _ _ _ _ _ _ _ _ h;exact absurd h (by simp [F87])
 | succ n ih=>intro _ _ _ _ _ _ _ _ _ h;exact ct87B (fun _ _ _ _ _ _ _ _ _ h=>ih h) h
theorem ct21 {fuel:Nat}  {p_m:S_api_ClMap} {res:(List Int)×Int×Int} (h:F21 fuel p_m=some res):PCall Tryz.prog 21 [(.agg [(L66 p_m.Borders),(di p_m.Step),(L66 p_m.Heights),(L70 p_m.Sides),(di p_m.Inks),(L70 p_m.Like)])] (.tup [.d (L3 res.1),vi res.2.1,vi res.2.2]):=by
 refine PCall.of_awp tt_ok (N:=49) Tryz.func21 rfl (by kernel_rfl) rfl (Nat.le_of_ble_eq_true rfl) rfl ?_
 unfold F21 at h
 refine EN ?_
 refine R0 ?_
 refine awp_seq ?_
 obtain ⟨x1,hx1,h⟩:=ob h
 refine RT (.n 1 (.pc (ct85 hx1) .nil)) ?_
 refine R0 ?_
 refine cd h (fun hb2 h=>?_) (fun hb2 h=>?_)
 ·refine R0 ?_
  obtain rfl:=oi h
  refine WA 1 [(2,.d dnil),(3,vi 0),(4,vi x1.2.2)] [.cells [.d (L66 p_m.Borders),vi p_m.Step,.d (L66 p_m.Heights),.d (L70 p_m.Sides),vi p_m.Inks,.d (L70 p_m.Like)]] ?_
  refine awp_laxT 2 _ (L3 ([]:List Int)) _ (by kernel_rfl) (.nil (e:=1)) rfl ?_
  refine WA 1 [(2,.d (L3 ([]:List Int))),(3,vi 0),(4,vi x1.2.2)] [.cells [.d (L66 p_m.Borders),vi p_m.Step,.d (L66 p_m.Heights),.d (L70 p_m.Sides),vi p_m.Inks,.d (L70 p_m.Like)]] ?_
  exact awp_ret gm
 ·refine awp_skip ?_
  show awp ..
  refine R0 ?_
  refine R0 ?_
  refine R0 ?_
  refine R0 ?_
  refine R0 ?_
  obtain ⟨x3,hx3,h⟩:=ob h
  refine RT (.n 2 (.hc [(0,false),(3,false),(2,false),(4,false),(1,false)] (ct87 hx3) .nil)) ?_
  refine awp_seq (R0 ?_)
  refine WA 6 [(2,.d dnil),(3,vi x3.1.many),(7,rf 4),(8,rf 5),(28,vl p_m.Borders),(29,vi 0)] [.cells [.d (L66 p_m.Borders),vi p_m.Step,.d (L66 p_m.Heights),.d (L70 p_m.Sides),vi p_m.Inks,.d (L70 p_m.Like)],.cells [.fn (.func 86) [] []],.map (mpo154x156 x3.2),.cells [.mp 2],.cells [.fn (.func 87) [] [rf 0,rf 3,rf 4,rf 1]],.cells [vi (-1),vi 0]] ?_
  refine awp_nil 2 1 (by kernel_rfl) ?_
  refine awp_eq (T':=[(2,.sl 1 6 0 ([]:List Int).length),(3,vi x3.1.many),(7,rf 4),(8,rf 5),(28,vl p_m.Borders),(29,vi 0)]) (H':=[.cells [.d (L66 p_m.Borders),vi p_m.Step,.d (L66 p_m.Heights),.d (L70 p_m.Sides),vi p_m.Inks,.d (L70 p_m.Like)],.cells [.fn (.func 86) [] []],.map (mpo154x156 x3.2),.cells [.mp 2],.cells [.fn (.func 87) [] [rf 0,rf 3,rf 4,rf 1]],.cells [vi (-1),vi 0],.data (([]:List Int).flatMap cel3)]) (by kernel_rfl) (by kernel_rfl) ?_
  refine WA 7 [(2,.sl 1 6 0 ([]:List Int).length),(3,vi x3.1.many),(7,rf 4),(8,rf 5),(28,vl p_m.Borders),(29,vi 0)] [.cells [.d (L66 p_m.Borders),vi p_m.Step,.d (L66 p_m.Heights),.d (L70 p_m.Sides),vi p_m.Inks,.d (L70 p_m.Like)],.cells [.fn (.func 86) [] []],.map (mpo154x156 x3.2),.cells [.mp 2],.cells [.fn (.func 87) [] [rf 0,rf 3,rf 4,rf 1]],.cells [vi (-1),vi 0],.data (([]:List Int).flatMap cel3)] ?_
  refine cuo h (fun (ro5:(List Int)×Int×Int)=>[(2,.d (L3 ro5.1)),(3,vi ro5.2.1),(4,vi ro5.2.2)]) (fun (ro5:(List Int)×Int×Int)=>[]) (fun (so5:(List (S_colour_state×S_colour_rest))×Int×Int×(List Int))=>[(2,.sl 1 6 0 so5.2.2.2.length),(3,vi x3.1.many)]) (fun (so5:(List (S_colour_state×S_colour_rest))×Int×Int×(List Int))=>[.cells [.d (L66 p_m.Borders),vi p_m.Step,.d (L66 p_m.Heights),.d (L70 p_m.Sides),vi p_m.Inks,.d (L70 p_m.Like)],.cells [.fn (.func 86) [] []],.map (mpo154x156 so5.1),.cells [.mp 2],.cells [.fn (.func 87) [] [rf 0,rf 3,rf 4,rf 1]],.cells [vi so5.2.1,vi so5.2.2.1],.data (so5.2.2.2.flatMap cel3)]) (fun o5 h=>?_) (fun ro5 h=>?_) (fun so5 h=>?_)
  ·refine awp_selQ (EN ?_)
   refine LP 7 [2,3,7,8,28,29] (F21L1 fuel p_m) o5 (fun (c6:Int×(List (S_colour_state×S_colour_rest))×Int×Int×(List Int))=>pr [(2,.sl 1 6 0 c6.2.2.2.2.length),(3,vi x3.1.many),(7,rf 4),(8,rf 5),(28,vl p_m.Borders),(29,vi c6.1)] [.cells [.d (L66 p_m.Borders),vi p_m.Step,.d (L66 p_m.Heights),.d (L70 p_m.Sides),vi p_m.Inks,.d (L70 p_m.Like)],.cells [.fn (.func 86) [] []],.map (mpo154x156 c6.2.1),.cells [.mp 2],.cells [.fn (.func 87) [] [rf 0,rf 3,rf 4,rf 1]],.cells [vi c6.2.2.1,vi c6.2.2.2.1],.data (c6.2.2.2.2.flatMap cel3)]) fuel (0,x3.2,(-1),0,([]:List Int)) h (fun _=>rfl) ?_
   clear h
   intro n7 c6 h hrn7
   rw [F21L1] at h
   refine R0 ?_
   refine awp_seq (cd h (fun hb8 h=>?_) (fun hb8 h=>?_))
   ·refine awp_skip ?_
    show awp ..
    refine awp_seq (awp_block ?_)
    obtain ⟨x9,hx9,h⟩:=ob h
    refine RT (.n 2 (.hc [(0,false),(3,false),(2,false),(4,false),(1,false)] (ct87 hx9) .nil)) ?_
    refine awp_seq (R0 ?_)
    refine cd h (fun hb10 h=>?_) (fun hb10 h=>?_)
    ·refine R0 ?_
     obtain rfl:=oi h
     refine WA 7 [(2,.d dnil),(3,vi 0),(4,vi 9)] [.cells [.d (L66 p_m.Borders),vi p_m.Step,.d (L66 p_m.Heights),.d (L70 p_m.Sides),vi p_m.Inks,.d (L70 p_m.Like)],.cells [.fn (.func 86) [] []],.map (mpo154x156 x9.2),.cells [.mp 2],.cells [.fn (.func 87) [] [rf 0,rf 3,rf 4,rf 1]],.cells [vi c6.2.2.1,vi c6.2.2.2.1],.data (c6.2.2.2.2.flatMap cel3)] ?_
     refine awp_laxT 2 _ (L3 ([]:List Int)) _ (by kernel_rfl) (.nil (e:=1)) rfl ?_
     refine WA 7 [(2,.d (L3 ([]:List Int))),(3,vi 0),(4,vi 9)] [.cells [.d (L66 p_m.Borders),vi p_m.Step,.d (L66 p_m.Heights),.d (L70 p_m.Sides),vi p_m.Inks,.d (L70 p_m.Like)],.cells [.fn (.func 86) [] []],.map (mpo154x156 x9.2),.cells [.mp 2],.cells [.fn (.func 87) [] [rf 0,rf 3,rf 4,rf 1]],.cells [vi c6.2.2.1,vi c6.2.2.2.1],.data (c6.2.2.2.2.flatMap cel3)] ?_
     exact awp_ret (gs [] [2,3,4] OutQ.ret)
    ·refine awp_skip ?_
     show awp ..
     obtain ⟨x11,hx11,h⟩:=ob h
     refine RT (.n 3 (.ap (appendOk cel3_len (need_of hx11)) .nil)) ?_
     refine X0 ?_
     show awp ..
     refine X0 ?_
     exact gn 7 [2,3,7,8,28,29] (hrn7 _ h)
   ·refine awp_exit ?_
    obtain rfl:=oi h
    exact gs [0,1,2,3,4,5,6] [2,3] OutQ.norm
  ·obtain rfl:=oi h
   exact gm
  ·show awp ..
   refine EN ?_
   refine R0 ?_
   obtain rfl:=oi h
   refine WA 7 [(2,.sl 1 6 0 so5.2.2.2.length),(3,vi x3.1.many),(4,vi 0)] [.cells [.d (L66 p_m.Borders),vi p_m.Step,.d (L66 p_m.Heights),.d (L70 p_m.Sides),vi p_m.Inks,.d (L70 p_m.Like)],.cells [.fn (.func 86) [] []],.map (mpo154x156 so5.1),.cells [.mp 2],.cells [.fn (.func 87) [] [rf 0,rf 3,rf 4,rf 1]],.cells [vi so5.2.1,vi so5.2.2.1],.data (so5.2.2.2.flatMap cel3)] ?_
   refine awp_freeze 2 6 (so5.2.2.2.flatMap cel3) (.sl 1 6 0 so5.2.2.2.length) (.d (L3 so5.2.2.2)) _ _ (ps:=[(so5.2.2.2.flatMap cel3).length=so5.2.2.2.length*1]) (by kernel_rfl) (by kernel_rfl) (by kernel_rfl) (flatMap_len cel3 1 cel3_len so5.2.2.2) rfl rfl ?_
   refine WA 7 [(2,.d (L3 so5.2.2.2)),(3,vi x3.1.many),(4,vi 0)] [.cells [.d (L66 p_m.Borders),vi p_m.Step,.d (L66 p_m.Heights),.d (L70 p_m.Sides),vi p_m.Inks,.d (L70 p_m.Like)],.cells [.fn (.func 86) [] []],.map (mpo154x156 so5.1),.cells [.mp 2],.cells [.fn (.func 87) [] [rf 0,rf 3,rf 4,rf 1]],.cells [vi so5.2.1,vi so5.2.2.1],.data (([]:List Int).flatMap cel3)] ?_
   exact awp_ret gm
end Go.Proofs.YtkcgfceihpampaaGreatDoor
