/- That functions of the seat compute this. Printed by a program of mine. -/
import Derived.Test.YtkcgfceihpampaaGreatDoorS
import Derived.Test.YtkcgfceihpampaaGreatDoorCA
import Derived.Test.YtkcgfceihpampaaGreatDoorCB
import Derived.Test.YtkcgfceihpampaaGreatDoorCD
import Derived.Test.YtkcgfceihpampaaGreatDoorDQ
namespace Go.Proofs.YtkcgfceihpampaaGreatDoor
open Go Go.Sx
set_option maxRecDepth 100000
set_option linter.unusedVariables false
theorem ct173v1B {fuel:Nat} {rec44:Int→(List Int)→Bool→Bool→(List Int)→(List Int)→Bool→Int→(List ByteArray)→(List S_api_ShNote)→Option (Bool×(List Int)×(List Int))} (hrec44:∀(i:Int) (p_b:(List Int)) (bad:Bool) (b0x0:Bool) (a2:List Int) (b3x0:List Int) (b4x0:Bool) (b5x0:Int) (b5x1:List ByteArray) (b5x2:List S_api_ShNote) (res:Bool×(List Int)×(List Int)),rec44 i p_b bad b0x0 a2 b3x0 b4x0 b5x0 b5x1 b5x2=some res→HCall Tryz.prog 173 [vi i,.d (.agg (p_b.map di0)),vb bad,.ref 0 0,.ref 1 0,.ref 3 0,.ref 4 0,.ref 5 0,.ref 6 0] [.cells [vb b0x0],.cells [.sl 1 2 0 a2.length],.data (a2.flatMap cel3),.cells [.d (L3 b3x0)],.cells [vb b4x0],.cells [vi b5x0,.d (L9 b5x1),.d (L121 b5x2)],.cells [.fn (.func 173) [] [.ref 0 0,.ref 1 0,.ref 3 0,.ref 4 0,.ref 5 0,.ref 6 0]]] (.tup []) [.cells [vb res.1],.cells [.sl 1 2 0 res.2.1.length],.data (res.2.1.flatMap cel3),.cells [.d (L3 res.2.2)],.cells [vb b4x0],.cells [vi b5x0,.d (L9 b5x1),.d (L121 b5x2)],.cells [.fn (.func 173) [] [.ref 0 0,.ref 1 0,.ref 3 0,.ref 4 0,.ref 5 0,.ref 6 0]]]) {i:Int} {p_b:(List Int)} {bad:Bool} {b0x0:Bool} {a2:List Int} {b3x0:List Int} {b4x0:Bool} {b5x0:Int} {b5x1:List ByteArray} {b5x2:List S_api_ShNote} {res:Bool×(List Int)×(List Int)} (h:B173v1 fuel rec44 i p_b bad b0x0 a2 b3x0 b4x0 b5x0 b5x1 b5x2=some res):HCall Tryz.prog 173 [vi i,.d (.agg (p_b.map di0)),vb bad,.ref 0 0,.ref 1 0,.ref 3 0,.ref 4 0,.ref 5 0,.ref 6 0] [.cells [vb b0x0],.cells [.sl 1 2 0 a2.length],.data (a2.flatMap cel3),.cells [.d (L3 b3x0)],.cells [vb b4x0],.cells [vi b5x0,.d (L9 b5x1),.d (L121 b5x2)],.cells [.fn (.func 173) [] [.ref 0 0,.ref 1 0,.ref 3 0,.ref 4 0,.ref 5 0,.ref 6 0]]] (.tup []) [.cells [vb res.1],.cells [.sl 1 2 0 res.2.1.length],.data (res.2.1.flatMap cel3),.cells [.d (L3 res.2.2)],.cells [vb b4x0],.cells [vi b5x0,.d (L9 b5x1),.d (L121 b5x2)],.cells [.fn (.func 173) [] [.ref 0 0,.ref 1 0,.ref 3 0,.ref 4 0,.ref 5 0,.ref 6 0]]]:=by
 refine HCall.of_awpS tt_ok (N:=90) (fl:=7) Tryz.func173 rfl (by kernel_rfl) rfl rfl (Nat.le_of_ble_eq_true rfl) ?_
 unfold B173v1 at h
 refine EN ?_
 refine R0 ?_
 refine awp_vec 7 ((p_b.map di0).map .d) [] p_b [] [.cells [vb b0x0],.cells [.sl 1 2 0 a2.length],.data (a2.flatMap cel3),.cells [.d (L3 b3x0)],.cells [vb b4x0],.cells [vi b5x0,.d (L9 b5x1),.d (L121 b5x2)],.cells [.fn (.func 173) [] [.ref 0 0,.ref 1 0,.ref 3 0,.ref 4 0,.ref 5 0,.ref 6 0]],.vec [] p_b []] (by kernel_rfl) (map_dd _) (by kernel_rfl) ?_
 refine awp_seq (EN ?_)
 let g1 := !(cond b0x0 (decide ((a2.length:Int)≥(b3x0.length:Int))) false)
 refine RT (.n 3 (.i b0x0 (.n 1 (.n 1 (.i b0x0 (.n 1 (.i b0x0 (.i b0x0 (.n 1 (.i b0x0 (.n 1 (.n 2 (.i g1 (.n 1 (.n 1 (.i g1 (.p (show ((!(cond b0x0 (decide ((a2.length:Int)≥(b3x0.length:Int))) false))=true→b4x0=true→((!(cond b0x0 (decide ((a2.length:Int)≥(b3x0.length:Int))) false))&&b4x0)=true) from (fun hg h1=>by first|exact hg|exact h1|(rw [hg,h1];rfl)|(simp only [hg,h1,Bool.not_true,Bool.not_false,Bool.and_self,Bool.true_and,Bool.and_true];done)|(simp only [Bool.and_eq_true] at hg;simp only [hg,h1,Bool.not_true,Bool.not_false,Bool.and_self,Bool.true_and,Bool.and_true];done)|simp_all)) (.h (.own) (.p (show ((cond b0x0 (decide ((a2.length:Int)≥(b3x0.length:Int))) false)=false→(!(cond b0x0 (decide ((a2.length:Int)≥(b3x0.length:Int))) false))=true) from not_of) (.n 1 .nil)))))))))))))))))))) ?_
 refine cd h (fun hb1 h=>?_) (fun hb1 h=>?_)
 ·obtain rfl:=oi h
  exact awp_ret (main_retS [0,1,2,3,4,5,6] (.tup []) (by kernel_rfl) (by kernel_rfl) (by kernel_rfl) (by kernel_rfl))
 ·refine awp_skip ?_
  show awp ..
  refine awp_seq ?_
  let g1:=((!bad)&&b4x0)
  refine RT (.n 3 (.i (!bad) (.n 1 (.n 2 (.i g1 (.n 1 (.i g1 (.n 1 (.i g1 (.n 1 (.i g1 (.i g1 (.n 1 (.i (!bad) (.p (show ((!bad)=true→b4x0=true→((!bad)&&b4x0)=true) from (fun hg h1=>by first|exact hg|exact h1|(rw [hg,h1];rfl)|(simp only [hg,h1,Bool.not_true,Bool.not_false,Bool.and_self,Bool.true_and,Bool.and_true];done)|(simp only [Bool.and_eq_true] at hg;simp only [hg,h1,Bool.not_true,Bool.not_false,Bool.and_self,Bool.true_and,Bool.and_true];done)|simp_all)) (.h (.own) (.p (show (bad=false→(!bad)=true) from not_of) (.n 1 .nil)))))))))))))))))) ?_
  refine cd h (fun hb2 h=>?_) (fun hb2 h=>?_)
  ·obtain ⟨x3,hx3,h⟩:=ob h
   refine RT (.n 1 (.hc [(2,true)] (ct110 hx3) .nil)) ?_
   obtain rfl:=oi h
   exact awp_ret (main_retS [0,1,2,3,4,5,6] (.tup []) (by kernel_rfl) (by kernel_rfl) (by kernel_rfl) (by kernel_rfl))
  ·refine awp_skip ?_
   show awp ..
   refine awp_seq (R0 ?_)
   refine cd h (fun hb4 h=>?_) (fun hb4 h=>?_)
   ·obtain rfl:=oi h
    exact awp_ret (main_retS [0,1,2,3,4,5,6] (.tup []) (by kernel_rfl) (by kernel_rfl) (by kernel_rfl) (by kernel_rfl))
   ·refine awp_skip ?_
    show awp ..
    obtain ⟨x5,hx5,h⟩:=ob h
    obtain ⟨x6,hx6,h⟩:=ob h
    obtain ⟨x7,hx7,h⟩:=ob h
    refine RT (.n 1 (.p (show LoadOk (([]:List V)++p_b.map vi) 0 81 ((x5.map di0).map .d) from (by rw [map_dd];exact vecLoads (p:=0) (pre:=[]) rfl hx5 rfl)) (.h (.cells (x5.map di0)) (.n 1 (.pc (ct70 hx6) (.n 4 (.p (show ((((x6.1.map di0).map V.d)).length=81) from (by rw [map_dd];exact (List.length_map _).trans (need_of hx7))) (.p (show StoreOk ((List.replicate 81 (0:Int)).map vi) 0 ((x6.1.map di0).map V.d) (x6.1.map vi) from (by rw [map_dd];exact vecStores (n:=81) rfl (need_of hx7))) (.h (.vals (x6.1.map vi)) .nil))))))))) ?_
    refine awp_vec 8 (x6.1.map vi) [] x6.1 [] [.cells [vb b0x0],.cells [.sl 1 2 0 a2.length],.data (a2.flatMap cel3),.cells [.d (L3 b3x0)],.cells [vb b4x0],.cells [vi b5x0,.d (L9 b5x1),.d (L121 b5x2)],.cells [.fn (.func 173) [] [.ref 0 0,.ref 1 0,.ref 3 0,.ref 4 0,.ref 5 0,.ref 6 0]],.vec [] p_b [],.vec [] x6.1 []] (by kernel_rfl) rfl (by kernel_rfl) ?_
    obtain ⟨x8,hx8,h⟩:=ob h
    refine EN ?_
    refine RT (.n 3 (.ap (appendOk cel3_len (need_of hx8)) .nil)) ?_
    refine awp_seq (R0 ?_)
    refine cuo h (fun (ro9:Bool×(List Int)×(List Int))=>[]) (fun (ro9:Bool×(List Int)×(List Int))=>[.cells [vb ro9.1],.cells [.sl 1 2 0 ro9.2.1.length],.data (ro9.2.1.flatMap cel3),.cells [.d (L3 ro9.2.2)],.cells [vb b4x0],.cells [vi b5x0,.d (L9 b5x1),.d (L121 b5x2)],.cells [.fn (.func 173) [] [.ref 0 0,.ref 1 0,.ref 3 0,.ref 4 0,.ref 5 0,.ref 6 0]]]) (fun (so9:Bool×(List Int)×(List Int))=>[(0,vi i),(4,.ref 1 0),(6,.ref 4 0),(8,.ref 6 0),(10,.ref 7 0),(12,.ref 8 0),(13,vb x6.2)]) (fun (so9:Bool×(List Int)×(List Int))=>[.cells [vb so9.1],.cells [.sl 1 2 0 so9.2.1.length],.data (so9.2.1.flatMap cel3),.cells [.d (L3 so9.2.2)],.cells [vb b4x0],.cells [vi b5x0,.d (L9 b5x1),.d (L121 b5x2)],.cells [.fn (.func 173) [] [.ref 0 0,.ref 1 0,.ref 3 0,.ref 4 0,.ref 5 0,.ref 6 0]],.vec [] p_b [],.vec [] x6.1 []]) (fun o9 h=>?_) (fun ro9 h=>?_) (fun so9 h=>?_)
    ·refine awp_selQ (cd h (fun hb10 h=>?_) (fun hb10 h=>?_))
     ·obtain ⟨x11,hx11,h⟩:=ob h
      obtain ⟨x12,hx12,h⟩:=ob h
      refine XT (.n 3 (.p (show LoadOk (([]:List V)++p_b.map vi) 0 81 ((x11.map di0).map .d) from (by rw [map_dd];exact vecLoads (p:=0) (pre:=[]) rfl hx11 rfl)) (.h (.cells (x11.map di0)) (.hc [(0,false),(1,false),(2,false),(3,false),(4,false),(5,false),(6,false)] (hrec44 _ _ _ _ _ _ _ _ _ _ _ hx12) .nil)))) ?_
      obtain rfl:=oi h
      exact gs [0,1,2,3,4,5,6,7,8] [0,4,6,8,10,12,13] OutQ.norm
     ·obtain ⟨x13,hx13,h⟩:=ob h
      obtain ⟨x14,hx14,h⟩:=ob h
      refine XT (.n 3 (.p (show LoadOk (([]:List V)++x6.1.map vi) 0 81 ((x13.map di0).map .d) from (by rw [map_dd];exact vecLoads (p:=0) (pre:=[]) rfl hx13 rfl)) (.h (.cells (x13.map di0)) (.n 2 (.hc [(0,false),(1,false),(2,false),(3,false),(4,false),(5,false),(6,false)] (hrec44 _ _ _ _ _ _ _ _ _ _ _ hx14) .nil))))) ?_
      obtain rfl:=oi h
      exact gs [0,1,2,3,4,5,6,7,8] [0,4,6,8,10,12,13] OutQ.norm
    ·obtain rfl:=oi h
     exact (main_retS [0,1,2,3,4,5,6] (.tup []) (by kernel_rfl) (by kernel_rfl) (by kernel_rfl) (by kernel_rfl))
    ·show awp ..
     obtain ⟨x15,hx15,h⟩:=ob h
     refine EN ?_
     refine RT (.n 4 (.p (show (0≤(0:Int)∧(0:Int)≤(w64 ((so9.2.1.length:Int)-1))∧(w64 ((so9.2.1.length:Int)-1))≤(so9.2.1.length:Int)∧((0:Int)=0∨(0:Int)<(so9.2.1.length:Int))) from (by have h0:=sub_bounds hx15;exact ⟨h0.1,h0.2.1,h0.2.2,.inl rfl⟩)) (.n 1 .nil))) ?_
     refine WA 9 [(0,vi i),(6,.ref 4 0),(8,.ref 6 0),(10,.ref 7 0),(12,.ref 8 0),(13,vb x6.2)] [.cells [vb so9.1],.cells [.sl 1 2 0 ((w64 ((so9.2.1.length:Int)-1))-0).toNat],.data (so9.2.1.flatMap cel3),.cells [.d (L3 so9.2.2)],.cells [vb b4x0],.cells [vi b5x0,.d (L9 b5x1),.d (L121 b5x2)],.cells [.fn (.func 173) [] [.ref 0 0,.ref 1 0,.ref 3 0,.ref 4 0,.ref 5 0,.ref 6 0]],.vec [] p_b [],.vec [] x6.1 []] ?_
     refine awp_trunc 2 (x15.length*1) _ (x15.flatMap cel3) [.cells [vb so9.1],.cells [.sl 1 2 0 ((w64 ((so9.2.1.length:Int)-1))-0).toNat],.data (x15.flatMap cel3),.cells [.d (L3 so9.2.2)],.cells [vb b4x0],.cells [vi b5x0,.d (L9 b5x1),.d (L121 b5x2)],.cells [.fn (.func 173) [] [.ref 0 0,.ref 1 0,.ref 3 0,.ref 4 0,.ref 5 0,.ref 6 0]],.vec [] p_b [],.vec [] x6.1 []] (by kernel_rfl) (trunc_take cel3_len hx15).1 (by kernel_rfl) ?_
     refine awp_eq (T':=[(0,vi i),(6,.ref 4 0),(8,.ref 6 0),(10,.ref 7 0),(12,.ref 8 0),(13,vb x6.2)]) (H':=[.cells [vb so9.1],.cells [.sl 1 2 0 x15.length],.data (x15.flatMap cel3),.cells [.d (L3 so9.2.2)],.cells [vb b4x0],.cells [vi b5x0,.d (L9 b5x1),.d (L121 b5x2)],.cells [.fn (.func 173) [] [.ref 0 0,.ref 1 0,.ref 3 0,.ref 4 0,.ref 5 0,.ref 6 0]],.vec [] p_b [],.vec [] x6.1 []]) (by first|rfl|rw [(trunc_take cel3_len hx15).2]) (by rw [(trunc_take cel3_len hx15).2]) ?_
     refine EN ?_
     refine R0 ?_
     refine cd h (fun hb16 h=>?_) (fun hb16 h=>?_)
     ·obtain ⟨x17,hx17,h⟩:=ob h
      obtain ⟨x18,hx18,h⟩:=ob h
      refine XT (.n 3 (.p (show LoadOk (([]:List V)++x6.1.map vi) 0 81 ((x17.map di0).map .d) from (by rw [map_dd];exact vecLoads (p:=0) (pre:=[]) rfl hx17 rfl)) (.h (.cells (x17.map di0)) (.n 2 (.hc [(0,false),(1,false),(2,false),(3,false),(4,false),(5,false),(6,false)] (hrec44 _ _ _ _ _ _ _ _ _ _ _ hx18) .nil))))) ?_
      obtain rfl:=oi h
      exact (main_retN [0,1,2,3,4,5,6] (.tup []) (by kernel_rfl) (by kernel_rfl) (by kernel_rfl) (by kernel_rfl))
     ·obtain ⟨x19,hx19,h⟩:=ob h
      obtain ⟨x20,hx20,h⟩:=ob h
      refine XT (.n 3 (.p (show LoadOk (([]:List V)++p_b.map vi) 0 81 ((x19.map di0).map .d) from (by rw [map_dd];exact vecLoads (p:=0) (pre:=[]) rfl hx19 rfl)) (.h (.cells (x19.map di0)) (.hc [(0,false),(1,false),(2,false),(3,false),(4,false),(5,false),(6,false)] (hrec44 _ _ _ _ _ _ _ _ _ _ _ hx20) .nil)))) ?_
      obtain rfl:=oi h
      exact (main_retN [0,1,2,3,4,5,6] (.tup []) (by kernel_rfl) (by kernel_rfl) (by kernel_rfl) (by kernel_rfl))
theorem ct173v1:∀{fuel:Nat} {i:Int} {p_b:(List Int)} {bad:Bool} {b0x0:Bool} {a2:List Int} {b3x0:List Int} {b4x0:Bool} {b5x0:Int} {b5x1:List ByteArray} {b5x2:List S_api_ShNote} {res:Bool×(List Int)×(List Int)},F173v1 fuel i p_b bad b0x0 a2 b3x0 b4x0 b5x0 b5x1 b5x2=some res→HCall Tryz.prog 173 [vi i,.d (.agg (p_b.map di0)),vb bad,.ref 0 0,.ref 1 0,.ref 3 0,.ref 4 0,.ref 5 0,.ref 6 0] [.cells [vb b0x0],.cells [.sl 1 2 0 a2.length],.data (a2.flatMap cel3),.cells [.d (L3 b3x0)],.cells [vb b4x0],.cells [vi b5x0,.d (L9 b5x1),.d (L121 b5x2)],.cells [.fn (.func 173) [] [.ref 0 0,.ref 1 0,.ref 3 0,.ref 4 0,.ref 5 0,.ref 6 0]]] (.tup []) [.cells [vb res.1],.cells [.sl 1 2 0 res.2.1.length],.data (res.2.1.flatMap cel3),.cells [.d (L3 res.2.2)],.cells [vb b4x0],.cells [vi b5x0,.d (L9 b5x1),.d (L121 b5x2)],.cells [.fn (.func 173) [] [.ref 0 0,.ref 1 0,.ref 3 0,.ref 4 0,.ref 5 0,.ref 6 0]]]:=by
 intro fuel
 induction fuel with
 | zero=>intro _ _ _ _ _ _ _ _ _ _ _ h;exact absurd h (by simp [F173v1])
 | succ n ih=>intro _ _ _ _ _ _ _ _ _ _ _ h;exact ct173v1B (fun _ _ _ _ _ _ _ _ _ _ _ h=>ih h) h
theorem ct115 {fuel:Nat}  {p_s:S_sheet_sheet} {left:Bool} {res:(List Int)} (h:F115 fuel p_s left=some res):PCall Tryz.prog 115 [(.agg [(di p_s.ShSheet.Interval),(L9 p_s.ShSheet.Points),(L121 p_s.ShSheet.Notes)]),(db left)] (.d (L3 res)):=by
 refine PCall.of_awp tt_ok (N:=13) Tryz.func115 rfl (by kernel_rfl) rfl (Nat.le_of_ble_eq_true rfl) rfl ?_
 unfold F115 at h
 refine EN ?_
 refine R0 ?_
 refine R0 ?_
 refine R0 ?_
 refine R0 ?_
 refine WA 6 [(2,.ref 0 0),(3,.ref 1 0),(4,.ref 2 0),(5,.ref 3 0),(6,.ref 4 0),(7,.ref 5 0)] [.cells [vi p_s.ShSheet.Interval,.d (L9 p_s.ShSheet.Points),.d (L121 p_s.ShSheet.Notes)],.cells [vb left],.cells [.d dnil],.cells [vb false],.cells [.d dnil],.cells [.d (.v (.nilFunc))]] ?_
 refine awp_laxC 2 0 _ (L3 ([]:List Int)) [.d dnil] [.cells [vi p_s.ShSheet.Interval,.d (L9 p_s.ShSheet.Points),.d (L121 p_s.ShSheet.Notes)],.cells [vb left],.cells [.d (L3 ([]:List Int))],.cells [vb false],.cells [.d dnil],.cells [.d (.v (.nilFunc))]] (by kernel_rfl) (by kernel_rfl) (.nil (e:=1)) (by kernel_rfl) ?_
 refine awp_nilC 4 0 1 [.d dnil] [.cells [vi p_s.ShSheet.Interval,.d (L9 p_s.ShSheet.Points),.d (L121 p_s.ShSheet.Notes)],.cells [vb left],.cells [.d (L3 ([]:List Int))],.cells [vb false],.cells [.sl 1 6 0 ([]:List Int).length],.cells [.d (.v (.nilFunc))],.data (([]:List Int).flatMap cel3)] (by kernel_rfl) (by kernel_rfl) (by kernel_rfl) ?_
 refine EN ?_
 refine R0 ?_
 obtain ⟨x1,hx1,h⟩:=ob h
 obtain ⟨x2,hx2,h⟩:=ob h
 refine DT 2 (.n 1 (.pc (ct69 hx1) (.hc [(3,false),(4,false),(6,false),(2,false),(1,false),(0,false),(5,false)] (ct173v1 hx2) .nil))) ?_
 refine R0 ?_
 obtain rfl:=oi h
 exact awp_ret gm
theorem ct42 {fuel:Nat}  {p_s:S_api_ShSheet} {res:(List Int)×Int} (h:F42 fuel p_s=some res):PCall Tryz.prog 42 [(.agg [(di p_s.Interval),(L9 p_s.Points),(L121 p_s.Notes)])] (.tup [.d (L3 res.1),vi res.2]):=by
 refine PCall.of_awp tt_ok (N:=20) Tryz.func42 rfl (by kernel_rfl) rfl (Nat.le_of_ble_eq_true rfl) rfl ?_
 unfold F42 at h
 refine EN ?_
 refine R0 ?_
 obtain ⟨x1,hx1,h⟩:=ob h
 refine RT (.n 1 (.pc (ct12 hx1) .nil)) ?_
 refine awp_seq (awp_block ?_)
 refine R0 ?_
 refine cd h (fun hb2 h=>?_) (fun hb2 h=>?_)
 ·refine R0 ?_
  obtain rfl:=oi h
  refine WA 1 [(2,.d dnil),(3,vi x1.2)] [.cells [vi p_s.Interval,.d (L9 p_s.Points),.d (L121 p_s.Notes)]] ?_
  refine awp_laxT 2 _ (L3 ([]:List Int)) _ (by kernel_rfl) (.nil (e:=1)) rfl ?_
  refine WA 1 [(2,.d (L3 ([]:List Int))),(3,vi x1.2)] [.cells [vi p_s.Interval,.d (L9 p_s.Points),.d (L121 p_s.Notes)]] ?_
  exact awp_ret gm
 ·refine R0 ?_
  refine cd h (fun hb3 h=>?_) (fun hb3 h=>?_)
  ·refine R0 ?_
   obtain rfl:=oi h
   refine WA 1 [(2,.d dnil),(3,vi 4)] [.cells [vi p_s.Interval,.d (L9 p_s.Points),.d (L121 p_s.Notes)]] ?_
   refine awp_laxT 2 _ (L3 ([]:List Int)) _ (by kernel_rfl) (.nil (e:=1)) rfl ?_
   refine WA 1 [(2,.d (L3 ([]:List Int))),(3,vi 4)] [.cells [vi p_s.Interval,.d (L9 p_s.Points),.d (L121 p_s.Notes)]] ?_
   exact awp_ret gm
  ·refine awp_skip ?_
   show awp ..
   obtain ⟨x4,hx4,h⟩:=ob h
   refine RT (.n 2 (.pc (ct115 hx4) .nil)) ?_
   obtain rfl:=oi h
   exact awp_ret gm
theorem ct43 {fuel:Nat}  {p_s:S_api_ShSheet} {res:(List Int)×Int} (h:F43 fuel p_s=some res):PCall Tryz.prog 43 [(.agg [(di p_s.Interval),(L9 p_s.Points),(L121 p_s.Notes)])] (.tup [.d (L3 res.1),vi res.2]):=by
 refine PCall.of_awp tt_ok (N:=19) Tryz.func43 rfl (by kernel_rfl) rfl (Nat.le_of_ble_eq_true rfl) rfl ?_
 unfold F43 at h
 refine EN ?_
 refine R0 ?_
 refine awp_seq ?_
 obtain ⟨x1,hx1,h⟩:=ob h
 refine RT (.n 1 (.pc (ct65 hx1) .nil)) ?_
 refine R0 ?_
 refine cd h (fun hb2 h=>?_) (fun hb2 h=>?_)
 ·refine R0 ?_
  obtain rfl:=oi h
  refine WA 1 [(2,.d dnil),(3,vi x1.2.2)] [.cells [vi p_s.Interval,.d (L9 p_s.Points),.d (L121 p_s.Notes)]] ?_
  refine awp_laxT 2 _ (L3 ([]:List Int)) _ (by kernel_rfl) (.nil (e:=1)) rfl ?_
  refine WA 1 [(2,.d (L3 ([]:List Int))),(3,vi x1.2.2)] [.cells [vi p_s.Interval,.d (L9 p_s.Points),.d (L121 p_s.Notes)]] ?_
  exact awp_ret gm
 ·refine awp_skip ?_
  show awp ..
  obtain ⟨x3,hx3,h⟩:=ob h
  refine RT (.n 2 (.pc (ct115 hx3) .nil)) ?_
  obtain rfl:=oi h
  exact awp_ret gm
end Go.Proofs.YtkcgfceihpampaaGreatDoor
