/- That functions of the seat compute this. Printed by a program of mine. -/
import Derived.Test.YtkcgfceihpampaaGreatDoorS
import Derived.Test.YtkcgfceihpampaaGreatDoorCG
import Derived.Test.YtkcgfceihpampaaGreatDoorDI
namespace Go.Proofs.YtkcgfceihpampaaGreatDoor
open Go Go.Sx
set_option maxRecDepth 100000
set_option linter.unusedVariables false
theorem ct158  {p_x:Int} {res:Int} (h:F158 p_x=some res):PCall Tryz.prog 158 [(.v (.int .u64 p_x))] (vi res):=by
 refine PCall.of_awp tt_ok (N:=35) Tryz.func158 rfl (by kernel_rfl) rfl (Nat.le_of_ble_eq_true rfl) rfl ?_
 unfold F158 at h
 refine EN ?_
 refine R0 ?_
 refine RT (.n 1 (.p (by decide:0≤(1:Int)) (.n 1 .nil))) ?_
 refine RT (.n 1 (.p (by decide:0≤(2:Int)) (.n 1 .nil))) ?_
 refine RT (.n 1 (.p (by decide:0≤(4:Int)) (.n 1 .nil))) ?_
 refine RT (.n 2 (.p (by decide:0≤(8:Int)) (.n 1 .nil))) ?_
 refine RT (.n 2 (.p (by decide:0≤(16:Int)) (.n 1 .nil))) ?_
 refine RT (.n 2 (.p (by decide:0≤(32:Int)) (.n 1 .nil))) ?_
 refine R0 ?_
 obtain rfl:=oi h
 exact awp_ret gm
theorem ct93  {p_x:Int} {res:Int} (h:F93 p_x=some res):PCall Tryz.prog 93 [(.v (.int .u64 p_x))] (vi res):=by
 refine PCall.of_awp tt_ok (N:=8) Tryz.func93 rfl (by kernel_rfl) rfl (Nat.le_of_ble_eq_true rfl) rfl ?_
 unfold F93 at h
 refine EN ?_
 refine R0 ?_
 refine awp_seq (awp_cond (b:=false) (by kernel_rfl) (fun hb=>absurd hb (by decide)) (fun hb=>?_))
 refine awp_skip ?_
 show awp ..
 obtain ⟨x1,hx1,h⟩:=ob h
 refine RT (.n 1 (.pc (ct158 hx1) .nil)) ?_
 obtain rfl:=oi h
 exact awp_ret gm
theorem ct91  {p_c:(Option S_colour_chart)} {p_a:Int} {p_b:Int} {res:Bool} (h:F91 p_c p_a p_b=some res):PCall Tryz.prog 91 [(OP159 p_c),(di p_a),(di p_b)] (vb res):=by
 refine PCall.of_awp tt_ok (N:=17) Tryz.func91 rfl (by kernel_rfl) rfl (Nat.le_of_ble_eq_true rfl) rfl ?_
 unfold F91 at h
 refine EN ?_
 refine R0 ?_
 obtain ⟨x1,hx1,h⟩:=ob h
 obtain ⟨x2,hx2,h⟩:=ob h
 obtain ⟨x3,hx3,h⟩:=ob h
 obtain ⟨x4,hx4,h⟩:=ob h
 refine RT (.n 2 (.p (show ((OP159 p_c) = .optr true ([(L66 x1.ClMap.Borders),(di x1.ClMap.Step),(L66 x1.ClMap.Heights),(L70 x1.ClMap.Sides),(di x1.ClMap.Inks),(L70 x1.ClMap.Like),(L3 x1.legend),(L66 x1.bands)]++x1.vec.map di0)) from optr_of (f:=opc159) hx1) (.h (.cells ([(L66 x1.ClMap.Borders),(di x1.ClMap.Step),(L66 x1.ClMap.Heights),(L70 x1.ClMap.Sides),(di x1.ClMap.Inks),(L70 x1.ClMap.Like),(L3 x1.legend),(L66 x1.bands)]++x1.vec.map di0)) (.n 1 (.p (show IdxOk ((x1.vec.map di0).drop 36) 1 6 p_a [di0 x3] from ropIdx1 (need_of hx2:0≤p_a∧p_a<((6:Nat):Int)) hx3) (.h (.cells [di0 x3]) (.n 2 (.p (need_of hx4:0≤p_b) (.n 1 .nil))))))))) ?_
 obtain rfl:=oi h
 exact awp_ret gm
theorem ct92B {fuel:Nat} {rec114:Int→Int→(List Int)→Int→(List Int)→(List S_api_Span)→Int→(List S_api_Span)→(List S_api_ClPair)→Int→(List S_api_ClPair)→(Option S_colour_chart)→(Option S_colour_chart)→Option ((List Int)×Int×(List Int))} (hrec114:∀(band:Int) (used:Int) (b0x0:List Int) (b1x0:Int) (a3:List Int) (b4x0:List S_api_Span) (b4x1:Int) (b4x2:List S_api_Span) (b4x3:List S_api_ClPair) (b4x4:Int) (b4x5:List S_api_ClPair) (b5x0:(Option S_colour_chart)) (b6x0f0:(Option S_colour_chart)) (res:(List Int)×Int×(List Int)),rec114 band used b0x0 b1x0 a3 b4x0 b4x1 b4x2 b4x3 b4x4 b4x5 b5x0 b6x0f0=some res→HCall Tryz.prog 92 [vi band,vi used,rf 0,rf 1,rf 2,rf 4,rf 5,rf 6,rf 7] [.cells [.d (NL3 b0x0)],.cells [vi b1x0],.cells [.sl 1 3 0 a3.length],.fixed (a3.flatMap cel3),.cells [.d (L66 b4x0),vi b4x1,.d (L66 b4x2),.d (L70 b4x3),vi b4x4,.d (L70 b4x5)],.cells [.d (OP159 b5x0)],.cells [.fn (.func 91) [.d (OP159 b6x0f0)] []],.cells [.fn (.func 92) [] [rf 0,rf 1,rf 2,rf 4,rf 5,rf 6,rf 7]]] (.tup []) [.cells [.d (NL3 res.1)],.cells [vi res.2.1],.cells [.sl 1 3 0 res.2.2.length],.fixed (res.2.2.flatMap cel3),.cells [.d (L66 b4x0),vi b4x1,.d (L66 b4x2),.d (L70 b4x3),vi b4x4,.d (L70 b4x5)],.cells [.d (OP159 b5x0)],.cells [.fn (.func 91) [.d (OP159 b6x0f0)] []],.cells [.fn (.func 92) [] [rf 0,rf 1,rf 2,rf 4,rf 5,rf 6,rf 7]]]) {band:Int} {used:Int} {b0x0:List Int} {b1x0:Int} {a3:List Int} {b4x0:List S_api_Span} {b4x1:Int} {b4x2:List S_api_Span} {b4x3:List S_api_ClPair} {b4x4:Int} {b4x5:List S_api_ClPair} {b5x0:(Option S_colour_chart)} {b6x0f0:(Option S_colour_chart)} {res:(List Int)×Int×(List Int)} (h:B92 fuel rec114 band used b0x0 b1x0 a3 b4x0 b4x1 b4x2 b4x3 b4x4 b4x5 b5x0 b6x0f0=some res):HCall Tryz.prog 92 [vi band,vi used,rf 0,rf 1,rf 2,rf 4,rf 5,rf 6,rf 7] [.cells [.d (NL3 b0x0)],.cells [vi b1x0],.cells [.sl 1 3 0 a3.length],.fixed (a3.flatMap cel3),.cells [.d (L66 b4x0),vi b4x1,.d (L66 b4x2),.d (L70 b4x3),vi b4x4,.d (L70 b4x5)],.cells [.d (OP159 b5x0)],.cells [.fn (.func 91) [.d (OP159 b6x0f0)] []],.cells [.fn (.func 92) [] [rf 0,rf 1,rf 2,rf 4,rf 5,rf 6,rf 7]]] (.tup []) [.cells [.d (NL3 res.1)],.cells [vi res.2.1],.cells [.sl 1 3 0 res.2.2.length],.fixed (res.2.2.flatMap cel3),.cells [.d (L66 b4x0),vi b4x1,.d (L66 b4x2),.d (L70 b4x3),vi b4x4,.d (L70 b4x5)],.cells [.d (OP159 b5x0)],.cells [.fn (.func 91) [.d (OP159 b6x0f0)] []],.cells [.fn (.func 92) [] [rf 0,rf 1,rf 2,rf 4,rf 5,rf 6,rf 7]]]:=by
 refine HCall.of_awpS tt_ok (N:=79) (fl:=8) Tryz.func92 rfl (by kernel_rfl) rfl rfl (Nat.le_of_ble_eq_true rfl) ?_
 unfold B92 at h
 refine awp_scope ?_
 obtain ⟨x1,hx1,h⟩:=ob h
 refine EN ?_
 refine RT (.n 2 (.pc (ct93 hx1) .nil)) ?_
 refine awp_seq ?_
 let g1 := !(Nat.beq b0x0.length 0)
 refine RT (.n 1 (.p (show NilIs (NL3 b0x0) (Nat.beq b0x0.length 0) from nilIs_nl) (.h (.nil (Nat.beq b0x0.length 0)) (.n 3 (.i g1 (.i g1 (.n 1 (.i g1 (.n 1 .nil))))))))) ?_
 refine cd h (fun hb2 h=>?_) (fun hb2 h=>?_)
 ·obtain rfl:=oi h
  exact awp_ret (main_retS [0,1,2,3,4,5,6,7] (.tup []) (by kernel_rfl) (by kernel_rfl) (by kernel_rfl) (by kernel_rfl))
 ·refine awp_skip ?_
  show awp ..
  refine awp_seq (R0 ?_)
  refine cd h (fun hb3 h=>?_) (fun hb3 h=>?_)
  ·obtain ⟨x4,hx4,h⟩:=ob h
   refine RT (.n 2 (.p (show MakeOk (a3.length:Int) (a3.length:Int) (List.replicate (a3.length:Int).toNat (0:Int)).length 8 [.int .i64 0] ((List.replicate (a3.length:Int).toNat (0:Int)).flatMap cel3) from makeOk rfl (need_of hx4)) (.h (.list (List.replicate (a3.length:Int).toNat (0:Int)).length ((List.replicate (a3.length:Int).toNat (0:Int)).flatMap cel3)) .nil))) ?_
   refine GB [.no,.no,.cells ((a3.take (List.replicate (a3.length:Int).toNat (0:Int)).length++(List.replicate (a3.length:Int).toNat (0:Int)).drop a3.length).flatMap cel3)] [(3,rf 1),(11,vi x1)] [.cells [.sl 1 8 0 (List.replicate (a3.length:Int).toNat (0:Int)).length],.cells [vi b1x0],.cells [.sl 1 3 0 a3.length],.fixed (a3.flatMap cel3),.cells [.d (L66 b4x0),vi b4x1,.d (L66 b4x2),.d (L70 b4x3),vi b4x4,.d (L70 b4x5)],.cells [.d (OP159 b5x0)],.cells [.fn (.func 91) [.d (OP159 b6x0f0)] []],.cells [.fn (.func 92) [] [rf 0,rf 1,rf 2,rf 4,rf 5,rf 6,rf 7]],.data ((a3.take (List.replicate (a3.length:Int).toNat (0:Int)).length++(List.replicate (a3.length:Int).toNat (0:Int)).drop a3.length).flatMap cel3)] [(0+(List.replicate (a3.length:Int).toNat (0:Int)).length*1≤((List.replicate (a3.length:Int).toNat (0:Int)).flatMap cel3).length∧(((a3.flatMap cel3).drop 0).take (a3.length*1)).length=a3.length*1∧putAt ((List.replicate (a3.length:Int).toNat (0:Int)).flatMap cel3) 0 ((((a3.flatMap cel3).drop 0).take (a3.length*1)).take (min a3.length (List.replicate (a3.length:Int).toNat (0:Int)).length*1))=(a3.take (List.replicate (a3.length:Int).toNat (0:Int)).length++(List.replicate (a3.length:Int).toNat (0:Int)).drop a3.length).flatMap cel3)] (copyOk cel3_len) ?_
   refine awp_eq (T':=[(3,rf 1),(11,vi x1)]) (H':=[.cells [.sl 1 8 0 (a3.take (List.replicate (a3.length:Int).toNat (0:Int)).length++(List.replicate (a3.length:Int).toNat (0:Int)).drop a3.length).length],.cells [vi b1x0],.cells [.sl 1 3 0 a3.length],.fixed (a3.flatMap cel3),.cells [.d (L66 b4x0),vi b4x1,.d (L66 b4x2),.d (L70 b4x3),vi b4x4,.d (L70 b4x5)],.cells [.d (OP159 b5x0)],.cells [.fn (.func 91) [.d (OP159 b6x0f0)] []],.cells [.fn (.func 92) [] [rf 0,rf 1,rf 2,rf 4,rf 5,rf 6,rf 7]],.data ((a3.take (List.replicate (a3.length:Int).toNat (0:Int)).length++(List.replicate (a3.length:Int).toNat (0:Int)).drop a3.length).flatMap cel3)]) rfl (by first|(simp only [List.length_set];done)|(simp only [len_copy];done)|simp only [List.length_set,len_copy]) ?_
   refine EN ?_
   refine R0 ?_
   obtain ⟨x5,hx5,h⟩:=ob h
   obtain rfl:=oi h
   refine WA 9 [] [.cells [.sl 1 8 0 (a3.take (List.replicate (a3.length:Int).toNat (0:Int)).length++(List.replicate (a3.length:Int).toNat (0:Int)).drop a3.length).length],.cells [vi x1],.cells [.sl 1 3 0 a3.length],.fixed (a3.flatMap cel3),.cells [.d (L66 b4x0),vi b4x1,.d (L66 b4x2),.d (L70 b4x3),vi b4x4,.d (L70 b4x5)],.cells [.d (OP159 b5x0)],.cells [.fn (.func 91) [.d (OP159 b6x0f0)] []],.cells [.fn (.func 92) [] [rf 0,rf 1,rf 2,rf 4,rf 5,rf 6,rf 7]],.data ((a3.take (List.replicate (a3.length:Int).toNat (0:Int)).length++(List.replicate (a3.length:Int).toNat (0:Int)).drop a3.length).flatMap cel3)] ?_
   refine awp_freezeC 0 0 8 ((a3.take (List.replicate (a3.length:Int).toNat (0:Int)).length++(List.replicate (a3.length:Int).toNat (0:Int)).drop a3.length).flatMap cel3) [.sl 1 8 0 (a3.take (List.replicate (a3.length:Int).toNat (0:Int)).length++(List.replicate (a3.length:Int).toNat (0:Int)).drop a3.length).length] (.sl 1 8 0 (a3.take (List.replicate (a3.length:Int).toNat (0:Int)).length++(List.replicate (a3.length:Int).toNat (0:Int)).drop a3.length).length) (.d (L3 (a3.take (List.replicate (a3.length:Int).toNat (0:Int)).length++(List.replicate (a3.length:Int).toNat (0:Int)).drop a3.length))) _ _ (ps:=[((a3.take (List.replicate (a3.length:Int).toNat (0:Int)).length++(List.replicate (a3.length:Int).toNat (0:Int)).drop a3.length).flatMap cel3).length=(a3.take (List.replicate (a3.length:Int).toNat (0:Int)).length++(List.replicate (a3.length:Int).toNat (0:Int)).drop a3.length).length*1]) (by kernel_rfl) (by kernel_rfl) (by kernel_rfl) (by kernel_rfl) (flatMap_len cel3 1 cel3_len (a3.take (List.replicate (a3.length:Int).toNat (0:Int)).length++(List.replicate (a3.length:Int).toNat (0:Int)).drop a3.length)) rfl rfl ?_
   refine WA 9 [] [.cells [.d (L3 (a3.take (List.replicate (a3.length:Int).toNat (0:Int)).length++(List.replicate (a3.length:Int).toNat (0:Int)).drop a3.length))],.cells [vi x1],.cells [.sl 1 3 0 a3.length],.fixed (a3.flatMap cel3),.cells [.d (L66 b4x0),vi b4x1,.d (L66 b4x2),.d (L70 b4x3),vi b4x4,.d (L70 b4x5)],.cells [.d (OP159 b5x0)],.cells [.fn (.func 91) [.d (OP159 b6x0f0)] []],.cells [.fn (.func 92) [] [rf 0,rf 1,rf 2,rf 4,rf 5,rf 6,rf 7]],.data (([]:List Int).flatMap cel3)] ?_
   refine awp_laxC 0 0 _ (NL3 (a3.take (List.replicate (a3.length:Int).toNat (0:Int)).length++(List.replicate (a3.length:Int).toNat (0:Int)).drop a3.length)) [.d (L3 (a3.take (List.replicate (a3.length:Int).toNat (0:Int)).length++(List.replicate (a3.length:Int).toNat (0:Int)).drop a3.length))] _ (by kernel_rfl) (by kernel_rfl) (.tonl (need_of hx5)) rfl ?_
   refine WA 9 [] [.cells [.d (NL3 (a3.take (List.replicate (a3.length:Int).toNat (0:Int)).length++(List.replicate (a3.length:Int).toNat (0:Int)).drop a3.length))],.cells [vi x1],.cells [.sl 1 3 0 a3.length],.fixed (a3.flatMap cel3),.cells [.d (L66 b4x0),vi b4x1,.d (L66 b4x2),.d (L70 b4x3),vi b4x4,.d (L70 b4x5)],.cells [.d (OP159 b5x0)],.cells [.fn (.func 91) [.d (OP159 b6x0f0)] []],.cells [.fn (.func 92) [] [rf 0,rf 1,rf 2,rf 4,rf 5,rf 6,rf 7]],.data (([]:List Int).flatMap cel3)] ?_
   exact awp_ret (main_retS [0,1,2,3,4,5,6,7] (.tup []) (by kernel_rfl) (by kernel_rfl) (by kernel_rfl) (by kernel_rfl))
  ·refine awp_skip ?_
   show awp ..
   refine awp_seq (awp_label ?_)
   show awp ..
   refine R0 ?_
   refine cuo h (fun (ro6:(List Int)×Int×(List Int))=>[]) (fun (ro6:(List Int)×Int×(List Int))=>[.cells [.d (NL3 ro6.1)],.cells [vi ro6.2.1],.cells [.sl 1 3 0 ro6.2.2.length],.fixed (ro6.2.2.flatMap cel3),.cells [.d (L66 b4x0),vi b4x1,.d (L66 b4x2),.d (L70 b4x3),vi b4x4,.d (L70 b4x5)],.cells [.d (OP159 b5x0)],.cells [.fn (.func 91) [.d (OP159 b6x0f0)] []],.cells [.fn (.func 92) [] [rf 0,rf 1,rf 2,rf 4,rf 5,rf 6,rf 7]]]) (fun (so6:(List Int)×Int×(List Int))=>[]) (fun (so6:(List Int)×Int×(List Int))=>[.cells [.d (NL3 so6.1)],.cells [vi so6.2.1],.cells [.sl 1 3 0 so6.2.2.length],.fixed (so6.2.2.flatMap cel3),.cells [.d (L66 b4x0),vi b4x1,.d (L66 b4x2),.d (L70 b4x3),vi b4x4,.d (L70 b4x5)],.cells [.d (OP159 b5x0)],.cells [.fn (.func 91) [.d (OP159 b6x0f0)] []],.cells [.fn (.func 92) [] [rf 0,rf 1,rf 2,rf 4,rf 5,rf 6,rf 7]]]) (fun o6 h=>?_) (fun ro6 h=>?_) (fun so6 h=>?_)
   ·refine awp_selQ (LP 8 [0,1,4,6,7,8,37,38] (F92L1 fuel rec114 band used b4x0 b4x1 b4x2 b4x3 b4x4 b4x5 b5x0 b6x0f0) o6 (fun (c7:Int×(List Int)×Int×(List Int))=>pr [(0,vi band),(1,vi used),(4,rf 2),(6,rf 5),(7,rf 6),(8,rf 7),(37,vi b4x4),(38,vi c7.1)] [.cells [.d (NL3 c7.2.1)],.cells [vi c7.2.2.1],.cells [.sl 1 3 0 c7.2.2.2.length],.fixed (c7.2.2.2.flatMap cel3),.cells [.d (L66 b4x0),vi b4x1,.d (L66 b4x2),.d (L70 b4x3),vi b4x4,.d (L70 b4x5)],.cells [.d (OP159 b5x0)],.cells [.fn (.func 91) [.d (OP159 b6x0f0)] []],.cells [.fn (.func 92) [] [rf 0,rf 1,rf 2,rf 4,rf 5,rf 6,rf 7]]]) fuel (0,b0x0,b1x0,a3) h (fun _=>rfl) ?_)
    clear h
    intro n8 c7 h hrn8
    rw [F92L1] at h
    refine R0 ?_
    refine awp_seq (cd h (fun hb9 h=>?_) (fun hb9 h=>?_))
    ·refine awp_skip ?_
     show awp ..
     refine awp_seq (awp_block ?_)
     refine R0 ?_
     refine awp_seq ?_
     obtain ⟨x10,hx10,h⟩:=ob h
     refine RT (.n 2 (.p (show (0≤(0:Int)∧(0:Int)≤band∧band≤(c7.2.2.2.length:Int)∧((0:Int)=0∨(0:Int)<(c7.2.2.2.length:Int))) from (by have h0:=sub_bounds hx10;exact ⟨h0.1,h0.2.1,h0.2.2,.inl rfl⟩)) (.n 1 .nil))) ?_
     obtain ⟨o11,ho11,h⟩:=ob h
     refine awp_cut1 (OutX (fun (ro11:(List Int)×Int×(List Int))=>[]) (fun (ro11:(List Int)×Int×(List Int))=>[.cells [.d (NL3 ro11.1)],.cells [vi ro11.2.1],.cells [.sl 1 3 0 ro11.2.2.length],.fixed (ro11.2.2.flatMap cel3),.cells [.d (L66 b4x0),vi b4x1,.d (L66 b4x2),.d (L70 b4x3),vi b4x4,.d (L70 b4x5)],.cells [.d (OP159 b5x0)],.cells [.fn (.func 91) [.d (OP159 b6x0f0)] []],.cells [.fn (.func 92) [] [rf 0,rf 1,rf 2,rf 4,rf 5,rf 6,rf 7]]]) 1 (fun (qo11:Unit)=>[(0,vi band),(1,vi used),(4,rf 2),(6,rf 5),(7,rf 6),(8,rf 7),(37,vi b4x4),(38,vi c7.1)]) (fun (qo11:Unit)=>[.cells [.d (NL3 c7.2.1)],.cells [vi c7.2.2.1],.cells [.sl 1 3 0 c7.2.2.2.length],.fixed (c7.2.2.2.flatMap cel3),.cells [.d (L66 b4x0),vi b4x1,.d (L66 b4x2),.d (L70 b4x3),vi b4x4,.d (L70 b4x5)],.cells [.d (OP159 b5x0)],.cells [.fn (.func 91) [.d (OP159 b6x0f0)] []],.cells [.fn (.func 92) [] [rf 0,rf 1,rf 2,rf 4,rf 5,rf 6,rf 7]]]) (fun (so11:Unit)=>[(0,vi band),(1,vi used),(4,rf 2),(6,rf 5),(7,rf 6),(8,rf 7),(12,vi c7.1),(37,vi b4x4),(38,vi c7.1)]) (fun (so11:Unit)=>[.cells [.d (NL3 c7.2.1)],.cells [vi c7.2.2.1],.cells [.sl 1 3 0 c7.2.2.2.length],.fixed (c7.2.2.2.flatMap cel3),.cells [.d (L66 b4x0),vi b4x1,.d (L66 b4x2),.d (L70 b4x3),vi b4x4,.d (L70 b4x5)],.cells [.d (OP159 b5x0)],.cells [.fn (.func 91) [.d (OP159 b6x0f0)] []],.cells [.fn (.func 92) [] [rf 0,rf 1,rf 2,rf 4,rf 5,rf 6,rf 7]]]) o11) ?_ ?_
     ·clear h
      have h:=ho11
      clear ho11
      refine awp_selQ (LP 8 [0,1,4,6,7,8,12,37,38,43,44,45] (F92L2 band b5x0 b6x0f0 c7) o11 (fun (c12:Int)=>pr [(0,vi band),(1,vi used),(4,rf 2),(6,rf 5),(7,rf 6),(8,rf 7),(12,vi c7.1),(37,vi b4x4),(38,vi c7.1),(43,.sl 1 3 0 (band-0).toNat),(44,vi ((band-0).toNat:Int)),(45,vi c12)] [.cells [.d (NL3 c7.2.1)],.cells [vi c7.2.2.1],.cells [.sl 1 3 0 c7.2.2.2.length],.fixed (c7.2.2.2.flatMap cel3),.cells [.d (L66 b4x0),vi b4x1,.d (L66 b4x2),.d (L70 b4x3),vi b4x4,.d (L70 b4x5)],.cells [.d (OP159 b5x0)],.cells [.fn (.func 91) [.d (OP159 b6x0f0)] []],.cells [.fn (.func 92) [] [rf 0,rf 1,rf 2,rf 4,rf 5,rf 6,rf 7]]]) fuel 0 h (fun _=>rfl) ?_)
      clear h
      intro n13 c12 h hrn13
      rw [F92L2] at h
      refine R0 ?_
      refine awp_seq (cd h (fun hb14 h=>?_) (fun hb14 h=>?_))
      ·refine awp_skip ?_
       show awp ..
       refine awp_seq (awp_block ?_)
       obtain ⟨x15,hx15,h⟩:=ob h
       obtain ⟨x16,hx16,h⟩:=ob h
       refine RT (.n 1 (.p (show (0≤c12∧c12<((band-0).toNat:Int)) from ⟨(idx_bounds hx15).1,need_of hx16⟩) (.n 1 (.p (show LoadOk ((c7.2.2.2.flatMap cel3).map .d) (0+c12.toNat*1) 1 (([(di x15)]:List D).map .d) from loadOk (j:=0) (es:=([(di x15)]:List D)) cel3_len hx15 rfl rfl rfl (Nat.le_of_ble_eq_true rfl)) (.h (.vals (([(di x15)]:List D).map .d)) .nil))))) ?_
       obtain ⟨x17,hx17,h⟩:=ob h
       obtain ⟨x18,hx18,h⟩:=ob h
       obtain ⟨x19,hx19,h⟩:=ob h
       obtain ⟨x20,hx20,h⟩:=ob h
       obtain ⟨x21,hx21,h⟩:=ob h
       obtain ⟨x22,hx22,h⟩:=ob h
       let g1:=(decide (x21>0))
       refine RT (.n 3 (.p (show ((OP159 b5x0) = .optr true ([(L66 x17.ClMap.Borders),(di x17.ClMap.Step),(L66 x17.ClMap.Heights),(L70 x17.ClMap.Sides),(di x17.ClMap.Inks),(L70 x17.ClMap.Like),(L3 x17.legend),(L66 x17.bands)]++x17.vec.map di0)) from optr_of (f:=opc159) hx17) (.h (.cells ([(L66 x17.ClMap.Borders),(di x17.ClMap.Step),(L66 x17.ClMap.Heights),(L70 x17.ClMap.Sides),(di x17.ClMap.Inks),(L70 x17.ClMap.Like),(L3 x17.legend),(L66 x17.bands)]++x17.vec.map di0)) (.n 1 (.p (show IdxOk ((x17.vec.map di0).drop 0) 6 6 band (x19.map di0) from ropIdx (need_of hx18:0≤band∧band<((6:Nat):Int)) hx19) (.h (.cells (x19.map di0)) (.p (show IdxOk ((x19.map di0).drop 0) 1 6 c12 [di0 x21] from ropIdx1 (need_of hx20:0≤c12∧c12<((6:Nat):Int)) hx21) (.h (.cells [di0 x21]) (.n 6 (.i g1 (.i g1 (.i g1 (.p (show (g1=true→PCall Tryz.prog 91 [(OP159 b6x0f0),(di c7.1),(di x15)] (vb x22)) from (fun hg=>ct91 (optG_of hx22 hg))) (.h (.call [(OP159 b6x0f0),(di c7.1),(di x15)] (vb x22)) (.i g1 (.n 1 .nil)))))))))))))))) ?_
       refine cd h (fun hb23 h=>?_) (fun hb23 h=>?_)
       ·refine awp_exit ?_
        obtain rfl:=oi h
        exact gs [0,1,2,3,4,5,6,7] [0,1,4,6,7,8,37,38] OutX.ex
       ·refine awp_skip ?_
        show awp ..
        refine X0 ?_
        exact gn 8 [0,1,4,6,7,8,12,37,38,43,44,45] (hrn13 _ h)
      ·refine awp_exit ?_
       obtain rfl:=oi h
       exact gs [0,1,2,3,4,5,6,7] [0,1,4,6,7,8,12,37,38] OutX.norm
     ·intro e T H hq
      cases o11 with
      | inl ro11 =>
       obtain ⟨rfl,rfl,rfl⟩:=hq
       rw [outK_inl] at h
       obtain rfl:=oi h
       exact gs [0,1,2,3,4,5,6,7] [] OutQ.ret
      | inr yo11 =>
       rw [outK_inr] at h
       cases yo11 with
       | inl qo11 =>
        obtain ⟨rfl,rfl,rfl⟩:=hq
        rw [outK_inl] at h
        show awp ..
        refine EN ?_
        refine X0 ?_
        exact gn 8 [0,1,4,6,7,8,37,38] (hrn8 _ h)
       | inr so11 =>
        obtain ⟨rfl,rfl,rfl⟩:=hq
        rw [outK_inr] at h
        show awp ..
        obtain ⟨x24,hx24,h⟩:=ob h
        refine GB [.no,.no,.no,.no,.cells ((c7.2.2.2.set band.toNat c7.1).flatMap cel3)] [(0,vi band),(1,vi used),(4,rf 2),(6,rf 5),(7,rf 6),(8,rf 7),(12,vi c7.1),(37,vi b4x4),(38,vi c7.1)] [.cells [.d (NL3 c7.2.1)],.cells [vi c7.2.2.1],.cells [.sl 1 3 0 c7.2.2.2.length],.fixed ((c7.2.2.2.set band.toNat c7.1).flatMap cel3),.cells [.d (L66 b4x0),vi b4x1,.d (L66 b4x2),.d (L70 b4x3),vi b4x4,.d (L70 b4x5)],.cells [.d (OP159 b5x0)],.cells [.fn (.func 91) [.d (OP159 b6x0f0)] []],.cells [.fn (.func 92) [] [rf 0,rf 1,rf 2,rf 4,rf 5,rf 6,rf 7]]] [(0≤band∧band<(c7.2.2.2.length:Int)),StoreOk ((c7.2.2.2.flatMap cel3).map .d) (0+band.toNat*1) (([(di c7.1)]:List D).map .d) (((c7.2.2.2.set band.toNat c7.1).flatMap cel3).map .d)] (And.intro (idx_bounds hx24) (storeOk (j:=0) (us:=([(di c7.1)]:List D)) (y:=c7.1) cel3_len hx24 rfl rfl (Nat.le_of_ble_eq_true rfl))) ?_
        refine awp_eq (T':=[(0,vi band),(1,vi used),(4,rf 2),(6,rf 5),(7,rf 6),(8,rf 7),(12,vi c7.1),(37,vi b4x4),(38,vi c7.1)]) (H':=[.cells [.d (NL3 c7.2.1)],.cells [vi c7.2.2.1],.cells [.sl 1 3 0 (c7.2.2.2.set band.toNat c7.1).length],.fixed ((c7.2.2.2.set band.toNat c7.1).flatMap cel3),.cells [.d (L66 b4x0),vi b4x1,.d (L66 b4x2),.d (L70 b4x3),vi b4x4,.d (L70 b4x5)],.cells [.d (OP159 b5x0)],.cells [.fn (.func 91) [.d (OP159 b6x0f0)] []],.cells [.fn (.func 92) [] [rf 0,rf 1,rf 2,rf 4,rf 5,rf 6,rf 7]]]) rfl (by first|(simp only [List.length_set];done)|(simp only [len_copy];done)|simp only [List.length_set,len_copy]) ?_
        obtain ⟨x25,hx25,h⟩:=ob h
        obtain ⟨x26,hx26,h⟩:=ob h
        refine EN ?_
        refine ET 7 (.n 5 (.p (need_of hx25:0≤c7.1) (.n 1 (.n 1 (.hc [(0,false),(1,false),(2,false),(3,false),(4,false),(5,false),(6,false),(7,false)] (hrec114 _ _ _ _ _ _ _ _ _ _ _ _ _ _ hx26) .nil))))) ?_
        show awp ..
        refine X0 ?_
        exact gn 8 [0,1,4,6,7,8,37,38] (hrn8 _ h)
    ·refine awp_exit ?_
     obtain rfl:=oi h
     exact gs [0,1,2,3,4,5,6,7] [] OutQ.norm
   ·obtain rfl:=oi h
    exact (main_retS [0,1,2,3,4,5,6,7] (.tup []) (by kernel_rfl) (by kernel_rfl) (by kernel_rfl) (by kernel_rfl))
   ·obtain rfl:=oi h
    exact (main_retN [0,1,2,3,4,5,6,7] (.tup []) (by kernel_rfl) (by kernel_rfl) (by kernel_rfl) (by kernel_rfl))
theorem ct92:∀{fuel:Nat} {band:Int} {used:Int} {b0x0:List Int} {b1x0:Int} {a3:List Int} {b4x0:List S_api_Span} {b4x1:Int} {b4x2:List S_api_Span} {b4x3:List S_api_ClPair} {b4x4:Int} {b4x5:List S_api_ClPair} {b5x0:(Option S_colour_chart)} {b6x0f0:(Option S_colour_chart)} {res:(List Int)×Int×(List Int)},F92 fuel band used b0x0 b1x0 a3 b4x0 b4x1 b4x2 b4x3 b4x4 b4x5 b5x0 b6x0f0=some res→HCall Tryz.prog 92 [vi band,vi used,rf 0,rf 1,rf 2,rf 4,rf 5,rf 6,rf 7] [.cells [.d (NL3 b0x0)],.cells [vi b1x0],.cells [.sl 1 3 0 a3.length],.fixed (a3.flatMap cel3),.cells [.d (L66 b4x0),vi b4x1,.d (L66 b4x2),.d (L70 b4x3),vi b4x4,.d (L70 b4x5)],.cells [.d (OP159 b5x0)],.cells [.fn (.func 91) [.d (OP159 b6x0f0)] []],.cells [.fn (.func 92) [] [rf 0,rf 1,rf 2,rf 4,rf 5,rf 6,rf 7]]] (.tup []) [.cells [.d (NL3 res.1)],.cells [vi res.2.1],.cells [.sl 1 3 0 res.2.2.length],.fixed (res.2.2.flatMap cel3),.cells [.d (L66 b4x0),vi b4x1,.d (L66 b4x2),.d (L70 b4x3),vi b4x4,.d (L70 b4x5)],.cells [.d (OP159 b5x0)],.cells [.fn (.func 91) [.d (OP159 b6x0f0)] []],.cells [.fn (.func 92) [] [rf 0,rf 1,rf 2,rf 4,rf 5,rf 6,rf 7]]]:=by
 intro fuel
 induction fuel with
 | zero=>intro _ _ _ _ _ _ _ _ _ _ _ _ _ _ h;exact absurd h (by simp [F92])
 | succ n ih=>intro _ _ _ _ _ _ _ _ _ _ _ _ _ _ h;exact ct92B (fun _ _ _ _ _ _ _ _ _ _ _ _ _ _ h=>ih h) h
theorem ct29 {fuel:Nat}  {p_m:S_api_ClMap} {legend:(List Int)} {res:(List Int)×Int×Int} (h:F29 fuel p_m legend=some res):PCall Tryz.prog 29 [(.agg [(L66 p_m.Borders),(di p_m.Step),(L66 p_m.Heights),(L70 p_m.Sides),(di p_m.Inks),(L70 p_m.Like)]),(L3 legend)] (.tup [.d (L3 res.1),vi res.2.1,vi res.2.2]):=by
 refine PCall.of_awp tt_ok (N:=33) Tryz.func29 rfl (by kernel_rfl) rfl (Nat.le_of_ble_eq_true rfl) rfl ?_
 unfold F29 at h
 refine GA [(1,.d (L3 legend)),(2,rf 0),(4,rf 1),(5,rf 2)] [.cells [.d (L66 p_m.Borders),vi p_m.Step,.d (L66 p_m.Heights),.d (L70 p_m.Sides),vi p_m.Inks,.d (L70 p_m.Like)],.cells [.d dnil],.cells [vi 0]] ?_
 refine awp_laxC 1 0 _ (NL3 ([]:List Int)) [.d dnil] [.cells [.d (L66 p_m.Borders),vi p_m.Step,.d (L66 p_m.Heights),.d (L70 p_m.Sides),vi p_m.Inks,.d (L70 p_m.Like)],.cells [.d (NL3 ([]:List Int))],.cells [vi 0]] (by kernel_rfl) (by kernel_rfl) .nilnl (by kernel_rfl) ?_
 obtain ⟨x1,hx1,h⟩:=ob h
 refine EN ?_
 refine RT (.n 2 (.pc (ct90 hx1) .nil)) ?_
 refine awp_seq (R0 ?_)
 refine cd h (fun hb2 h=>?_) (fun hb2 h=>?_)
 ·refine R0 ?_
  obtain rfl:=oi h
  refine WA 4 [(4,rf 1),(5,rf 2),(6,vi x1.2)] [.cells [.d (L66 p_m.Borders),vi p_m.Step,.d (L66 p_m.Heights),.d (L70 p_m.Sides),vi p_m.Inks,.d (L70 p_m.Like)],.cells [.d dnil],.cells [vi 0],.cells [.d (OP159 x1.1)]] ?_
  refine awp_laxC 1 0 _ (L3 ([]:List Int)) [.d dnil] _ (by kernel_rfl) (by kernel_rfl) (.nil (e:=1)) rfl ?_
  refine WA 4 [(4,rf 1),(5,rf 2),(6,vi x1.2)] [.cells [.d (L66 p_m.Borders),vi p_m.Step,.d (L66 p_m.Heights),.d (L70 p_m.Sides),vi p_m.Inks,.d (L70 p_m.Like)],.cells [.d (L3 ([]:List Int))],.cells [vi 0],.cells [.d (OP159 x1.1)]] ?_
  exact awp_ret gm
 ·refine awp_skip ?_
  show awp ..
  refine R0 ?_
  obtain ⟨x3,hx3,h⟩:=ob h
  refine RT (.n 3 (.p (show MakeOk (w64 ((legend.length:Int)+1)) (w64 ((legend.length:Int)+1)) (List.replicate (w64 ((legend.length:Int)+1)).toNat (0:Int)).length 8 [.int .i64 0] ((List.replicate (w64 ((legend.length:Int)+1)).toNat (0:Int)).flatMap cel3) from makeOk rfl (need_of hx3)) (.h (.list (List.replicate (w64 ((legend.length:Int)+1)).toNat (0:Int)).length ((List.replicate (w64 ((legend.length:Int)+1)).toNat (0:Int)).flatMap cel3)) .nil))) ?_
  refine R0 ?_
  refine R0 ?_
  obtain ⟨x4,hx4,h⟩:=ob h
  refine RT (.n 1 (.hc [(1,false),(2,false),(6,false),(5,true),(0,false),(3,false),(4,false),(7,false)] (ct92 hx4) .nil)) ?_
  refine awp_seq (RT (.n 1 (.p (show NilIs (NL3 x4.1) (Nat.beq x4.1.length 0) from nilIs_nl) (.h (.nil (Nat.beq x4.1.length 0)) .nil))) ?_)
  refine cd h (fun hb5 h=>?_) (fun hb5 h=>?_)
  ·refine R0 ?_
   obtain rfl:=oi h
   refine WA 8 [(4,rf 1),(5,rf 2),(6,vi 9)] [.cells [.d (L66 p_m.Borders),vi p_m.Step,.d (L66 p_m.Heights),.d (L70 p_m.Sides),vi p_m.Inks,.d (L70 p_m.Like)],.cells [.d dnil],.cells [vi 0],.cells [.d (OP159 x1.1)],.cells [.fn (.func 91) [.d (OP159 x1.1)] []],.data (x4.2.2.flatMap cel3),.cells [.sl 1 5 0 x4.2.2.length],.cells [.fn (.func 92) [] [rf 1,rf 2,rf 6,rf 0,rf 3,rf 4,rf 7]]] ?_
   refine awp_laxC 1 0 _ (L3 ([]:List Int)) [.d dnil] _ (by kernel_rfl) (by kernel_rfl) (.nil (e:=1)) rfl ?_
   refine WA 8 [(4,rf 1),(5,rf 2),(6,vi 9)] [.cells [.d (L66 p_m.Borders),vi p_m.Step,.d (L66 p_m.Heights),.d (L70 p_m.Sides),vi p_m.Inks,.d (L70 p_m.Like)],.cells [.d (L3 ([]:List Int))],.cells [vi 0],.cells [.d (OP159 x1.1)],.cells [.fn (.func 91) [.d (OP159 x1.1)] []],.data (x4.2.2.flatMap cel3),.cells [.sl 1 5 0 x4.2.2.length],.cells [.fn (.func 92) [] [rf 1,rf 2,rf 6,rf 0,rf 3,rf 4,rf 7]]] ?_
   exact awp_ret gm
  ·refine awp_skip ?_
   show awp ..
   refine DT 3 .nil ?_
   obtain rfl:=oi h
   refine WA 8 [(4,rf 1),(5,rf 2),(6,vi 0)] [.cells [.d (L66 p_m.Borders),vi p_m.Step,.d (L66 p_m.Heights),.d (L70 p_m.Sides),vi p_m.Inks,.d (L70 p_m.Like)],.cells [.d (NL3 x4.1)],.cells [vi x4.2.1],.cells [.d (OP159 x1.1)],.cells [.fn (.func 91) [.d (OP159 x1.1)] []],.data (x4.2.2.flatMap cel3),.cells [.sl 1 5 0 x4.2.2.length],.cells [.fn (.func 92) [] [rf 1,rf 2,rf 6,rf 0,rf 3,rf 4,rf 7]]] ?_
   refine awp_laxC 1 0 _ (L3 x4.1) [.d (NL3 x4.1)] _ (by kernel_rfl) (by kernel_rfl) (.onl nl_nil) rfl ?_
   refine WA 8 [(4,rf 1),(5,rf 2),(6,vi 0)] [.cells [.d (L66 p_m.Borders),vi p_m.Step,.d (L66 p_m.Heights),.d (L70 p_m.Sides),vi p_m.Inks,.d (L70 p_m.Like)],.cells [.d (L3 x4.1)],.cells [vi x4.2.1],.cells [.d (OP159 x1.1)],.cells [.fn (.func 91) [.d (OP159 x1.1)] []],.data (x4.2.2.flatMap cel3),.cells [.sl 1 5 0 x4.2.2.length],.cells [.fn (.func 92) [] [rf 1,rf 2,rf 6,rf 0,rf 3,rf 4,rf 7]]] ?_
   exact awp_ret gm
theorem ct30 {fuel:Nat}  {p_m:S_api_ClMap} {p_a:Int} {p_b:Int} {res:Bool} (h:F30 fuel p_m p_a p_b=some res):PCall Tryz.prog 30 [(.agg [(L66 p_m.Borders),(di p_m.Step),(L66 p_m.Heights),(L70 p_m.Sides),(di p_m.Inks),(L70 p_m.Like)]),(di p_a),(di p_b)] (vb res):=by
 refine PCall.of_awp tt_ok (N:=46) Tryz.func30 rfl (by kernel_rfl) rfl (Nat.le_of_ble_eq_true rfl) rfl ?_
 unfold F30 at h
 refine EN ?_
 refine R0 ?_
 refine awp_seq (R0 ?_)
 refine cd h (fun hb1 h=>?_) (fun hb1 h=>?_)
 ·refine R0 ?_
  obtain rfl:=oi h
  exact awp_ret gm
 ·refine awp_skip ?_
  show awp ..
  refine awp_seq (R0 ?_)
  refine cuo h (fun (ro2:Bool)=>[(6,vb ro2)]) (fun (ro2:Bool)=>[]) (fun (so2:Unit)=>[]) (fun (so2:Unit)=>[.cells [.d (L66 p_m.Borders),vi p_m.Step,.d (L66 p_m.Heights),.d (L70 p_m.Sides),vi p_m.Inks,.d (L70 p_m.Like)]]) (fun o2 h=>?_) (fun ro2 h=>?_) (fun so2 h=>?_)
  ·refine awp_selQ (LP 1 [1,2,3,7] (F30L1 p_m p_a p_b) o2 (fun (c3:Int)=>pr [(1,vi p_a),(2,vi p_b),(3,rf 0),(7,vi c3)] [.cells [.d (L66 p_m.Borders),vi p_m.Step,.d (L66 p_m.Heights),.d (L70 p_m.Sides),vi p_m.Inks,.d (L70 p_m.Like)]]) fuel 0 h (fun _=>rfl) ?_)
   clear h
   intro n4 c3 h hrn4
   rw [F30L1] at h
   refine awp_seq (R0 ?_)
   refine cd h (fun hb5 h=>?_) (fun hb5 h=>?_)
   ·refine awp_skip ?_
    show awp ..
    refine awp_seq (awp_block ?_)
    obtain ⟨x6,hx6,h⟩:=ob h
    refine RT (.n 3 (.ix (idxOk cel70_len hx6) .nil)) ?_
    let g3:=(x6.A==p_a)
    let g1 := !(cond g3 (x6.B==p_b) false)
    let g2:=(g1&&(x6.A==p_b))
    refine RT (.n 6 (.i g3 (.n 1 (.n 1 (.i g3 (.i g3 (.n 1 (.i g3 (.n 1 (.n 2 (.i g1 (.n 1 (.n 1 (.i g1 (.i g1 (.n 1 (.i g1 (.n 1 (.n 1 (.i g2 (.n 1 (.n 1 (.i g2 (.i g2 (.n 1 (.i g1 (.p (show ((!(cond (x6.A==p_a) (x6.B==p_b) false))=true→(x6.A==p_b)=true→((!(cond (x6.A==p_a) (x6.B==p_b) false))&&(x6.A==p_b))=true) from (fun hg h1=>by first|exact hg|exact h1|(rw [hg,h1];rfl)|(simp only [hg,h1,Bool.not_true,Bool.not_false,Bool.and_self,Bool.true_and,Bool.and_true];done)|(simp only [Bool.and_eq_true] at hg;simp only [hg,h1,Bool.not_true,Bool.not_false,Bool.and_self,Bool.true_and,Bool.and_true];done)|simp_all)) (.h (.own) (.p (show ((cond (x6.A==p_a) (x6.B==p_b) false)=false→(!(cond (x6.A==p_a) (x6.B==p_b) false))=true) from not_of) (.n 1 .nil)))))))))))))))))))))))))))))) ?_
    refine cd h (fun hb7 h=>?_) (fun hb7 h=>?_)
    ·refine R0 ?_
     obtain rfl:=oi h
     exact awp_ret (gs [] [6] OutQ.ret)
    ·refine awp_skip ?_
     show awp ..
     refine X0 ?_
     exact gn 1 [1,2,3,7] (hrn4 _ h)
   ·refine awp_exit ?_
    obtain rfl:=oi h
    exact gs [0] [] OutQ.norm
  ·obtain rfl:=oi h
   exact gm
  ·show awp ..
   refine EN ?_
   refine R0 ?_
   obtain rfl:=oi h
   exact awp_ret gm
end Go.Proofs.YtkcgfceihpampaaGreatDoor
