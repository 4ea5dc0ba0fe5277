/- That functions of the seat compute this. Printed by a program of mine. -/
import Derived.Test.YtkcgfceihpampaaGreatDoorS
import Derived.Test.YtkcgfceihpampaaGreatDoorCK
import Derived.Test.YtkcgfceihpampaaGreatDoorDL
namespace Go.Proofs.YtkcgfceihpampaaGreatDoor
open Go Go.Sx
set_option maxRecDepth 100000
set_option linter.unusedVariables false
theorem ct133v1  {p_x:S_carve_row} {res:Int×(List S_api_CvPoint)} (h:F133v1 p_x=some res):HCall Tryz.prog 133 [.d (.agg [(di p_x.CvRow.Steep),(L91 p_x.CvRow.Points)])] [] (.fn (.func 188) [] [rf 0]) [.cells [vi res.1,.d (L91 res.2)]]:=by
 refine HCall.of_awpS tt_ok (N:=4) (fl:=0) Tryz.func133 rfl (by kernel_rfl) rfl rfl (Nat.le_of_ble_eq_true rfl) ?_
 unfold F133v1 at h
 refine EN ?_
 refine R0 ?_
 refine R0 ?_
 obtain rfl:=oi h
 exact awp_ret (main_retS [0] (.fn (.func 188) [] [rf 0]) (by kernel_rfl) (by kernel_rfl) (by kernel_rfl) (by kernel_rfl))
theorem ct64r  {y1:Int} {y2:Int} {b1x0:Int} {b1x1:List S_api_CvPoint} {a3:List S_api_Span} {res:(List S_api_Span)} (h:F64r y1 y2 b1x0 b1x1 a3=some res):YCall Tryz.prog [.yld 0,vi y1,vi y2] [.loop (some none) [34,35] asn64x0 bdy64x0 78 [(1,rf 1),(4,rf 2)],.cells [vi b1x0,.d (L91 b1x1)],.cells [.sl 2 3 0 a3.length],.fixed (a3.flatMap cel66)] (vb true) [.loop (some none) [34,35] asn64x0 bdy64x0 78 [(1,rf 1),(4,rf 2)],.cells [vi b1x0,.d (L91 b1x1)],.cells [.sl 2 3 0 res.length],.fixed (res.flatMap cel66)]:=by
 refine YCall.of_awp (N:=78) (k:=0) (ps:=[34,35]) (asg:=asn64x0) (bd:=bdy64x0) (Tl:=[(1,rf 1),(4,rf 2)]) rfl (by kernel_rfl) rfl ?_
 refine awp_eq (T':=[(35,vi y2),(34,vi y1),(1,rf 1),(4,rf 2)]) (H':=[.loop (some none) [34,35] asn64x0 bdy64x0 78 [(1,rf 1),(4,rf 2)],.cells [vi b1x0,.d (L91 b1x1)],.cells [.sl 2 3 0 a3.length],.fixed (a3.flatMap cel66)]) (by kernel_rfl) rfl ?_
 change awp _ _ _ _ asn64x0 _ _ _
 unfold F64r at h
 refine GA [(1,rf 1),(4,rf 2),(7,vi y1),(35,vi y2)] [.loop (some none) [34,35] asn64x0 bdy64x0 78 [(1,rf 1),(4,rf 2)],.cells [vi b1x0,.d (L91 b1x1)],.cells [.sl 2 3 0 a3.length],.fixed (a3.flatMap cel66)] ?_
 refine YA [(1,rf 1),(4,rf 2),(7,vi y1),(8,vi y2)] ?_
 refine ⟨rfl,by kernel_rfl,?_⟩
 refine awp_eq (T':=[(1,rf 1),(4,rf 2),(7,vi y1),(8,vi y2)]) (H':=[.loop (none) [34,35] asn64x0 bdy64x0 78 [(1,rf 1),(4,rf 2)],.cells [vi b1x0,.d (L91 b1x1)],.cells [.sl 2 3 0 a3.length],.fixed (a3.flatMap cel66)]) rfl rfl ?_
 refine awp_wkQ ?_
 refine awp_block ?_
 obtain ⟨x1,hx1,h⟩:=ob h
 obtain ⟨x2,hx2,h⟩:=ob h
 obtain ⟨x3,hx3,h⟩:=ob h
 refine sd [1,4,7,8] [.no,.no,.no,.no,.no,.no,.vals (([(di x1.Lo)]:List D).map .d),.no,.no,.no,.no,.vals (([(di x2.Lo)]:List D).map .d),.no,.no,.no,.no,.no,.no,.no,.cells ((a3.set y2.toNat (⟨(if (w64 (x2.Lo-b1x0))>x1.Lo then (w64 (x2.Lo-b1x0)) else x1.Lo),x3.Hi⟩:S_api_Span)).flatMap cel66)] 17 [1,4,7,8,36,37,52,53,54] [(1,rf 1),(4,rf 2),(7,vi y1),(8,vi y2)] [.loop (none) [34,35] asn64x0 bdy64x0 78 [(1,rf 1),(4,rf 2)],.cells [vi b1x0,.d (L91 b1x1)],.cells [.sl 2 3 0 a3.length],.fixed ((a3.set y2.toNat (⟨(if (w64 (x2.Lo-b1x0))>x1.Lo then (w64 (x2.Lo-b1x0)) else x1.Lo),x3.Hi⟩:S_api_Span)).flatMap cel66)] [(0≤y2∧y2<(a3.length:Int)),LoadOk ((a3.flatMap cel66).map .d) (0+y2.toNat*2+0) 1 (([(di x1.Lo)]:List D).map .d),(0≤y1∧y1<(a3.length:Int)),LoadOk ((a3.flatMap cel66).map .d) (0+y1.toNat*2+0) 1 (([(di x2.Lo)]:List D).map .d),(0≤y2∧y2<(a3.length:Int)),StoreOk ((a3.flatMap cel66).map .d) (0+y2.toNat*2+0) (([(di (if (w64 (x2.Lo-b1x0))>x1.Lo then (w64 (x2.Lo-b1x0)) else x1.Lo))]:List D).map .d) (((a3.set y2.toNat (⟨(if (w64 (x2.Lo-b1x0))>x1.Lo then (w64 (x2.Lo-b1x0)) else x1.Lo),x3.Hi⟩:S_api_Span)).flatMap cel66).map .d)] (And.intro (idx_bounds hx1) (And.intro (loadOk (j:=0) (es:=([(di x1.Lo)]:List D)) cel66_len hx1 rfl rfl rfl (Nat.le_of_ble_eq_true rfl)) (And.intro (idx_bounds hx2) (And.intro (loadOk (j:=0) (es:=([(di x2.Lo)]:List D)) cel66_len hx2 rfl rfl rfl (Nat.le_of_ble_eq_true rfl)) (And.intro (idx_bounds hx3) (storeOk (j:=0) (us:=([(di (if (w64 (x2.Lo-b1x0))>x1.Lo then (w64 (x2.Lo-b1x0)) else x1.Lo))]:List D)) (y:=(⟨(if (w64 (x2.Lo-b1x0))>x1.Lo then (w64 (x2.Lo-b1x0)) else x1.Lo),x3.Hi⟩:S_api_Span)) cel66_len hx3 rfl rfl (Nat.le_of_ble_eq_true rfl))))))) ?_
 refine awp_eq (T':=[(1,rf 1),(4,rf 2),(7,vi y1),(8,vi y2)]) (H':=[.loop (none) [34,35] asn64x0 bdy64x0 78 [(1,rf 1),(4,rf 2)],.cells [vi b1x0,.d (L91 b1x1)],.cells [.sl 2 3 0 (a3.set y2.toNat (⟨(if (w64 (x2.Lo-b1x0))>x1.Lo then (w64 (x2.Lo-b1x0)) else x1.Lo),x3.Hi⟩:S_api_Span)).length],.fixed ((a3.set y2.toNat (⟨(if (w64 (x2.Lo-b1x0))>x1.Lo then (w64 (x2.Lo-b1x0)) else x1.Lo),x3.Hi⟩:S_api_Span)).flatMap cel66)]) rfl (by first|(simp only [List.length_set];done)|(simp only [len_copy];done)|simp only [List.length_set,len_copy]) ?_
 obtain ⟨x4,hx4,h⟩:=ob h
 obtain ⟨x5,hx5,h⟩:=ob h
 obtain ⟨x6,hx6,h⟩:=ob h
 refine awp_any (T':=[]) (H':=[.loop (none) [34,35] asn64x0 bdy64x0 78 [(1,rf 1),(4,rf 2)],.cells [vi b1x0,.d (L91 b1x1)],.cells [.sl 2 3 0 (a3.set y2.toNat (⟨(if (w64 (x2.Lo-b1x0))>x1.Lo then (w64 (x2.Lo-b1x0)) else x1.Lo),x3.Hi⟩:S_api_Span)).length],.fixed (((a3.set y2.toNat (⟨(if (w64 (x2.Lo-b1x0))>x1.Lo then (w64 (x2.Lo-b1x0)) else x1.Lo),x3.Hi⟩:S_api_Span)).set y2.toNat (⟨x6.Lo,(if (w64 (x5.Hi+b1x0))<x4.Hi then (w64 (x5.Hi+b1x0)) else x4.Hi)⟩:S_api_Span)).flatMap cel66)]) (ps:=[(0≤y2∧y2<((a3.set y2.toNat (⟨(if (w64 (x2.Lo-b1x0))>x1.Lo then (w64 (x2.Lo-b1x0)) else x1.Lo),x3.Hi⟩:S_api_Span)).length:Int)),LoadOk (((a3.set y2.toNat (⟨(if (w64 (x2.Lo-b1x0))>x1.Lo then (w64 (x2.Lo-b1x0)) else x1.Lo),x3.Hi⟩:S_api_Span)).flatMap cel66).map .d) (0+y2.toNat*2+1) 1 (([(di x4.Hi)]:List D).map .d),(0≤y1∧y1<((a3.set y2.toNat (⟨(if (w64 (x2.Lo-b1x0))>x1.Lo then (w64 (x2.Lo-b1x0)) else x1.Lo),x3.Hi⟩:S_api_Span)).length:Int)),LoadOk (((a3.set y2.toNat (⟨(if (w64 (x2.Lo-b1x0))>x1.Lo then (w64 (x2.Lo-b1x0)) else x1.Lo),x3.Hi⟩:S_api_Span)).flatMap cel66).map .d) (0+y1.toNat*2+1) 1 (([(di x5.Hi)]:List D).map .d),(0≤y2∧y2<((a3.set y2.toNat (⟨(if (w64 (x2.Lo-b1x0))>x1.Lo then (w64 (x2.Lo-b1x0)) else x1.Lo),x3.Hi⟩:S_api_Span)).length:Int)),StoreOk (((a3.set y2.toNat (⟨(if (w64 (x2.Lo-b1x0))>x1.Lo then (w64 (x2.Lo-b1x0)) else x1.Lo),x3.Hi⟩:S_api_Span)).flatMap cel66).map .d) (0+y2.toNat*2+1) (([(di (if (w64 (x5.Hi+b1x0))<x4.Hi then (w64 (x5.Hi+b1x0)) else x4.Hi))]:List D).map .d) ((((a3.set y2.toNat (⟨(if (w64 (x2.Lo-b1x0))>x1.Lo then (w64 (x2.Lo-b1x0)) else x1.Lo),x3.Hi⟩:S_api_Span)).set y2.toNat (⟨x6.Lo,(if (w64 (x5.Hi+b1x0))<x4.Hi then (w64 (x5.Hi+b1x0)) else x4.Hi)⟩:S_api_Span)).flatMap cel66).map .d)]) tt_ok mixed (ks:=[]) (hs:=[.no,.no,.no,.no,.no,.no,.vals (([(di x4.Hi)]:List D).map .d),.no,.no,.no,.no,.vals (([(di x5.Hi)]:List D).map .d),.no,.no,.no,.no,.no,.no,.no,.cells (((a3.set y2.toNat (⟨(if (w64 (x2.Lo-b1x0))>x1.Lo then (w64 (x2.Lo-b1x0)) else x1.Lo),x3.Hi⟩:S_api_Span)).set y2.toNat (⟨x6.Lo,(if (w64 (x5.Hi+b1x0))<x4.Hi then (w64 (x5.Hi+b1x0)) else x4.Hi)⟩:S_api_Span)).flatMap cel66)]) (m:=17) (mid:=[55,56,71,72,73]) (by kernel_rfl) (And.intro (idx_bounds hx4) (And.intro (loadOk (j:=1) (es:=([(di x4.Hi)]:List D)) cel66_len hx4 rfl rfl rfl (Nat.le_of_ble_eq_true rfl)) (And.intro (idx_bounds hx5) (And.intro (loadOk (j:=1) (es:=([(di x5.Hi)]:List D)) cel66_len hx5 rfl rfl rfl (Nat.le_of_ble_eq_true rfl)) (And.intro (idx_bounds hx6) (storeOk (j:=1) (us:=([(di (if (w64 (x5.Hi+b1x0))<x4.Hi then (w64 (x5.Hi+b1x0)) else x4.Hi))]:List D)) (y:=(⟨x6.Lo,(if (w64 (x5.Hi+b1x0))<x4.Hi then (w64 (x5.Hi+b1x0)) else x4.Hi)⟩:S_api_Span)) cel66_len hx6 rfl rfl (Nat.le_of_ble_eq_true rfl))))))) ?_
 refine q_eq (T':=[]) (H':=[.loop (none) [34,35] asn64x0 bdy64x0 78 [(1,rf 1),(4,rf 2)],.cells [vi b1x0,.d (L91 b1x1)],.cells [.sl 2 3 0 ((a3.set y2.toNat (⟨(if (w64 (x2.Lo-b1x0))>x1.Lo then (w64 (x2.Lo-b1x0)) else x1.Lo),x3.Hi⟩:S_api_Span)).set y2.toNat (⟨x6.Lo,(if (w64 (x5.Hi+b1x0))<x4.Hi then (w64 (x5.Hi+b1x0)) else x4.Hi)⟩:S_api_Span)).length],.fixed (((a3.set y2.toNat (⟨(if (w64 (x2.Lo-b1x0))>x1.Lo then (w64 (x2.Lo-b1x0)) else x1.Lo),x3.Hi⟩:S_api_Span)).set y2.toNat (⟨x6.Lo,(if (w64 (x5.Hi+b1x0))<x4.Hi then (w64 (x5.Hi+b1x0)) else x4.Hi)⟩:S_api_Span)).flatMap cel66)]) rfl (by first|(simp only [List.length_set];done)|(simp only [len_copy];done)|simp only [List.length_set,len_copy]) ?_
 obtain rfl:=oi h
 repeat (first|refine blockQ_ne (by decide) ?_|refine thenQ_exit ?_|refine noGotoA_exit ?_)
 try delta blockQ
 try delta thenQ
 try delta noGotoA
 show Wk _ _ _ _ _
 refine Wk.mk 4 [] (by kernel_rfl) (T':=[]) (H':=[.loop (none) [34,35] asn64x0 bdy64x0 78 [(1,rf 1),(4,rf 2)],.cells [vi b1x0,.d (L91 b1x1)],.cells [.sl 2 3 0 ((a3.set y2.toNat (⟨(if (w64 (x2.Lo-b1x0))>x1.Lo then (w64 (x2.Lo-b1x0)) else x1.Lo),x3.Hi⟩:S_api_Span)).set y2.toNat (⟨x6.Lo,(if (w64 (x5.Hi+b1x0))<x4.Hi then (w64 (x5.Hi+b1x0)) else x4.Hi)⟩:S_api_Span)).length],.fixed (((a3.set y2.toNat (⟨(if (w64 (x2.Lo-b1x0))>x1.Lo then (w64 (x2.Lo-b1x0)) else x1.Lo),x3.Hi⟩:S_api_Span)).set y2.toNat (⟨x6.Lo,(if (w64 (x5.Hi+b1x0))<x4.Hi then (w64 (x5.Hi+b1x0)) else x4.Hi)⟩:S_api_Span)).flatMap cel66)]) (by kernel_rfl) (by kernel_rfl) ?_
 exact ⟨none,rfl,rfl,by kernel_rfl,by kernel_rfl⟩
theorem ct188 {fuel:Nat}  {b1x0:Int} {b1x1:List S_api_CvPoint} {a3:List S_api_Span} {b4x0:Int} {b4x1:List S_api_CvPoint} {res:(List S_api_Span)} (h:F188 fuel b1x0 b1x1 a3 b4x0 b4x1=some res):HCall Tryz.prog 188 [.yld 0,rf 4] [.loop (some none) [34,35] asn64x0 bdy64x0 78 [(1,rf 1),(4,rf 2)],.cells [vi b1x0,.d (L91 b1x1)],.cells [.sl 2 3 0 a3.length],.fixed (a3.flatMap cel66),.cells [vi b4x0,.d (L91 b4x1)]] (.tup []) [.loop (some none) [34,35] asn64x0 bdy64x0 78 [(1,rf 1),(4,rf 2)],.cells [vi b1x0,.d (L91 b1x1)],.cells [.sl 2 3 0 res.length],.fixed (res.flatMap cel66),.cells [vi b4x0,.d (L91 b4x1)]]:=by
 refine HCall.of_awpS tt_ok (N:=34) (fl:=5) Tryz.func188 rfl (by kernel_rfl) rfl rfl (Nat.le_of_ble_eq_true rfl) ?_
 unfold F188 at h
 refine awp_seq (EN ?_)
 refine R0 ?_
 refine cuo h (fun (ro1:(List S_api_Span))=>[]) (fun (ro1:(List S_api_Span))=>[.loop (some none) [34,35] asn64x0 bdy64x0 78 [(1,rf 1),(4,rf 2)],.cells [vi b1x0,.d (L91 b1x1)],.cells [.sl 2 3 0 ro1.length],.fixed (ro1.flatMap cel66),.cells [vi b4x0,.d (L91 b4x1)]]) (fun (so1:(List S_api_Span))=>[(0,.yld 0),(1,rf 4)]) (fun (so1:(List S_api_Span))=>[.loop (some none) [34,35] asn64x0 bdy64x0 78 [(1,rf 1),(4,rf 2)],.cells [vi b1x0,.d (L91 b1x1)],.cells [.sl 2 3 0 so1.length],.fixed (so1.flatMap cel66),.cells [vi b4x0,.d (L91 b4x1)]]) (fun o1 h=>?_) (fun ro1 h=>?_) (fun so1 h=>?_)
 ·refine awp_selQ (LP 5 [0,1,3] (F188L1 b1x0 b1x1 b4x1) o1 (fun (c2:Int×(List S_api_Span))=>pr [(0,.yld 0),(1,rf 4),(3,vi c2.1)] [.loop (some none) [34,35] asn64x0 bdy64x0 78 [(1,rf 1),(4,rf 2)],.cells [vi b1x0,.d (L91 b1x1)],.cells [.sl 2 3 0 c2.2.length],.fixed (c2.2.flatMap cel66),.cells [vi b4x0,.d (L91 b4x1)]]) fuel (1,a3) h (fun _=>rfl) ?_)
  clear h
  intro n3 c2 h hrn3
  rw [F188L1] at h
  refine awp_seq (R0 ?_)
  refine cd h (fun hb4 h=>?_) (fun hb4 h=>?_)
  ·refine awp_skip ?_
   show awp ..
   refine awp_seq (awp_block ?_)
   obtain ⟨x5,hx5,h⟩:=ob h
   refine RT (.n 4 (.yc [(0,false),(1,false),(2,false),(3,false)] (ct64r hx5) .nil)) ?_
   refine awp_cond (b:=false) (by kernel_rfl) (fun hb=>absurd hb (by decide)) (fun hb=>?_)
   refine awp_skip ?_
   show awp ..
   refine X0 ?_
   exact gn 5 [0,1,3] (hrn3 _ h)
  ·refine awp_exit ?_
   obtain rfl:=oi h
   exact gs [0,1,2,3,4] [0,1] OutQ.norm
 ·obtain rfl:=oi h
  exact (main_retS [0,1,2,3,4] (.tup []) (by kernel_rfl) (by kernel_rfl) (by kernel_rfl) (by kernel_rfl))
 ·show awp ..
  refine EN ?_
  refine R0 ?_
  refine cuo h (fun (ro6:(List S_api_Span))=>[]) (fun (ro6:(List S_api_Span))=>[.loop (some none) [34,35] asn64x0 bdy64x0 78 [(1,rf 1),(4,rf 2)],.cells [vi b1x0,.d (L91 b1x1)],.cells [.sl 2 3 0 ro6.length],.fixed (ro6.flatMap cel66),.cells [vi b4x0,.d (L91 b4x1)]]) (fun (so6:(List S_api_Span))=>[]) (fun (so6:(List S_api_Span))=>[.loop (some none) [34,35] asn64x0 bdy64x0 78 [(1,rf 1),(4,rf 2)],.cells [vi b1x0,.d (L91 b1x1)],.cells [.sl 2 3 0 so6.length],.fixed (so6.flatMap cel66),.cells [vi b4x0,.d (L91 b4x1)]]) (fun o6 h=>?_) (fun ro6 h=>?_) (fun so6 h=>?_)
  ·refine awp_selQ (LP 5 [0,4] (F188L2 b1x0 b1x1) o6 (fun (c7:Int×(List S_api_Span))=>pr [(0,.yld 0),(4,vi c7.1)] [.loop (some none) [34,35] asn64x0 bdy64x0 78 [(1,rf 1),(4,rf 2)],.cells [vi b1x0,.d (L91 b1x1)],.cells [.sl 2 3 0 c7.2.length],.fixed (c7.2.flatMap cel66),.cells [vi b4x0,.d (L91 b4x1)]]) fuel ((w64 ((b4x1.length:Int)-1)),so1) h (fun _=>rfl) ?_)
   clear h
   intro n8 c7 h hrn8
   rw [F188L2] at h
   refine awp_seq (R0 ?_)
   refine cd h (fun hb9 h=>?_) (fun hb9 h=>?_)
   ·refine awp_skip ?_
    show awp ..
    refine awp_seq (awp_block ?_)
    obtain ⟨x10,hx10,h⟩:=ob h
    refine RT (.n 4 (.yc [(0,false),(1,false),(2,false),(3,false)] (ct64r hx10) .nil)) ?_
    refine awp_cond (b:=false) (by kernel_rfl) (fun hb=>absurd hb (by decide)) (fun hb=>?_)
    refine awp_skip ?_
    show awp ..
    refine X0 ?_
    exact gn 5 [0,4] (hrn8 _ h)
   ·refine awp_exit ?_
    obtain rfl:=oi h
    exact gs [0,1,2,3,4] [] OutQ.norm
  ·obtain rfl:=oi h
   exact (main_retS [0,1,2,3,4] (.tup []) (by kernel_rfl) (by kernel_rfl) (by kernel_rfl) (by kernel_rfl))
  ·obtain rfl:=oi h
   exact (main_retN [0,1,2,3,4] (.tup []) (by kernel_rfl) (by kernel_rfl) (by kernel_rfl) (by kernel_rfl))
theorem ct135  {p_s:S_api_Span} {res:Bool} (h:F135 p_s=some res):PCall Tryz.prog 135 [(.agg [(di p_s.Lo),(di p_s.Hi)])] (vb res):=by
 refine PCall.of_awp tt_ok (N:=8) Tryz.func135 rfl (by kernel_rfl) rfl (Nat.le_of_ble_eq_true rfl) rfl ?_
 unfold F135 at h
 refine EN ?_
 refine R0 ?_
 refine R0 ?_
 obtain rfl:=oi h
 exact awp_ret gm
theorem ct189 {fuel:Nat}  {a0:List S_api_Span} {res:Int} (h:F189 fuel a0=some res):HCall Tryz.prog 189 [.sl 2 0 0 a0.length,.fn (.func 135) [] []] [.fixed (a0.flatMap cel66)] (vi res) [.fixed (a0.flatMap cel66)]:=by
 refine HCall.of_awpS tt_ok (N:=19) (fl:=1) Tryz.func189 rfl (by kernel_rfl) rfl rfl (Nat.le_of_ble_eq_true rfl) ?_
 unfold F189 at h
 refine EN ?_
 refine R0 ?_
 refine awp_seq (R0 ?_)
 refine cuo h (fun (ro1:Int)=>[(4,vi ro1)]) (fun (ro1:Int)=>[.fixed (a0.flatMap cel66)]) (fun (so1:Unit)=>[]) (fun (so1:Unit)=>[.fixed (a0.flatMap cel66)]) (fun o1 h=>?_) (fun ro1 h=>?_) (fun so1 h=>?_)
 ·refine awp_selQ (LP 1 [0,1,7,8] (F189L1 a0) o1 (fun (c2:Int)=>pr [(0,.sl 2 0 0 a0.length),(1,.fn (.func 135) [] []),(7,vl a0),(8,vi c2)] [.fixed (a0.flatMap cel66)]) fuel 0 h (fun _=>rfl) ?_)
  clear h
  intro n3 c2 h hrn3
  rw [F189L1] at h
  refine R0 ?_
  refine awp_seq (cd h (fun hb4 h=>?_) (fun hb4 h=>?_))
  ·refine awp_skip ?_
   show awp ..
   refine awp_seq (awp_block ?_)
   refine R0 ?_
   obtain ⟨x5,hx5,h⟩:=ob h
   obtain ⟨x6,hx6,h⟩:=ob h
   refine RT (.n 3 (.p (show (0≤c2∧c2<(a0.length:Int)) from idx_bounds hx5) (.n 1 (.p (show LoadOk ((a0.flatMap cel66).map .d) (0+c2.toNat*2) 2 (([(di x5.Lo),(di x5.Hi)]:List D).map .d) from loadOk (j:=0) (es:=([(di x5.Lo),(di x5.Hi)]:List D)) cel66_len hx5 rfl rfl rfl (Nat.le_of_ble_eq_true rfl)) (.h (.vals (([(di x5.Lo),(di x5.Hi)]:List D).map .d)) (.pc (ct135 hx6) .nil)))))) ?_
   refine cd h (fun hb7 h=>?_) (fun hb7 h=>?_)
   ·refine R0 ?_
    obtain rfl:=oi h
    exact awp_ret (gs [0] [4] OutQ.ret)
   ·refine awp_skip ?_
    show awp ..
    refine X0 ?_
    exact gn 1 [0,1,7,8] (hrn3 _ h)
  ·refine awp_exit ?_
   obtain rfl:=oi h
   exact gs [0] [] OutQ.norm
 ·obtain rfl:=oi h
  exact (main_retS [0] (vi ro1) (by kernel_rfl) (by kernel_rfl) (by kernel_rfl) (by kernel_rfl))
 ·show awp ..
  refine EN ?_
  refine R0 ?_
  obtain rfl:=oi h
  exact awp_ret (main_retS [0] (vi (-1)) (by kernel_rfl) (by kernel_rfl) (by kernel_rfl) (by kernel_rfl))
theorem ct134 {fuel:Nat}  {a0:List S_api_Span} {res:Bool} (h:F134 fuel a0=some res):HCall Tryz.prog 134 [.sl 2 0 0 a0.length,.fn (.func 135) [] []] [.fixed (a0.flatMap cel66)] (vb res) [.fixed (a0.flatMap cel66)]:=by
 refine HCall.of_awpS tt_ok (N:=9) (fl:=1) Tryz.func134 rfl (by kernel_rfl) rfl rfl (Nat.le_of_ble_eq_true rfl) ?_
 unfold F134 at h
 refine EN ?_
 refine R0 ?_
 obtain ⟨x1,hx1,h⟩:=ob h
 refine RT (.n 2 (.hc [(0,false)] (ct189 hx1) .nil)) ?_
 obtain rfl:=oi h
 exact awp_ret (main_retS [0] (vb (decide (x1≥0))) (by kernel_rfl) (by kernel_rfl) (by kernel_rfl) (by kernel_rfl))
theorem ct64 {fuel:Nat}  {p_x:S_carve_row} {res:(List S_api_Span)×Bool} (h:F64 fuel p_x=some res):PCall Tryz.prog 64 [(.agg [(di p_x.CvRow.Steep),(L91 p_x.CvRow.Points)])] (.tup [.d (L66 res.1),vb res.2]):=by
 refine PCall.of_awp tt_ok (N:=78) Tryz.func64 rfl (by kernel_rfl) rfl (Nat.le_of_ble_eq_true rfl) rfl ?_
 unfold F64 at h
 refine EN ?_
 refine R0 ?_
 obtain ⟨x1,hx1,h⟩:=ob h
 refine RT (.n 4 (.p (show MakeOk (p_x.CvRow.Points.length:Int) (p_x.CvRow.Points.length:Int) (List.replicate (p_x.CvRow.Points.length:Int).toNat ((⟨0,0⟩:S_api_Span):S_api_Span)).length 16 [.int .i64 0,.int .i64 0] ((List.replicate (p_x.CvRow.Points.length:Int).toNat ((⟨0,0⟩:S_api_Span):S_api_Span)).flatMap cel66) from makeOk rfl (need_of hx1)) (.h (.list (List.replicate (p_x.CvRow.Points.length:Int).toNat ((⟨0,0⟩:S_api_Span):S_api_Span)).length ((List.replicate (p_x.CvRow.Points.length:Int).toNat ((⟨0,0⟩:S_api_Span):S_api_Span)).flatMap cel66)) .nil))) ?_
 refine awp_seq (R0 ?_)
 refine cuo h (fun (ro2:(List S_api_Span)×Bool)=>[(2,.d (L66 ro2.1)),(3,vb ro2.2)]) (fun (ro2:(List S_api_Span)×Bool)=>[]) (fun (so2:(List S_api_Span))=>[(1,rf 0),(4,rf 2)]) (fun (so2:(List S_api_Span))=>[.cells [vi p_x.CvRow.Steep,.d (L91 p_x.CvRow.Points)],.data (so2.flatMap cel66),.cells [.sl 2 1 0 so2.length]]) (fun o2 h=>?_) (fun ro2 h=>?_) (fun so2 h=>?_)
 ·refine awp_selQ (LP 3 [1,4,16,17,18] (F64L1 p_x) o2 (fun (c3:Int×(List S_api_Span))=>pr [(1,rf 0),(4,rf 2),(16,.d (L91 p_x.CvRow.Points)),(17,vl p_x.CvRow.Points),(18,vi c3.1)] [.cells [vi p_x.CvRow.Steep,.d (L91 p_x.CvRow.Points)],.data (c3.2.flatMap cel66),.cells [.sl 2 1 0 c3.2.length]]) fuel (0,(List.replicate (p_x.CvRow.Points.length:Int).toNat ((⟨0,0⟩:S_api_Span):S_api_Span))) h (fun _=>rfl) ?_)
  clear h
  intro n4 c3 h hrn4
  rw [F64L1] at h
  refine R0 ?_
  refine awp_seq (cd h (fun hb5 h=>?_) (fun hb5 h=>?_))
  ·refine awp_skip ?_
   show awp ..
   refine awp_seq (awp_block ?_)
   obtain ⟨x6,hx6,h⟩:=ob h
   refine RT (.n 1 (.ix (idxOk cel91_len hx6) .nil)) ?_
   obtain ⟨x7,hx7,h⟩:=ob h
   refine XB [.no,.no,.no,.no,.no,.no,.no,.no,.cells ((c3.2.set c3.1.toNat (⟨x6.Lo,x6.Hi⟩:S_api_Span)).flatMap cel66)] [(1,rf 0),(4,rf 2),(16,.d (L91 p_x.CvRow.Points)),(17,vl p_x.CvRow.Points),(18,vi c3.1)] [.cells [vi p_x.CvRow.Steep,.d (L91 p_x.CvRow.Points)],.data ((c3.2.set c3.1.toNat (⟨x6.Lo,x6.Hi⟩:S_api_Span)).flatMap cel66),.cells [.sl 2 1 0 c3.2.length],.cells [vi x6.Board,vi x6.Lo,vi x6.Hi]] [(0≤c3.1∧c3.1<(c3.2.length:Int)),StoreOk ((c3.2.flatMap cel66).map .d) (0+c3.1.toNat*2) (([(di x6.Lo),(di x6.Hi)]:List D).map .d) (((c3.2.set c3.1.toNat (⟨x6.Lo,x6.Hi⟩:S_api_Span)).flatMap cel66).map .d)] (And.intro (idx_bounds hx7) (storeOk (j:=0) (us:=([(di x6.Lo),(di x6.Hi)]:List D)) (y:=(⟨x6.Lo,x6.Hi⟩:S_api_Span)) cel66_len hx7 rfl rfl (Nat.le_of_ble_eq_true rfl))) ?_
   refine q_eq (T':=[(1,rf 0),(4,rf 2),(16,.d (L91 p_x.CvRow.Points)),(17,vl p_x.CvRow.Points),(18,vi c3.1)]) (H':=[.cells [vi p_x.CvRow.Steep,.d (L91 p_x.CvRow.Points)],.data ((c3.2.set c3.1.toNat (⟨x6.Lo,x6.Hi⟩:S_api_Span)).flatMap cel66),.cells [.sl 2 1 0 (c3.2.set c3.1.toNat (⟨x6.Lo,x6.Hi⟩:S_api_Span)).length],.cells [vi x6.Board,vi x6.Lo,vi x6.Hi]]) rfl (by first|(simp only [List.length_set];done)|(simp only [len_copy];done)|simp only [List.length_set,len_copy]) ?_
   show awp ..
   refine EN ?_
   refine X0 ?_
   exact gn 3 [1,4,16,17,18] (hrn4 _ h)
  ·refine awp_exit ?_
   obtain rfl:=oi h
   exact gs [0,1,2] [1,4] OutQ.norm
 ·obtain rfl:=oi h
  exact gm
 ·show awp ..
  refine awp_seq ?_
  obtain ⟨x8,hx8,h⟩:=ob h
  refine EN ?_
  refine RT (.n 1 (.hc [] (ct133v1 hx8) .nil)) ?_
  refine awp_block (WA 4 [(1,rf 0),(4,rf 2),(33,.fn (.func 188) [] [rf 3])] [.cells [vi p_x.CvRow.Steep,.d (L91 p_x.CvRow.Points)],.data (so2.flatMap cel66),.cells [.sl 2 1 0 so2.length],.cells [vi x8.1,.d (L91 x8.2)]] ?_)
  obtain ⟨x9,hx9,h⟩:=ob h
  refine awp_range (ks:=[1,4]) (ids:=[(4,false),(0,false),(2,false),(1,true),(3,false)]) (r := .tup []) (Hc:=[.loop (some none) [34,35] asn64x0 bdy64x0 78 [(1,rf 1),(4,rf 2)],.cells [vi p_x.CvRow.Steep,.d (L91 p_x.CvRow.Points)],.cells [.sl 2 3 0 x9.length],.fixed (x9.flatMap cel66),.cells [vi x8.1,.d (L91 x8.2)]]) none [(1,rf 0),(4,rf 2),(33,.fn (.func 188) [] [rf 3])] [.cells [vi p_x.CvRow.Steep,.d (L91 p_x.CvRow.Points)],.data (x9.flatMap cel66),.cells [.sl 2 1 0 x9.length],.cells [vi x8.1,.d (L91 x8.2)],.data []] [HCall Tryz.prog 188 [.yld 0,rf 4] [.loop (some none) [34,35] asn64x0 bdy64x0 78 [(1,rf 1),(4,rf 2)],.cells [vi p_x.CvRow.Steep,.d (L91 p_x.CvRow.Points)],.cells [.sl 2 3 0 so2.length],.fixed (so2.flatMap cel66),.cells [vi x8.1,.d (L91 x8.2)]] (.tup []) [.loop (some none) [34,35] asn64x0 bdy64x0 78 [(1,rf 1),(4,rf 2)],.cells [vi p_x.CvRow.Steep,.d (L91 p_x.CvRow.Points)],.cells [.sl 2 3 0 x9.length],.fixed (x9.flatMap cel66),.cells [vi x8.1,.d (L91 x8.2)]]] rfl (by kernel_rfl) (ct188 hx9) (fun _=>?_) (fun c hc=>absurd hc (by simp))
  show awp ..
  obtain ⟨x10,hx10,h⟩:=ob h
  refine EN ?_
  refine DT 5 (.n 2 (.p (show (([(1,.data (x9.flatMap cel66))]:List (Nat×O))=[(1,.data (x9.flatMap cel66))]) from rfl) (.p (show HCall Tryz.prog 134 [.sl 2 0 0 x9.length,.fn (.func 135) [] []] [.fixed (x9.flatMap cel66)] (vb x10) [.fixed (x9.flatMap cel66)] from ct134 hx10) (.h (.rcall [(1,true)] (vb x10)) .nil)))) ?_
  obtain rfl:=oi h
  refine WA 5 [(2,.sl 2 1 0 x9.length),(3,vb (!x10))] [.cells [vi p_x.CvRow.Steep,.d (L91 p_x.CvRow.Points)],.data (x9.flatMap cel66),.cells [.sl 2 1 0 x9.length],.cells [vi x8.1,.d (L91 x8.2)],.data []] ?_
  refine awp_freeze 2 1 (x9.flatMap cel66) (.sl 2 1 0 x9.length) (.d (L66 x9)) _ _ (ps:=[(x9.flatMap cel66).length=x9.length*2]) (by kernel_rfl) (by kernel_rfl) (by kernel_rfl) (flatMap_len cel66 2 cel66_len x9) rfl rfl ?_
  refine WA 5 [(2,.d (L66 x9)),(3,vb (!x10))] [.cells [vi p_x.CvRow.Steep,.d (L91 p_x.CvRow.Points)],.data (([]:List S_api_Span).flatMap cel66),.cells [.top],.cells [vi x8.1,.d (L91 x8.2)],.data []] ?_
  exact awp_ret gm
theorem ct11 {fuel:Nat}  {p_r:S_api_CvRow} {res:(List S_api_Span)×Int} (h:F11 fuel p_r=some res):PCall Tryz.prog 11 [(.agg [(di p_r.Steep),(L91 p_r.Points)])] (.tup [.d (L66 res.1),vi res.2]):=by
 refine PCall.of_awp tt_ok (N:=27) Tryz.func11 rfl (by kernel_rfl) rfl (Nat.le_of_ble_eq_true rfl) rfl ?_
 unfold F11 at h
 refine EN ?_
 refine R0 ?_
 refine awp_seq ?_
 obtain ⟨x1,hx1,h⟩:=ob h
 refine RT (.n 1 (.pc (ct63 hx1) .nil)) ?_
 refine R0 ?_
 refine cd h (fun hb2 h=>?_) (fun hb2 h=>?_)
 ·refine R0 ?_
  obtain rfl:=oi h
  refine WA 1 [(2,.d dnil),(3,vi x1.2.2)] [.cells [vi p_r.Steep,.d (L91 p_r.Points)]] ?_
  refine awp_laxT 2 _ (L66 ([]:List S_api_Span)) _ (by kernel_rfl) (.nil (e:=2)) rfl ?_
  refine WA 1 [(2,.d (L66 ([]:List S_api_Span))),(3,vi x1.2.2)] [.cells [vi p_r.Steep,.d (L91 p_r.Points)]] ?_
  exact awp_ret gm
 ·refine awp_skip ?_
  show awp ..
  obtain ⟨x3,hx3,h⟩:=ob h
  refine RT (.n 2 (.pc (ct64 hx3) .nil)) ?_
  refine awp_seq (R0 ?_)
  refine cd h (fun hb4 h=>?_) (fun hb4 h=>?_)
  ·refine R0 ?_
   obtain rfl:=oi h
   refine WA 1 [(2,.d dnil),(3,vi 9)] [.cells [vi p_r.Steep,.d (L91 p_r.Points)]] ?_
   refine awp_laxT 2 _ (L66 ([]:List S_api_Span)) _ (by kernel_rfl) (.nil (e:=2)) rfl ?_
   refine WA 1 [(2,.d (L66 ([]:List S_api_Span))),(3,vi 9)] [.cells [vi p_r.Steep,.d (L91 p_r.Points)]] ?_
   exact awp_ret gm
  ·refine awp_skip ?_
   show awp ..
   refine R0 ?_
   obtain rfl:=oi h
   exact awp_ret gm
theorem ct68 {fuel:Nat}  {p_x:S_carve_row} {res:Bool} (h:F68 fuel p_x=some res):PCall Tryz.prog 68 [(.agg [(di p_x.CvRow.Steep),(L91 p_x.CvRow.Points)])] (vb res):=by
 refine PCall.of_awp tt_ok (N:=11) Tryz.func68 rfl (by kernel_rfl) rfl (Nat.le_of_ble_eq_true rfl) rfl ?_
 unfold F68 at h
 refine EN ?_
 refine R0 ?_
 obtain ⟨x1,hx1,h⟩:=ob h
 refine RT (.n 1 (.pc (ct64 hx1) .nil)) ?_
 refine R0 ?_
 obtain rfl:=oi h
 exact awp_ret gm
theorem ct67 {fuel:Nat}  {steep:Int} {b0x0:Int} {b0x1:List S_api_CvPoint} {res:Bool} (h:F67 fuel steep b0x0 b0x1=some res):HCall Tryz.prog 67 [vi steep,rf 0] [.cells [vi b0x0,.d (L91 b0x1)]] (vb res) [.cells [vi b0x0,.d (L91 b0x1)]]:=by
 refine HCall.of_awpS tt_ok (N:=12) (fl:=1) Tryz.func67 rfl (by kernel_rfl) rfl rfl (Nat.le_of_ble_eq_true rfl) ?_
 unfold F67 at h
 refine EN ?_
 refine R0 ?_
 refine R0 ?_
 refine R0 ?_
 obtain ⟨x1,hx1,h⟩:=ob h
 refine RT (.n 1 (.pc (ct68 hx1) .nil)) ?_
 obtain rfl:=oi h
 exact awp_ret (main_retS [0] (vb x1) (by kernel_rfl) (by kernel_rfl) (by kernel_rfl) (by kernel_rfl))
theorem ct66 {fuel:Nat}  {last:Int} {b0x0:Int} {b0x1:List S_api_CvPoint} {res:Int} (h:F66 fuel last b0x0 b0x1=some res):HCall Tryz.prog 66 [vi last,.fn (.func 67) [] [rf 0]] [.cells [vi b0x0,.d (L91 b0x1)]] (vi res) [.cells [vi b0x0,.d (L91 b0x1)]]:=by
 refine HCall.of_awpS tt_ok (N:=24) (fl:=1) Tryz.func66 rfl (by kernel_rfl) rfl rfl (Nat.le_of_ble_eq_true rfl) ?_
 unfold F66 at h
 refine EN ?_
 refine R0 ?_
 refine R0 ?_
 refine awp_seq ?_
 refine cuo h (fun (ro1:Int)=>[(4,vi ro1)]) (fun (ro1:Int)=>[.cells [vi b0x0,.d (L91 b0x1)]]) (fun (so1:Int)=>[(5,vi so1)]) (fun (so1:Int)=>[.cells [vi b0x0,.d (L91 b0x1)]]) (fun o1 h=>?_) (fun ro1 h=>?_) (fun so1 h=>?_)
 ·refine awp_selQ (LP 1 [1,5,6] (F66L1 fuel b0x0 b0x1) o1 (fun (c2:Int×Int)=>pr [(1,.fn (.func 67) [] [rf 0]),(5,vi c2.1),(6,vi c2.2)] [.cells [vi b0x0,.d (L91 b0x1)]]) fuel (0,last) h (fun _=>rfl) ?_)
  clear h
  intro n3 c2 h hrn3
  rw [F66L1] at h
  refine awp_seq (R0 ?_)
  refine cd h (fun hb4 h=>?_) (fun hb4 h=>?_)
  ·refine awp_skip ?_
   show awp ..
   refine awp_block (RT (.n 3 (.p (by decide:(2:Int)≠0) (.n 1 .nil))) ?_)
   obtain ⟨x5,hx5,h⟩:=ob h
   refine RT (.n 2 (.hc [(0,false)] (ct67 hx5) .nil)) ?_
   refine cd h (fun hb6 h=>?_) (fun hb6 h=>?_)
   ·refine X0 ?_
    exact gn 1 [1,5,6] (hrn3 _ h)
   ·refine X0 ?_
    exact gn 1 [1,5,6] (hrn3 _ h)
  ·refine awp_exit ?_
   obtain rfl:=oi h
   exact gs [0] [5] OutQ.norm
 ·obtain rfl:=oi h
  exact (main_retS [0] (vi ro1) (by kernel_rfl) (by kernel_rfl) (by kernel_rfl) (by kernel_rfl))
 ·show awp ..
  refine EN ?_
  refine R0 ?_
  obtain rfl:=oi h
  exact awp_ret (main_retS [0] (vi so1) (by kernel_rfl) (by kernel_rfl) (by kernel_rfl) (by kernel_rfl))
theorem ct13 {fuel:Nat}  {p_r:S_api_CvRow} {res:Int×Int} (h:F13 fuel p_r=some res):PCall Tryz.prog 13 [(.agg [(di p_r.Steep),(L91 p_r.Points)])] (.tup [vi res.1,vi res.2]):=by
 refine PCall.of_awp tt_ok (N:=18) Tryz.func13 rfl (by kernel_rfl) rfl (Nat.le_of_ble_eq_true rfl) rfl ?_
 unfold F13 at h
 refine EN ?_
 refine R0 ?_
 refine awp_seq ?_
 obtain ⟨x1,hx1,h⟩:=ob h
 refine RT (.n 1 (.pc (ct63 hx1) .nil)) ?_
 refine R0 ?_
 refine cd h (fun hb2 h=>?_) (fun hb2 h=>?_)
 ·refine R0 ?_
  obtain rfl:=oi h
  exact awp_ret gm
 ·refine awp_skip ?_
  show awp ..
  obtain ⟨x3,hx3,h⟩:=ob h
  refine RT (.n 1 (.hc [(0,false)] (ct66 hx3) .nil)) ?_
  obtain rfl:=oi h
  exact awp_ret gm
end Go.Proofs.YtkcgfceihpampaaGreatDoor
