/- That functions of the seat compute this. Printed by a program of mine. -/
import Derived.Test.YtkcgfceihpampaaGreatDoorS
import Derived.Test.YtkcgfceihpampaaGreatDoorCK
import Derived.Test.YtkcgfceihpampaaGreatDoorCL
import Derived.Test.YtkcgfceihpampaaGreatDoorCU
import Derived.Test.YtkcgfceihpampaaGreatDoorDV
namespace Go.Proofs.YtkcgfceihpampaaGreatDoor
open Go Go.Sx
set_option maxRecDepth 100000
set_option linter.unusedVariables false
theorem ct51  {steep:Int} {res:S_api_CvRow} (h:F51 steep=some res):PCall Tryz.prog 51 [(di steep)] (.d (.agg [(di res.Steep),(L91 res.Points)])):=by
 refine PCall.of_awp tt_ok (N:=10) Tryz.func51 rfl (by kernel_rfl) rfl (Nat.le_of_ble_eq_true rfl) rfl ?_
 unfold F51 at h
 refine EN ?_
 refine R0 ?_
 refine R0 ?_
 obtain rfl:=oi h
 exact awp_ret gm
theorem ct124 {fuel:Nat}  {p_r:S_api_CvRow} {surface:(List Int)} {res:S_carve_row×Int} (h:F124 fuel p_r surface=some res):PCall Tryz.prog 124 [(.agg [(di p_r.Steep),(L91 p_r.Points)]),(L3 surface)] (.tup [.d (.agg [(di res.1.CvRow.Steep),(L91 res.1.CvRow.Points)]),vi res.2]):=by
 refine PCall.of_awp tt_ok (N:=30) Tryz.func124 rfl (by kernel_rfl) rfl (Nat.le_of_ble_eq_true rfl) rfl ?_
 unfold F124 at h
 refine EN ?_
 refine R0 ?_
 refine awp_seq ?_
 obtain ⟨x1,hx1,h⟩:=ob h
 refine RT (.n 1 (.pc (ct63 hx1) .nil)) ?_
 refine R0 ?_
 refine cd h (fun hb2 h=>?_) (fun hb2 h=>?_)
 ·refine R0 ?_
  obtain rfl:=oi h
  refine WA 2 [(4,rf 1),(5,vi x1.2.2)] [.cells [vi p_r.Steep,.d (L91 p_r.Points)],.cells [vi 0,.d dnil]] ?_
  refine awp_laxC 1 1 _ (L91 ([]:List S_api_CvPoint)) [vi 0,.d dnil] _ (by kernel_rfl) (by kernel_rfl) (.nil (e:=3)) rfl ?_
  refine WA 2 [(4,rf 1),(5,vi x1.2.2)] [.cells [vi p_r.Steep,.d (L91 p_r.Points)],.cells [vi 0,.d (L91 ([]:List S_api_CvPoint))]] ?_
  exact awp_ret gm
 ·refine awp_skip ?_
  show awp ..
  refine awp_seq (awp_block ?_)
  refine R0 ?_
  refine cd h (fun hb3 h=>?_) (fun hb3 h=>?_)
  ·refine R0 ?_
   obtain rfl:=oi h
   refine WA 2 [(4,rf 1),(5,vi 3)] [.cells [vi p_r.Steep,.d (L91 p_r.Points)],.cells [vi 0,.d dnil]] ?_
   refine awp_laxC 1 1 _ (L91 ([]:List S_api_CvPoint)) [vi 0,.d dnil] _ (by kernel_rfl) (by kernel_rfl) (.nil (e:=3)) rfl ?_
   refine WA 2 [(4,rf 1),(5,vi 3)] [.cells [vi p_r.Steep,.d (L91 p_r.Points)],.cells [vi 0,.d (L91 ([]:List S_api_CvPoint))]] ?_
   exact awp_ret gm
  ·obtain ⟨x4,hx4,h⟩:=ob h
   refine RT (.n 1 (.pc (ct125 hx4) .nil)) ?_
   refine cd h (fun hb5 h=>?_) (fun hb5 h=>?_)
   ·refine R0 ?_
    obtain rfl:=oi h
    refine WA 2 [(4,rf 1),(5,vi 7)] [.cells [vi p_r.Steep,.d (L91 p_r.Points)],.cells [vi 0,.d dnil]] ?_
    refine awp_laxC 1 1 _ (L91 ([]:List S_api_CvPoint)) [vi 0,.d dnil] _ (by kernel_rfl) (by kernel_rfl) (.nil (e:=3)) rfl ?_
    refine WA 2 [(4,rf 1),(5,vi 7)] [.cells [vi p_r.Steep,.d (L91 p_r.Points)],.cells [vi 0,.d (L91 ([]:List S_api_CvPoint))]] ?_
    exact awp_ret gm
   ·refine awp_skip ?_
    show awp ..
    refine R0 ?_
    obtain rfl:=oi h
    exact awp_ret gm
theorem ct52 {fuel:Nat}  {p_r:S_api_CvRow} {surface:(List Int)} {res:Int×Int×Int} (h:F52 fuel p_r surface=some res):PCall Tryz.prog 52 [(.agg [(di p_r.Steep),(L91 p_r.Points)]),(L3 surface)] (.tup [vi res.1,vi res.2.1,vi res.2.2]):=by
 refine PCall.of_awp tt_ok (N:=67) Tryz.func52 rfl (by kernel_rfl) rfl (Nat.le_of_ble_eq_true rfl) rfl ?_
 unfold F52 at h
 refine EN ?_
 refine R0 ?_
 obtain ⟨x1,hx1,h⟩:=ob h
 refine RT (.n 2 (.pc (ct124 hx1) .nil)) ?_
 refine awp_seq (R0 ?_)
 refine cd h (fun hb2 h=>?_) (fun hb2 h=>?_)
 ·refine R0 ?_
  obtain rfl:=oi h
  exact awp_ret gm
 ·refine awp_skip ?_
  show awp ..
  refine awp_seq (R0 ?_)
  refine cuo h (fun (ro3:Int×Int×Int)=>[(4,vi ro3.1),(5,vi ro3.2.1),(6,vi ro3.2.2)]) (fun (ro3:Int×Int×Int)=>[]) (fun (so3:Unit)=>[]) (fun (so3:Unit)=>[.cells [vi p_r.Steep,.d (L91 p_r.Points)],.cells [vi x1.1.CvRow.Steep,.d (L91 x1.1.CvRow.Points)]]) (fun o3 h=>?_) (fun ro3 h=>?_) (fun so3 h=>?_)
  ·refine awp_selQ (LP 2 [1,2,22,23,24] (F52L1 fuel p_r surface x1) o3 (fun (c4:Int)=>pr [(1,.d (L3 surface)),(2,rf 0),(22,.d (L91 x1.1.CvRow.Points)),(23,vl x1.1.CvRow.Points),(24,vi c4)] [.cells [vi p_r.Steep,.d (L91 p_r.Points)],.cells [vi x1.1.CvRow.Steep,.d (L91 x1.1.CvRow.Points)]]) fuel 0 h (fun _=>rfl) ?_)
   clear h
   intro n5 c4 h hrn5
   rw [F52L1] at h
   refine R0 ?_
   refine awp_seq (cd h (fun hb6 h=>?_) (fun hb6 h=>?_))
   ·refine awp_skip ?_
    show awp ..
    refine awp_seq (awp_block ?_)
    obtain ⟨x7,hx7,h⟩:=ob h
    refine RT (.n 1 (.ix (idxOk cel91_len hx7) .nil)) ?_
    obtain ⟨x8,hx8,h⟩:=ob h
    refine RT (.n 2 (.ix (idxOk cel3_len hx8) .nil)) ?_
    refine awp_block (R0 ?_)
    refine cd h (fun hb9 h=>?_) (fun hb9 h=>?_)
    ·refine R0 ?_
     obtain rfl:=oi h
     exact awp_ret (gs [] [4,5,6] OutQ.ret)
    ·refine R0 ?_
     refine cd h (fun hb10 h=>?_) (fun hb10 h=>?_)
     ·refine R0 ?_
      obtain rfl:=oi h
      exact awp_ret (gs [] [4,5,6] OutQ.ret)
     ·obtain ⟨x11,hx11,h⟩:=ob h
      obtain ⟨x12,hx12,h⟩:=ob h
      refine DT 17 (.n 5 (.p (show ((decide (c4>0))=true→(decide (c4>0))=true) from id) (.n 1 (.p (show ((decide (c4>0))=true→(decide (c4>0))=true) from id) (.p (show ((decide (c4>0))=true→(decide (c4>0))=true) from id) (.n 1 (.n 2 (.p (show ((decide (c4>0))=true→(decide (c4>0))=true) from id) (.n 1 (.p (show ((decide (c4>0))=true→(decide (c4>0))=true) from id) (.p (show ((decide (c4>0))=true→(decide (c4>0))=true) from id) (.n 1 (.n 2 (.p (show ((decide (c4>0))=true→(decide (c4>0))=true) from id) (.n 1 (.p (show ((decide (c4>0))=true→(decide (c4>0))=true) from id) (.p (show ((decide (c4>0))=true→(decide (c4>0))=true) from id) (.p (show ((decide (c4>0))=true→IX3 surface (w64 (c4-1)) x11) from (fun hg=>idxOk cel3_len (optG_of hx11 hg))) (.h (.cells (cel3 x11)) (.p (show ((decide (c4>0))=true→(decide (c4>0))=true) from id) (.n 1 (.p (show ((decide (c4>0))=true→(decide (c4>0))=true) from id) (.n 1 (.p (show ((decide (c4>0))=true→(decide (c4>0))=true) from id) (.p (show ((decide (c4>0))=true→(decide (c4>0))=true) from id) (.p (show ((decide (c4>0))=true→(decide (c4>0))=true) from id) (.p (show ((decide (c4>0))=true→PCall Tryz.prog 125 [(di (w64 (x8-p_r.Steep))),(di (w64 (x8+p_r.Steep))),(L3 ([x11]:List Int))] (vb x12)) from (fun hg=>ct125 (optG_of hx12 hg))) (.h (.call [(di (w64 (x8-p_r.Steep))),(di (w64 (x8+p_r.Steep))),(L3 ([x11]:List Int))] (vb x12)) (.p (show ((decide (c4>0))=true→(decide (c4>0))=true) from id) (.n 1 .nil)))))))))))))))))))))))))))))) ?_
      refine cd h (fun hb13 h=>?_) (fun hb13 h=>?_)
      ·refine R0 ?_
       obtain rfl:=oi h
       exact awp_ret (gs [] [4,5,6] OutQ.ret)
      ·refine awp_skip ?_
       show awp ..
       refine X0 ?_
       exact gn 2 [1,2,22,23,24] (hrn5 _ h)
   ·refine awp_exit ?_
    obtain rfl:=oi h
    exact gs [0,1] [] OutQ.norm
  ·obtain rfl:=oi h
   exact gm
  ·show awp ..
   refine EN ?_
   refine R0 ?_
   obtain rfl:=oi h
   exact awp_ret gm
theorem ct53 {fuel:Nat}  {p_r:S_api_CvRow} {res:Int×Int×Int} (h:F53 fuel p_r=some res):PCall Tryz.prog 53 [(.agg [(di p_r.Steep),(L91 p_r.Points)])] (.tup [vi res.1,vi res.2.1,vi res.2.2]):=by
 refine PCall.of_awp tt_ok (N:=49) Tryz.func53 rfl (by kernel_rfl) rfl (Nat.le_of_ble_eq_true rfl) rfl ?_
 unfold F53 at h
 refine EN ?_
 refine R0 ?_
 refine awp_seq ?_
 obtain ⟨x1,hx1,h⟩:=ob h
 refine RT (.n 1 (.pc (ct63 hx1) .nil)) ?_
 refine R0 ?_
 refine cd h (fun hb2 h=>?_) (fun hb2 h=>?_)
 ·refine R0 ?_
  obtain rfl:=oi h
  exact awp_ret gm
 ·refine awp_skip ?_
  show awp ..
  refine awp_seq (R0 ?_)
  refine cuo h (fun (ro3:Int×Int×Int)=>[(2,vi ro3.1),(3,vi ro3.2.1),(4,vi ro3.2.2)]) (fun (ro3:Int×Int×Int)=>[]) (fun (so3:Unit)=>[]) (fun (so3:Unit)=>[.cells [vi p_r.Steep,.d (L91 p_r.Points)]]) (fun o3 h=>?_) (fun ro3 h=>?_) (fun so3 h=>?_)
  ·refine awp_selQ (LP 1 [1,17,18] (F53L1 fuel p_r) o3 (fun (c4:Int)=>pr [(1,rf 0),(17,vl p_r.Points),(18,vi c4)] [.cells [vi p_r.Steep,.d (L91 p_r.Points)]]) fuel 0 h (fun _=>rfl) ?_)
   clear h
   intro n5 c4 h hrn5
   rw [F53L1] at h
   refine R0 ?_
   refine awp_seq (cd h (fun hb6 h=>?_) (fun hb6 h=>?_))
   ·refine awp_skip ?_
    show awp ..
    refine awp_seq (awp_block ?_)
    refine R0 ?_
    refine R0 ?_
    refine awp_seq ?_
    obtain ⟨x7,hx7,h⟩:=ob h
    refine RT (.n 4 (.p (show SliceOk (p_r.Points.flatMap cel91) 3 p_r.Points.length 0 (w64 (c4+1)) x7.length (x7.flatMap cel91) from sliceOk cel91_len hx7) (.h (.list x7.length (x7.flatMap cel91)) .nil))) ?_
    obtain ⟨x8,hx8,h⟩:=ob h
    refine RT (.n 1 (.pc (ct68 hx8) .nil)) ?_
    refine cd h (fun hb9 h=>?_) (fun hb9 h=>?_)
    ·refine awp_exit ?_
     show awp ..
     refine X0 ?_
     exact gn 1 [1,17,18] (hrn5 _ h)
    ·refine awp_skip ?_
     show awp ..
     refine R0 ?_
     obtain ⟨o10,ho10,h⟩:=ob h
     refine awp_cut1 (OutQ (fun (ro10:Int×Int×Int)=>[(2,vi ro10.1),(3,vi ro10.2.1),(4,vi ro10.2.2)]) (fun (ro10:Int×Int×Int)=>[]) (fun (_:Unit)=>[]) (fun (_:Unit)=>[]) o10) ?_ ?_
     ·clear h
      have h:=ho10
      clear ho10
      refine awp_selQ (LP 2 [1,2,3,5] (F53L2 fuel p_r c4) o10 (fun (c11:Int×(List S_api_CvPoint))=>pr [(1,rf 0),(2,vi c11.1),(3,vi c4),(5,rf 1)] [.cells [vi p_r.Steep,.d (L91 p_r.Points)],.cells [vi p_r.Steep,.d (L91 c11.2)]]) fuel (c4,x7) h (fun _=>rfl) ?_)
      clear h
      intro n12 c11 h hrn12
      rw [F53L2] at h
      refine awp_seq (awp_block ?_)
      obtain ⟨x13,hx13,h⟩:=ob h
      refine RT (.n 5 (.p (show SliceOk (p_r.Points.flatMap cel91) 3 p_r.Points.length c11.1 (w64 (c4+1)) x13.length (x13.flatMap cel91) from sliceOk cel91_len hx13) (.h (.list x13.length (x13.flatMap cel91)) .nil))) ?_
      obtain ⟨x14,hx14,h⟩:=ob h
      refine RT (.n 1 (.pc (ct68 hx14) .nil)) ?_
      refine cd h (fun hb15 h=>?_) (fun hb15 h=>?_)
      ·refine R0 ?_
       obtain rfl:=oi h
       exact awp_ret (gs [] [2,3,4] OutQ.ret)
      ·refine awp_skip ?_
       show awp ..
       refine X0 ?_
       exact gn 2 [1,2,3,5] (hrn12 _ h)
     ·intro e T H hq
      cases o10 with
      | inl ro10 =>
       obtain ⟨rfl,rfl,rfl⟩:=hq
       rw [outK_inl] at h
       obtain rfl:=oi h
       exact gs [] [2,3,4] OutQ.ret
      | inr so10 =>
       rw [outK_inr] at h
       exact absurd h (by simp)
   ·refine awp_exit ?_
    obtain rfl:=oi h
    exact gs [0] [] OutQ.norm
  ·obtain rfl:=oi h
   exact gm
  ·show awp ..
   refine EN ?_
   refine R0 ?_
   obtain rfl:=oi h
   exact awp_ret gm
theorem ct54 {fuel:Nat}  {p_r:S_api_CvRow} {surface:(List Int)} {res:Int×Int} (h:F54 fuel p_r surface=some res):PCall Tryz.prog 54 [(.agg [(di p_r.Steep),(L91 p_r.Points)]),(L3 surface)] (.tup [vi res.1,vi res.2]):=by
 refine PCall.of_awp tt_ok (N:=39) Tryz.func54 rfl (by kernel_rfl) rfl (Nat.le_of_ble_eq_true rfl) rfl ?_
 unfold F54 at h
 refine EN ?_
 refine R0 ?_
 obtain ⟨x1,hx1,h⟩:=ob h
 refine RT (.n 2 (.pc (ct124 hx1) .nil)) ?_
 refine awp_seq (R0 ?_)
 refine cd h (fun hb2 h=>?_) (fun hb2 h=>?_)
 ·refine R0 ?_
  obtain rfl:=oi h
  exact awp_ret gm
 ·refine awp_skip ?_
  show awp ..
  refine awp_seq (R0 ?_)
  refine cuo h (fun (ro3:Int×Int)=>[(4,vi ro3.1),(5,vi ro3.2)]) (fun (ro3:Int×Int)=>[]) (fun (so3:Int)=>[(4,vi so3)]) (fun (so3:Int)=>[.cells [vi p_r.Steep,.d (L91 p_r.Points)],.cells [vi x1.1.CvRow.Steep,.d (L91 x1.1.CvRow.Points)]]) (fun o3 h=>?_) (fun ro3 h=>?_) (fun so3 h=>?_)
  ·refine awp_selQ (LP 2 [1,4,20,21,22] (F54L1 surface x1) o3 (fun (c4:Int×Int)=>pr [(1,.d (L3 surface)),(4,vi c4.1),(20,.d (L91 x1.1.CvRow.Points)),(21,vl x1.1.CvRow.Points),(22,vi c4.2)] [.cells [vi p_r.Steep,.d (L91 p_r.Points)],.cells [vi x1.1.CvRow.Steep,.d (L91 x1.1.CvRow.Points)]]) fuel (0,0) h (fun _=>rfl) ?_)
   clear h
   intro n5 c4 h hrn5
   rw [F54L1] at h
   refine R0 ?_
   refine awp_seq (cd h (fun hb6 h=>?_) (fun hb6 h=>?_))
   ·refine awp_skip ?_
    show awp ..
    refine awp_seq (awp_block ?_)
    obtain ⟨x7,hx7,h⟩:=ob h
    refine RT (.n 1 (.ix (idxOk cel91_len hx7) .nil)) ?_
    obtain ⟨x8,hx8,h⟩:=ob h
    refine ET 9 (.n 3 (.ix (idxOk cel3_len hx8) .nil)) ?_
    show awp ..
    refine X0 ?_
    exact gn 2 [1,4,20,21,22] (hrn5 _ h)
   ·refine awp_exit ?_
    obtain rfl:=oi h
    exact gs [0,1] [4] OutQ.norm
  ·obtain rfl:=oi h
   exact gm
  ·show awp ..
   refine EN ?_
   refine R0 ?_
   obtain rfl:=oi h
   exact awp_ret gm
theorem ct126 {fuel:Nat}  {p_x:(List Int)} {res:Int} (h:F126 fuel p_x=some res):PCall Tryz.prog 126 [(L3 p_x)] (vi res):=by
 refine PCall.of_awp tt_ok (N:=25) Tryz.func126 rfl (by kernel_rfl) rfl (Nat.le_of_ble_eq_true rfl) rfl ?_
 unfold F126 at h
 refine EN ?_
 refine R0 ?_
 refine awp_seq (R0 ?_)
 refine cd h (fun hb1 h=>?_) (fun hb1 h=>?_)
 ·exact absurd h (by simp)
 ·refine awp_skip ?_
  show awp ..
  obtain ⟨x2,hx2,h⟩:=ob h
  refine RT (.n 1 (.ix (idxOk cel3_len hx2) .nil)) ?_
  refine awp_seq (R0 ?_)
  refine cuo h (fun (ro3:Int)=>[(2,vi ro3)]) (fun (ro3:Int)=>[]) (fun (so3:Int)=>[(3,vi so3)]) (fun (so3:Int)=>[]) (fun o3 h=>?_) (fun ro3 h=>?_) (fun so3 h=>?_)
  ·refine awp_selQ (LP 0 [0,3,4] (F126L1 p_x) o3 (fun (c4:Int×Int)=>pr [(0,.d (L3 p_x)),(3,vi c4.1),(4,vi c4.2)] []) fuel (x2,1) h (fun _=>rfl) ?_)
   clear h
   intro n5 c4 h hrn5
   rw [F126L1] at h
   refine awp_seq (R0 ?_)
   refine cd h (fun hb6 h=>?_) (fun hb6 h=>?_)
   ·refine awp_skip ?_
    show awp ..
    refine awp_seq (awp_block ?_)
    obtain ⟨x7,hx7,h⟩:=ob h
    refine XT (.n 3 (.ix (idxOk cel3_len hx7) .nil)) ?_
    show awp ..
    refine X0 ?_
    exact gn 0 [0,3,4] (hrn5 _ h)
   ·refine awp_exit ?_
    obtain rfl:=oi h
    exact gs [] [3] OutQ.norm
  ·obtain rfl:=oi h
   exact gm
  ·show awp ..
   refine EN ?_
   refine R0 ?_
   obtain rfl:=oi h
   exact awp_ret gm
theorem ct55 {fuel:Nat}  {p_r:S_api_CvRow} {surface:(List Int)} {res:(List S_api_CvPass)×Int} (h:F55 fuel p_r surface=some res):PCall Tryz.prog 55 [(.agg [(di p_r.Steep),(L91 p_r.Points)]),(L3 surface)] (.tup [.d (L114 res.1),vi res.2]):=by
 refine PCall.of_awp tt_ok (N:=105) Tryz.func55 rfl (by kernel_rfl) rfl (Nat.le_of_ble_eq_true rfl) rfl ?_
 unfold F55 at h
 refine EN ?_
 refine R0 ?_
 obtain ⟨x1,hx1,h⟩:=ob h
 refine RT (.n 2 (.pc (ct124 hx1) .nil)) ?_
 refine awp_seq (R0 ?_)
 refine cd h (fun hb2 h=>?_) (fun hb2 h=>?_)
 ·refine R0 ?_
  obtain rfl:=oi h
  refine WA 2 [(4,.d dnil),(5,vi x1.2)] [.cells [vi p_r.Steep,.d (L91 p_r.Points)],.cells [vi x1.1.CvRow.Steep,.d (L91 x1.1.CvRow.Points)]] ?_
  refine awp_laxT 4 _ (L114 ([]:List S_api_CvPass)) _ (by kernel_rfl) (.nil (e:=2)) rfl ?_
  refine WA 2 [(4,.d (L114 ([]:List S_api_CvPass))),(5,vi x1.2)] [.cells [vi p_r.Steep,.d (L91 p_r.Points)],.cells [vi x1.1.CvRow.Steep,.d (L91 x1.1.CvRow.Points)]] ?_
  exact awp_ret gm
 ·refine awp_skip ?_
  show awp ..
  obtain ⟨x3,hx3,h⟩:=ob h
  refine RT (.n 4 (.p (show MakeOk (w64 ((p_r.Points.length:Int)+1)) (w64 ((p_r.Points.length:Int)+1)) (List.replicate (w64 ((p_r.Points.length:Int)+1)).toNat (0:Int)).length 8 [.int .i64 0] ((List.replicate (w64 ((p_r.Points.length:Int)+1)).toNat (0:Int)).flatMap cel3) from makeOk rfl (need_of hx3)) (.h (.list (List.replicate (w64 ((p_r.Points.length:Int)+1)).toNat (0:Int)).length ((List.replicate (w64 ((p_r.Points.length:Int)+1)).toNat (0:Int)).flatMap cel3)) .nil))) ?_
  refine R0 ?_
  refine awp_seq (R0 ?_)
  refine cuo h (fun (ro4:(List S_api_CvPass)×Int)=>[(4,.d (L114 ro4.1)),(5,vi ro4.2)]) (fun (ro4:(List S_api_CvPass)×Int)=>[]) (fun (so4:Int×(List Int))=>[(4,.d dnil),(7,.sl 1 2 0 so4.2.length),(8,vi so4.1)]) (fun (so4:Int×(List Int))=>[.cells [vi p_r.Steep,.d (L91 p_r.Points)],.cells [vi x1.1.CvRow.Steep,.d (L91 x1.1.CvRow.Points)],.data (so4.2.flatMap cel3)]) (fun o4 h=>?_) (fun ro4 h=>?_) (fun so4 h=>?_)
  ·refine awp_selQ (LP 3 [1,4,7,8,9,32,33,34] (F55L1 surface x1) o4 (fun (c5:Int×Int×Int×(List Int))=>pr [(1,.d (L3 surface)),(4,.d dnil),(7,.sl 1 2 0 c5.2.2.2.length),(8,vi c5.1),(9,vi c5.2.1),(32,.d (L91 x1.1.CvRow.Points)),(33,vl x1.1.CvRow.Points),(34,vi c5.2.2.1)] [.cells [vi p_r.Steep,.d (L91 p_r.Points)],.cells [vi x1.1.CvRow.Steep,.d (L91 x1.1.CvRow.Points)],.data (c5.2.2.2.flatMap cel3)]) fuel (0,0,0,(List.replicate (w64 ((p_r.Points.length:Int)+1)).toNat (0:Int))) h (fun _=>rfl) ?_)
   clear h
   intro n6 c5 h hrn6
   rw [F55L1] at h
   refine R0 ?_
   refine awp_seq (cd h (fun hb7 h=>?_) (fun hb7 h=>?_))
   ·refine awp_skip ?_
    show awp ..
    refine awp_seq (awp_block ?_)
    obtain ⟨x8,hx8,h⟩:=ob h
    refine RT (.n 1 (.ix (idxOk cel91_len hx8) .nil)) ?_
    obtain ⟨x9,hx9,h⟩:=ob h
    obtain ⟨x10,hx10,h⟩:=ob h
    refine sd [1,4,7,8,9,10,32,33,34] [.no,.no,.no,.no,.no,.no,.cells (cel3 x9),.no,.no,.no,.no,.cells ((c5.2.2.2.set c5.2.2.1.toNat (if (w64 (x8.Board-x9))>0 then (w64 (x8.Board-x9)) else 0)).flatMap cel3)] 10 [1,4,7,8,9,10,32,33,34,39,40,48,49] [(1,.d (L3 surface)),(4,.d dnil),(7,.sl 1 2 0 c5.2.2.2.length),(8,vi c5.1),(9,vi c5.2.1),(10,vi c5.2.2.1),(32,.d (L91 x1.1.CvRow.Points)),(33,vl x1.1.CvRow.Points),(34,vi c5.2.2.1)] [.cells [vi p_r.Steep,.d (L91 p_r.Points)],.cells [vi x1.1.CvRow.Steep,.d (L91 x1.1.CvRow.Points)],.data ((c5.2.2.2.set c5.2.2.1.toNat (if (w64 (x8.Board-x9))>0 then (w64 (x8.Board-x9)) else 0)).flatMap cel3),.cells [vi x8.Board,vi x8.Lo,vi x8.Hi]] [IX3 surface c5.2.2.1 x9,(0≤c5.2.2.1∧c5.2.2.1<(c5.2.2.2.length:Int)),StoreOk ((c5.2.2.2.flatMap cel3).map .d) (0+c5.2.2.1.toNat*1) (([(di (if (w64 (x8.Board-x9))>0 then (w64 (x8.Board-x9)) else 0))]:List D).map .d) (((c5.2.2.2.set c5.2.2.1.toNat (if (w64 (x8.Board-x9))>0 then (w64 (x8.Board-x9)) else 0)).flatMap cel3).map .d)] (And.intro (idxOk cel3_len hx9) (And.intro (idx_bounds hx10) (storeOk (j:=0) (us:=([(di (if (w64 (x8.Board-x9))>0 then (w64 (x8.Board-x9)) else 0))]:List D)) (y:=(if (w64 (x8.Board-x9))>0 then (w64 (x8.Board-x9)) else 0)) cel3_len hx10 rfl rfl (Nat.le_of_ble_eq_true rfl)))) ?_
    refine awp_eq (T':=[(1,.d (L3 surface)),(4,.d dnil),(7,.sl 1 2 0 (c5.2.2.2.set c5.2.2.1.toNat (if (w64 (x8.Board-x9))>0 then (w64 (x8.Board-x9)) else 0)).length),(8,vi c5.1),(9,vi c5.2.1),(10,vi c5.2.2.1),(32,.d (L91 x1.1.CvRow.Points)),(33,vl x1.1.CvRow.Points),(34,vi c5.2.2.1)]) (H':=[.cells [vi p_r.Steep,.d (L91 p_r.Points)],.cells [vi x1.1.CvRow.Steep,.d (L91 x1.1.CvRow.Points)],.data ((c5.2.2.2.set c5.2.2.1.toNat (if (w64 (x8.Board-x9))>0 then (w64 (x8.Board-x9)) else 0)).flatMap cel3),.cells [vi x8.Board,vi x8.Lo,vi x8.Hi]]) (by first|(simp only [List.length_set];done)|(simp only [len_copy];done)|simp only [List.length_set,len_copy]) rfl ?_
    obtain ⟨x11,hx11,h⟩:=ob h
    refine EN ?_
    refine RT (.n 3 (.p (show (0≤c5.2.2.1∧c5.2.2.1<((c5.2.2.2.set c5.2.2.1.toNat (if (w64 (x8.Board-x9))>0 then (w64 (x8.Board-x9)) else 0)).length:Int)) from idx_bounds hx11) (.n 1 (.p (show LoadOk (((c5.2.2.2.set c5.2.2.1.toNat (if (w64 (x8.Board-x9))>0 then (w64 (x8.Board-x9)) else 0)).flatMap cel3).map .d) (0+c5.2.2.1.toNat*1) 1 (([(di x11)]:List D).map .d) from loadOk (j:=0) (es:=([(di x11)]:List D)) cel3_len hx11 rfl rfl rfl (Nat.le_of_ble_eq_true rfl)) (.h (.vals (([(di x11)]:List D).map .d)) .nil))))) ?_
    obtain ⟨x12,hx12,h⟩:=ob h
    refine XT (.n 2 (.p (show (0≤c5.2.2.1∧c5.2.2.1<((c5.2.2.2.set c5.2.2.1.toNat (if (w64 (x8.Board-x9))>0 then (w64 (x8.Board-x9)) else 0)).length:Int)) from idx_bounds hx12) (.n 1 (.p (show LoadOk (((c5.2.2.2.set c5.2.2.1.toNat (if (w64 (x8.Board-x9))>0 then (w64 (x8.Board-x9)) else 0)).flatMap cel3).map .d) (0+c5.2.2.1.toNat*1) 1 (([(di x12)]:List D).map .d) from loadOk (j:=0) (es:=([(di x12)]:List D)) cel3_len hx12 rfl rfl rfl (Nat.le_of_ble_eq_true rfl)) (.h (.vals (([(di x12)]:List D).map .d)) .nil))))) ?_
    show awp ..
    refine X0 ?_
    exact gn 3 [1,4,7,8,9,32,33,34] (hrn6 _ h)
   ·refine awp_exit ?_
    obtain rfl:=oi h
    exact gs [0,1,2] [4,7,8] OutQ.norm
  ·obtain rfl:=oi h
   exact gm
  ·show awp ..
   refine awp_seq (EN ?_)
   refine R0 ?_
   refine cd h (fun hb13 h=>?_) (fun hb13 h=>?_)
   ·refine R0 ?_
    obtain rfl:=oi h
    refine WA 3 [(4,.d dnil),(5,vi 9)] [.cells [vi p_r.Steep,.d (L91 p_r.Points)],.cells [vi x1.1.CvRow.Steep,.d (L91 x1.1.CvRow.Points)],.data (so4.2.flatMap cel3)] ?_
    refine awp_laxT 4 _ (L114 ([]:List S_api_CvPass)) _ (by kernel_rfl) (.nil (e:=2)) rfl ?_
    refine WA 3 [(4,.d (L114 ([]:List S_api_CvPass))),(5,vi 9)] [.cells [vi p_r.Steep,.d (L91 p_r.Points)],.cells [vi x1.1.CvRow.Steep,.d (L91 x1.1.CvRow.Points)],.data (so4.2.flatMap cel3)] ?_
    exact awp_ret gm
   ·refine awp_skip ?_
    show awp ..
    refine awp_seq ?_
    obtain ⟨x14,hx14,h⟩:=ob h
    refine RT (.n 1 (.p (show argsOk [.cells [vi p_r.Steep,.d (L91 p_r.Points)],.cells [vi x1.1.CvRow.Steep,.d (L91 x1.1.CvRow.Points)],.data (so4.2.flatMap cel3)] [.sl 1 2 0 so4.2.length] [(L3 so4.2)] from (And.intro (lentOk cel3_len rfl) trivial)) (.p (show PCall Tryz.prog 126 [(L3 so4.2)] (vi x14) from ct126 hx14) (.h (.call [(L3 so4.2)] (vi x14)) .nil)))) ?_
    refine WA 3 [(4,.d dnil),(7,.sl 1 2 0 so4.2.length),(67,vi x14),(68,vi 0)] [.cells [vi p_r.Steep,.d (L91 p_r.Points)],.cells [vi x1.1.CvRow.Steep,.d (L91 x1.1.CvRow.Points)],.data (so4.2.flatMap cel3)] ?_
    refine awp_nil 4 2 (by kernel_rfl) ?_
    refine awp_eq (T':=[(4,.sl 2 3 0 ([]:List S_api_CvPass).length),(7,.sl 1 2 0 so4.2.length),(67,vi x14),(68,vi 0)]) (H':=[.cells [vi p_r.Steep,.d (L91 p_r.Points)],.cells [vi x1.1.CvRow.Steep,.d (L91 x1.1.CvRow.Points)],.data (so4.2.flatMap cel3),.data (([]:List S_api_CvPass).flatMap cel114)]) (by kernel_rfl) (by kernel_rfl) ?_
    refine WA 4 [(4,.sl 2 3 0 ([]:List S_api_CvPass).length),(7,.sl 1 2 0 so4.2.length),(67,vi x14),(68,vi 0)] [.cells [vi p_r.Steep,.d (L91 p_r.Points)],.cells [vi x1.1.CvRow.Steep,.d (L91 x1.1.CvRow.Points)],.data (so4.2.flatMap cel3),.data (([]:List S_api_CvPass).flatMap cel114)] ?_
    refine cuo h (fun (ro16:(List S_api_CvPass)×Int)=>[(4,.d (L114 ro16.1)),(5,vi ro16.2)]) (fun (ro16:(List S_api_CvPass)×Int)=>[]) (fun (so16:(List S_api_CvPass))=>[(4,.sl 2 3 0 so16.length)]) (fun (so16:(List S_api_CvPass))=>[.cells [vi p_r.Steep,.d (L91 p_r.Points)],.cells [vi x1.1.CvRow.Steep,.d (L91 x1.1.CvRow.Points)],.data (so4.2.flatMap cel3),.data (so16.flatMap cel114)]) (fun o16 h=>?_) (fun ro16 h=>?_) (fun so16 h=>?_)
    ·refine awp_selQ (EN ?_)
     refine LP 4 [4,7,67,68] (F55L2 fuel so4 x14) o16 (fun (c17:Int×(List S_api_CvPass))=>pr [(4,.sl 2 3 0 c17.2.length),(7,.sl 1 2 0 so4.2.length),(67,vi x14),(68,vi c17.1)] [.cells [vi p_r.Steep,.d (L91 p_r.Points)],.cells [vi x1.1.CvRow.Steep,.d (L91 x1.1.CvRow.Points)],.data (so4.2.flatMap cel3),.data (c17.2.flatMap cel114)]) fuel (0,([]:List S_api_CvPass)) h (fun _=>rfl) ?_
     clear h
     intro n18 c17 h hrn18
     rw [F55L2] at h
     refine R0 ?_
     refine awp_seq (cd h (fun hb19 h=>?_) (fun hb19 h=>?_))
     ·refine awp_skip ?_
      show awp ..
      refine awp_seq (awp_block ?_)
      refine R0 ?_
      refine R0 ?_
      refine R0 ?_
      refine cuo h (fun (ro20:(List S_api_CvPass)×Int)=>[(4,.d (L114 ro20.1)),(5,vi ro20.2)]) (fun (ro20:(List S_api_CvPass)×Int)=>[]) (fun (so20:(List S_api_CvPass))=>[(4,.sl 2 3 0 so20.length),(7,.sl 1 2 0 so4.2.length),(67,vi x14),(68,vi c17.1)]) (fun (so20:(List S_api_CvPass))=>[.cells [vi p_r.Steep,.d (L91 p_r.Points)],.cells [vi x1.1.CvRow.Steep,.d (L91 x1.1.CvRow.Points)],.data (so4.2.flatMap cel3),.data (so20.flatMap cel114)]) (fun o20 h=>?_) (fun ro20 h=>?_) (fun so20 h=>?_)
      ·refine awp_selQ (LP 4 [4,7,12,13,67,68,71,72,73] (F55L3 so4 c17) o20 (fun (c21:Int×Int×(List S_api_CvPass))=>pr [(4,.sl 2 3 0 c21.2.2.length),(7,.sl 1 2 0 so4.2.length),(12,vi c17.1),(13,vi c21.1),(67,vi x14),(68,vi c17.1),(71,.sl 1 2 0 so4.2.length),(72,vl so4.2),(73,vi c21.2.1)] [.cells [vi p_r.Steep,.d (L91 p_r.Points)],.cells [vi x1.1.CvRow.Steep,.d (L91 x1.1.CvRow.Points)],.data (so4.2.flatMap cel3),.data (c21.2.2.flatMap cel114)]) fuel ((-1),0,c17.2) h (fun _=>rfl) ?_)
       clear h
       intro n22 c21 h hrn22
       rw [F55L3] at h
       refine R0 ?_
       refine awp_seq (cd h (fun hb23 h=>?_) (fun hb23 h=>?_))
       ·refine awp_skip ?_
        show awp ..
        refine awp_seq (awp_block ?_)
        obtain ⟨x24,hx24,h⟩:=ob h
        refine RT (.n 1 (.p (show (0≤c21.2.1∧c21.2.1<(so4.2.length:Int)) from idx_bounds hx24) (.n 1 (.p (show LoadOk ((so4.2.flatMap cel3).map .d) (0+c21.2.1.toNat*1) 1 (([(di x24)]:List D).map .d) from loadOk (j:=0) (es:=([(di x24)]:List D)) cel3_len hx24 rfl rfl rfl (Nat.le_of_ble_eq_true rfl)) (.h (.vals (([(di x24)]:List D).map .d)) .nil))))) ?_
        refine awp_block (RT (.n 5 (.p (show ((decide (x24>c17.1))=true→(decide (x24>c17.1))=true) from id) (.n 1 (.p (show ((decide (x24>c17.1))=true→(decide (x24>c17.1))=true) from id) (.n 1 .nil))))) ?_)
        refine cd h (fun hb25 h=>?_) (fun hb25 h=>?_)
        ·refine X0 ?_
         show awp ..
         refine X0 ?_
         exact gn 4 [4,7,12,13,67,68,71,72,73] (hrn22 _ h)
        ·refine RT (.n 5 (.p (show ((decide (x24≤c17.1))=true→(decide (x24≤c17.1))=true) from id) (.n 1 (.p (show ((decide (x24≤c17.1))=true→(decide (x24≤c17.1))=true) from id) (.n 1 .nil))))) ?_
         refine cd h (fun hb26 h=>?_) (fun hb26 h=>?_)
         ·obtain ⟨x27,hx27,h⟩:=ob h
          refine RT (.n 6 (.p (show AppendOk ((c21.2.2.flatMap cel114).map .d) c21.2.2.length ([(⟨c21.1,(w64 (c21.2.1-1))⟩:S_api_CvPass)]:List S_api_CvPass).length (c21.2.2++([(⟨c21.1,(w64 (c21.2.1-1))⟩:S_api_CvPass)]:List S_api_CvPass)).length 2 16 (([(⟨c21.1,(w64 (c21.2.1-1))⟩:S_api_CvPass)]:List S_api_CvPass).flatMap cel114) ((c21.2.2++([(⟨c21.1,(w64 (c21.2.1-1))⟩:S_api_CvPass)]:List S_api_CvPass)).flatMap cel114) from appendOk cel114_len (need_of hx27)) (.h (.list (c21.2.2++([(⟨c21.1,(w64 (c21.2.1-1))⟩:S_api_CvPass)]:List S_api_CvPass)).length ((c21.2.2++([(⟨c21.1,(w64 (c21.2.1-1))⟩:S_api_CvPass)]:List S_api_CvPass)).flatMap cel114)) .nil))) ?_
          refine X0 ?_
          show awp ..
          refine X0 ?_
          exact gn 4 [4,7,12,13,67,68,71,72,73] (hrn22 _ h)
         ·refine awp_skip ?_
          show awp ..
          refine X0 ?_
          exact gn 4 [4,7,12,13,67,68,71,72,73] (hrn22 _ h)
       ·refine awp_exit ?_
        obtain rfl:=oi h
        exact gs [0,1,2,3] [4,7,67,68] OutQ.norm
      ·obtain rfl:=oi h
       exact gs [] [4,5] OutQ.ret
      ·show awp ..
       refine EN ?_
       refine X0 ?_
       exact gn 4 [4,7,67,68] (hrn18 _ h)
     ·refine awp_exit ?_
      obtain rfl:=oi h
      exact gs [0,1,2,3] [4] OutQ.norm
    ·obtain rfl:=oi h
     exact gm
    ·show awp ..
     refine EN ?_
     refine R0 ?_
     obtain rfl:=oi h
     refine WA 4 [(4,.sl 2 3 0 so16.length),(5,vi 0)] [.cells [vi p_r.Steep,.d (L91 p_r.Points)],.cells [vi x1.1.CvRow.Steep,.d (L91 x1.1.CvRow.Points)],.data (so4.2.flatMap cel3),.data (so16.flatMap cel114)] ?_
     refine awp_freeze 4 3 (so16.flatMap cel114) (.sl 2 3 0 so16.length) (.d (L114 so16)) _ _ (ps:=[(so16.flatMap cel114).length=so16.length*2]) (by kernel_rfl) (by kernel_rfl) (by kernel_rfl) (flatMap_len cel114 2 cel114_len so16) rfl rfl ?_
     refine WA 4 [(4,.d (L114 so16)),(5,vi 0)] [.cells [vi p_r.Steep,.d (L91 p_r.Points)],.cells [vi x1.1.CvRow.Steep,.d (L91 x1.1.CvRow.Points)],.data (so4.2.flatMap cel3),.data (([]:List S_api_CvPass).flatMap cel114)] ?_
     exact awp_ret gm
theorem ct57  {from_:Int} {to_:Int} {res:S_api_CvPass} (h:F57 from_ to_=some res):PCall Tryz.prog 57 [(di from_),(di to_)] (.d (.agg [(di res.From),(di res.To)])):=by
 refine PCall.of_awp tt_ok (N:=8) Tryz.func57 rfl (by kernel_rfl) rfl (Nat.le_of_ble_eq_true rfl) rfl ?_
 unfold F57 at h
 refine EN ?_
 refine R0 ?_
 refine R0 ?_
 obtain rfl:=oi h
 exact awp_ret gm
theorem ct56 {fuel:Nat}  {p_r:S_api_CvRow} {passes:(List S_api_CvPass)} {res:(List Int)×Int} (h:F56 fuel p_r passes=some res):PCall Tryz.prog 56 [(.agg [(di p_r.Steep),(L91 p_r.Points)]),(L114 passes)] (.tup [.d (L3 res.1),vi res.2]):=by
 refine PCall.of_awp tt_ok (N:=92) Tryz.func56 rfl (by kernel_rfl) rfl (Nat.le_of_ble_eq_true rfl) rfl ?_
 unfold F56 at h
 refine EN ?_
 refine R0 ?_
 refine awp_seq ?_
 obtain ⟨x1,hx1,h⟩:=ob h
 refine RT (.n 1 (.pc (ct63 hx1) .nil)) ?_
 refine R0 ?_
 refine cd h (fun hb2 h=>?_) (fun hb2 h=>?_)
 ·refine R0 ?_
  obtain rfl:=oi h
  refine WA 1 [(4,.d dnil),(5,vi x1.2.2)] [.cells [vi p_r.Steep,.d (L91 p_r.Points)]] ?_
  refine awp_laxT 4 _ (L3 ([]:List Int)) _ (by kernel_rfl) (.nil (e:=1)) rfl ?_
  refine WA 1 [(4,.d (L3 ([]:List Int))),(5,vi x1.2.2)] [.cells [vi p_r.Steep,.d (L91 p_r.Points)]] ?_
  exact awp_ret gm
 ·refine awp_skip ?_
  show awp ..
  refine awp_seq (R0 ?_)
  refine cd h (fun hb3 h=>?_) (fun hb3 h=>?_)
  ·refine R0 ?_
   obtain rfl:=oi h
   refine WA 1 [(4,.d dnil),(5,vi 3)] [.cells [vi p_r.Steep,.d (L91 p_r.Points)]] ?_
   refine awp_laxT 4 _ (L3 ([]:List Int)) _ (by kernel_rfl) (.nil (e:=1)) rfl ?_
   refine WA 1 [(4,.d (L3 ([]:List Int))),(5,vi 3)] [.cells [vi p_r.Steep,.d (L91 p_r.Points)]] ?_
   exact awp_ret gm
  ·refine awp_skip ?_
   show awp ..
   obtain ⟨x4,hx4,h⟩:=ob h
   refine RT (.n 4 (.p (show MakeOk (w64 ((p_r.Points.length:Int)+1)) (w64 ((p_r.Points.length:Int)+1)) (List.replicate (w64 ((p_r.Points.length:Int)+1)).toNat (0:Int)).length 8 [.int .i64 0] ((List.replicate (w64 ((p_r.Points.length:Int)+1)).toNat (0:Int)).flatMap cel3) from makeOk rfl (need_of hx4)) (.h (.list (List.replicate (w64 ((p_r.Points.length:Int)+1)).toNat (0:Int)).length ((List.replicate (w64 ((p_r.Points.length:Int)+1)).toNat (0:Int)).flatMap cel3)) .nil))) ?_
   refine awp_seq (R0 ?_)
   refine cuo h (fun (ro5:(List Int)×Int)=>[(4,.d (L3 ro5.1)),(5,vi ro5.2)]) (fun (ro5:(List Int)×Int)=>[]) (fun (so5:(List Int))=>[(2,rf 0),(9,.sl 1 1 0 so5.length)]) (fun (so5:(List Int))=>[.cells [vi p_r.Steep,.d (L91 p_r.Points)],.data (so5.flatMap cel3)]) (fun o5 h=>?_) (fun ro5 h=>?_) (fun so5 h=>?_)
   ·refine awp_selQ (LP 2 [2,9,30,31,32] (F56L1 fuel p_r passes) o5 (fun (c6:Int×(List Int))=>pr [(2,rf 0),(9,.sl 1 1 0 c6.2.length),(30,.d (L114 passes)),(31,vl passes),(32,vi c6.1)] [.cells [vi p_r.Steep,.d (L91 p_r.Points)],.data (c6.2.flatMap cel3)]) fuel (0,(List.replicate (w64 ((p_r.Points.length:Int)+1)).toNat (0:Int))) h (fun _=>rfl) ?_)
    clear h
    intro n7 c6 h hrn7
    rw [F56L1] at h
    refine R0 ?_
    refine awp_seq (cd h (fun hb8 h=>?_) (fun hb8 h=>?_))
    ·refine awp_skip ?_
     show awp ..
     refine awp_seq (awp_block ?_)
     obtain ⟨x9,hx9,h⟩:=ob h
     refine RT (.ix (idxOk cel114_len hx9) .nil) ?_
     refine awp_seq (awp_block ?_)
     obtain ⟨x10,hx10,h⟩:=ob h
     refine RT (.n 9 (.pc (ct125 hx10) .nil)) ?_
     refine cd h (fun hb11 h=>?_) (fun hb11 h=>?_)
     ·refine R0 ?_
      obtain rfl:=oi h
      refine WA 3 [(4,.d dnil),(5,vi 4)] [.cells [vi p_r.Steep,.d (L91 p_r.Points)],.data (c6.2.flatMap cel3),.cells [vi x9.From,vi x9.To]] ?_
      refine awp_laxT 4 _ (L3 ([]:List Int)) _ (by kernel_rfl) (.nil (e:=1)) rfl ?_
      refine WA 3 [(4,.d (L3 ([]:List Int))),(5,vi 4)] [.cells [vi p_r.Steep,.d (L91 p_r.Points)],.data (c6.2.flatMap cel3),.cells [vi x9.From,vi x9.To]] ?_
      exact awp_ret (gs [] [4,5] OutQ.ret)
     ·refine R0 ?_
      refine cd h (fun hb12 h=>?_) (fun hb12 h=>?_)
      ·refine R0 ?_
       obtain rfl:=oi h
       refine WA 3 [(4,.d dnil),(5,vi 2)] [.cells [vi p_r.Steep,.d (L91 p_r.Points)],.data (c6.2.flatMap cel3),.cells [vi x9.From,vi x9.To]] ?_
       refine awp_laxT 4 _ (L3 ([]:List Int)) _ (by kernel_rfl) (.nil (e:=1)) rfl ?_
       refine WA 3 [(4,.d (L3 ([]:List Int))),(5,vi 2)] [.cells [vi p_r.Steep,.d (L91 p_r.Points)],.data (c6.2.flatMap cel3),.cells [vi x9.From,vi x9.To]] ?_
       exact awp_ret (gs [] [4,5] OutQ.ret)
      ·refine awp_skip ?_
       show awp ..
       obtain ⟨x13,hx13,h⟩:=ob h
       obtain ⟨x14,hx14,h⟩:=ob h
       refine GB [.no,.no,.no,.no,.vals (([(di x13)]:List D).map .d),.no,.no,.cells ((c6.2.set x9.From.toNat (w64 (x13+1))).flatMap cel3)] [(2,rf 0),(9,.sl 1 1 0 c6.2.length),(11,rf 2),(30,.d (L114 passes)),(31,vl passes),(32,vi c6.1)] [.cells [vi p_r.Steep,.d (L91 p_r.Points)],.data ((c6.2.set x9.From.toNat (w64 (x13+1))).flatMap cel3),.cells [vi x9.From,vi x9.To]] [(0≤x9.From∧x9.From<(c6.2.length:Int)),LoadOk ((c6.2.flatMap cel3).map .d) (0+x9.From.toNat*1) 1 (([(di x13)]:List D).map .d),(0≤x9.From∧x9.From<(c6.2.length:Int)),StoreOk ((c6.2.flatMap cel3).map .d) (0+x9.From.toNat*1) (([(di (w64 (x13+1)))]:List D).map .d) (((c6.2.set x9.From.toNat (w64 (x13+1))).flatMap cel3).map .d)] (And.intro (idx_bounds hx13) (And.intro (loadOk (j:=0) (es:=([(di x13)]:List D)) cel3_len hx13 rfl rfl rfl (Nat.le_of_ble_eq_true rfl)) (And.intro (idx_bounds hx14) (storeOk (j:=0) (us:=([(di (w64 (x13+1)))]:List D)) (y:=(w64 (x13+1))) cel3_len hx14 rfl rfl (Nat.le_of_ble_eq_true rfl))))) ?_
       refine awp_eq (T':=[(2,rf 0),(9,.sl 1 1 0 (c6.2.set x9.From.toNat (w64 (x13+1))).length),(11,rf 2),(30,.d (L114 passes)),(31,vl passes),(32,vi c6.1)]) (H':=[.cells [vi p_r.Steep,.d (L91 p_r.Points)],.data ((c6.2.set x9.From.toNat (w64 (x13+1))).flatMap cel3),.cells [vi x9.From,vi x9.To]]) (by first|(simp only [List.length_set];done)|(simp only [len_copy];done)|simp only [List.length_set,len_copy]) rfl ?_
       obtain ⟨x15,hx15,h⟩:=ob h
       obtain ⟨x16,hx16,h⟩:=ob h
       refine XB [.no,.no,.no,.no,.no,.vals (([(di x15)]:List D).map .d),.no,.no,.cells (((c6.2.set x9.From.toNat (w64 (x13+1))).set (w64 (x9.To+1)).toNat (w64 (x15-1))).flatMap cel3)] [(2,rf 0),(9,.sl 1 1 0 (c6.2.set x9.From.toNat (w64 (x13+1))).length),(30,.d (L114 passes)),(31,vl passes),(32,vi c6.1)] [.cells [vi p_r.Steep,.d (L91 p_r.Points)],.data (((c6.2.set x9.From.toNat (w64 (x13+1))).set (w64 (x9.To+1)).toNat (w64 (x15-1))).flatMap cel3),.cells [vi x9.From,vi x9.To]] [(0≤(w64 (x9.To+1))∧(w64 (x9.To+1))<((c6.2.set x9.From.toNat (w64 (x13+1))).length:Int)),LoadOk (((c6.2.set x9.From.toNat (w64 (x13+1))).flatMap cel3).map .d) (0+(w64 (x9.To+1)).toNat*1) 1 (([(di x15)]:List D).map .d),(0≤(w64 (x9.To+1))∧(w64 (x9.To+1))<((c6.2.set x9.From.toNat (w64 (x13+1))).length:Int)),StoreOk (((c6.2.set x9.From.toNat (w64 (x13+1))).flatMap cel3).map .d) (0+(w64 (x9.To+1)).toNat*1) (([(di (w64 (x15-1)))]:List D).map .d) ((((c6.2.set x9.From.toNat (w64 (x13+1))).set (w64 (x9.To+1)).toNat (w64 (x15-1))).flatMap cel3).map .d)] (And.intro (idx_bounds hx15) (And.intro (loadOk (j:=0) (es:=([(di x15)]:List D)) cel3_len hx15 rfl rfl rfl (Nat.le_of_ble_eq_true rfl)) (And.intro (idx_bounds hx16) (storeOk (j:=0) (us:=([(di (w64 (x15-1)))]:List D)) (y:=(w64 (x15-1))) cel3_len hx16 rfl rfl (Nat.le_of_ble_eq_true rfl))))) ?_
       refine q_eq (T':=[(2,rf 0),(9,.sl 1 1 0 ((c6.2.set x9.From.toNat (w64 (x13+1))).set (w64 (x9.To+1)).toNat (w64 (x15-1))).length),(30,.d (L114 passes)),(31,vl passes),(32,vi c6.1)]) (H':=[.cells [vi p_r.Steep,.d (L91 p_r.Points)],.data (((c6.2.set x9.From.toNat (w64 (x13+1))).set (w64 (x9.To+1)).toNat (w64 (x15-1))).flatMap cel3),.cells [vi x9.From,vi x9.To]]) (by first|(simp only [List.length_set];done)|(simp only [len_copy];done)|simp only [List.length_set,len_copy]) rfl ?_
       show awp ..
       refine EN ?_
       refine X0 ?_
       exact gn 2 [2,9,30,31,32] (hrn7 _ h)
    ·refine awp_exit ?_
     obtain rfl:=oi h
     exact gs [0,1] [2,9] OutQ.norm
   ·obtain rfl:=oi h
    exact gm
   ·show awp ..
    refine awp_seq (EN ?_)
    refine R0 ?_
    refine cuo h (fun (ro17:(List Int)×Int)=>[(4,.d (L3 ro17.1)),(5,vi ro17.2)]) (fun (ro17:(List Int)×Int)=>[]) (fun (so17:(List Int))=>[(2,rf 0),(9,.sl 1 1 0 so17.length)]) (fun (so17:(List Int))=>[.cells [vi p_r.Steep,.d (L91 p_r.Points)],.data (so17.flatMap cel3)]) (fun o17 h=>?_) (fun ro17 h=>?_) (fun so17 h=>?_)
    ·refine awp_selQ (LP 2 [2,9,71,72] (F56L2 so5) o17 (fun (c18:Int×(List Int))=>pr [(2,rf 0),(9,.sl 1 1 0 c18.2.length),(71,vi (w64 ((so5.length:Int)-1))),(72,vi c18.1)] [.cells [vi p_r.Steep,.d (L91 p_r.Points)],.data (c18.2.flatMap cel3)]) fuel (0,so5) h (fun _=>rfl) ?_)
     clear h
     intro n19 c18 h hrn19
     rw [F56L2] at h
     refine R0 ?_
     refine awp_seq (cd h (fun hb20 h=>?_) (fun hb20 h=>?_))
     ·refine awp_skip ?_
      show awp ..
      refine awp_seq (awp_block ?_)
      refine R0 ?_
      obtain ⟨x21,hx21,h⟩:=ob h
      obtain ⟨x22,hx22,h⟩:=ob h
      obtain ⟨x23,hx23,h⟩:=ob h
      refine awp_any (T':=[(2,rf 0),(9,.sl 1 1 0 c18.2.length),(71,vi (w64 ((so5.length:Int)-1))),(72,vi c18.1)]) (H':=[.cells [vi p_r.Steep,.d (L91 p_r.Points)],.data ((c18.2.set (w64 (c18.1+1)).toNat (w64 (x21+x22))).flatMap cel3)]) (ps:=[(0≤(w64 (c18.1+1))∧(w64 (c18.1+1))<(c18.2.length:Int)),LoadOk ((c18.2.flatMap cel3).map .d) (0+(w64 (c18.1+1)).toNat*1) 1 (([(di x21)]:List D).map .d),(0≤c18.1∧c18.1<(c18.2.length:Int)),LoadOk ((c18.2.flatMap cel3).map .d) (0+c18.1.toNat*1) 1 (([(di x22)]:List D).map .d),(0≤(w64 (c18.1+1))∧(w64 (c18.1+1))<(c18.2.length:Int)),StoreOk ((c18.2.flatMap cel3).map .d) (0+(w64 (c18.1+1)).toNat*1) (([(di (w64 (x21+x22)))]:List D).map .d) (((c18.2.set (w64 (c18.1+1)).toNat (w64 (x21+x22))).flatMap cel3).map .d)]) tt_ok mixed (ks:=[2,9,71,72]) (hs:=[.no,.no,.no,.no,.vals (([(di x21)]:List D).map .d),.no,.no,.no,.vals (([(di x22)]:List D).map .d),.no,.no,.cells ((c18.2.set (w64 (c18.1+1)).toNat (w64 (x21+x22))).flatMap cel3)]) (m:=9) (mid:=[2,9,71,72,75,77,79,83,84,85]) (by kernel_rfl) (And.intro (idx_bounds hx21) (And.intro (loadOk (j:=0) (es:=([(di x21)]:List D)) cel3_len hx21 rfl rfl rfl (Nat.le_of_ble_eq_true rfl)) (And.intro (idx_bounds hx22) (And.intro (loadOk (j:=0) (es:=([(di x22)]:List D)) cel3_len hx22 rfl rfl rfl (Nat.le_of_ble_eq_true rfl)) (And.intro (idx_bounds hx23) (storeOk (j:=0) (us:=([(di (w64 (x21+x22)))]:List D)) (y:=(w64 (x21+x22))) cel3_len hx23 rfl rfl (Nat.le_of_ble_eq_true rfl))))))) ?_
      refine q_eq (T':=[(2,rf 0),(9,.sl 1 1 0 (c18.2.set (w64 (c18.1+1)).toNat (w64 (x21+x22))).length),(71,vi (w64 ((so5.length:Int)-1))),(72,vi c18.1)]) (H':=[.cells [vi p_r.Steep,.d (L91 p_r.Points)],.data ((c18.2.set (w64 (c18.1+1)).toNat (w64 (x21+x22))).flatMap cel3)]) (by first|(simp only [List.length_set];done)|(simp only [len_copy];done)|simp only [List.length_set,len_copy]) rfl ?_
      show awp ..
      refine EN ?_
      refine X0 ?_
      exact gn 2 [2,9,71,72] (hrn19 _ h)
     ·refine awp_exit ?_
      obtain rfl:=oi h
      exact gs [0,1] [2,9] OutQ.norm
    ·obtain rfl:=oi h
     exact gm
    ·show awp ..
     obtain ⟨x24,hx24,h⟩:=ob h
     refine EN ?_
     refine RT (.n 4 (.p (show (0≤(0:Int)∧(0:Int)≤(p_r.Points.length:Int)∧(p_r.Points.length:Int)≤(so17.length:Int)∧((0:Int)=0∨(0:Int)<(so17.length:Int))) from (by have h0:=sub_bounds hx24;exact ⟨h0.1,h0.2.1,h0.2.2,.inl rfl⟩)) (.n 1 .nil))) ?_
     obtain rfl:=oi h
     refine WA 2 [(4,.sl 1 1 0 ((p_r.Points.length:Int)-0).toNat),(5,vi 0)] [.cells [vi p_r.Steep,.d (L91 p_r.Points)],.data (so17.flatMap cel3)] ?_
     refine awp_part 4 1 1 ((p_r.Points.length:Int)-0).toNat x24.length _ (x24.flatMap cel3) _ _ (by kernel_rfl) (by kernel_rfl) (partOk cel3_len hx24) rfl rfl ?_
     refine WA 2 [(4,.d (L3 x24)),(5,vi 0)] [.cells [vi p_r.Steep,.d (L91 p_r.Points)],.data (([]:List Int).flatMap cel3)] ?_
     exact awp_ret gm
theorem ct219  {p_x:Int} {res:Bool} (h:F219 p_x=some res):PCall Tryz.prog 219 [(di p_x)] (vb res):=by
 refine PCall.of_awp tt_ok (N:=6) Tryz.func219 rfl (by kernel_rfl) rfl (Nat.le_of_ble_eq_true rfl) rfl ?_
 unfold F219 at h
 refine EN ?_
 refine R0 ?_
 refine R0 ?_
 obtain rfl:=oi h
 exact awp_ret gm
theorem ct201  {p_x:Int} {y:Int} {res:Int} (h:F201 p_x y=some res):PCall Tryz.prog 201 [(di p_x),(di y)] (vi res):=by
 refine PCall.of_awp tt_ok (N:=20) Tryz.func201 rfl (by kernel_rfl) rfl (Nat.le_of_ble_eq_true rfl) rfl ?_
 unfold F201 at h
 refine EN ?_
 refine R0 ?_
 obtain ⟨x1,hx1,h⟩:=ob h
 refine RT (.n 1 (.pc (ct219 hx1) .nil)) ?_
 obtain ⟨x2,hx2,h⟩:=ob h
 refine RT (.n 1 (.pc (ct219 hx2) .nil)) ?_
 refine awp_seq (R0 ?_)
 refine cd h (fun hb3 h=>?_) (fun hb3 h=>?_)
 ·refine awp_seq (R0 ?_)
  refine cd h (fun hb4 h=>?_) (fun hb4 h=>?_)
  ·refine R0 ?_
   obtain rfl:=oi h
   exact awp_ret gm
  ·refine awp_skip ?_
   show awp ..
   refine R0 ?_
   obtain rfl:=oi h
   exact awp_ret gm
 ·refine awp_skip ?_
  show awp ..
  refine awp_seq (R0 ?_)
  refine cd h (fun hb5 h=>?_) (fun hb5 h=>?_)
  ·refine R0 ?_
   obtain rfl:=oi h
   exact awp_ret gm
  ·refine awp_skip ?_
   show awp ..
   refine awp_seq (R0 ?_)
   refine cd h (fun hb6 h=>?_) (fun hb6 h=>?_)
   ·refine R0 ?_
    obtain rfl:=oi h
    exact awp_ret gm
   ·refine awp_skip ?_
    show awp ..
    refine awp_seq (R0 ?_)
    refine cd h (fun hb7 h=>?_) (fun hb7 h=>?_)
    ·refine R0 ?_
     obtain rfl:=oi h
     exact awp_ret gm
    ·refine awp_skip ?_
     show awp ..
     refine R0 ?_
     obtain rfl:=oi h
     exact awp_ret gm
theorem ct167 {fuel:Nat}  {p_s1:(List Int)} {p_s2:(List Int)} {res:Int} (h:F167 fuel p_s1 p_s2=some res):PCall Tryz.prog 167 [(L3 p_s1),(L3 p_s2)] (vi res):=by
 refine PCall.of_awp tt_ok (N:=36) Tryz.func167 rfl (by kernel_rfl) rfl (Nat.le_of_ble_eq_true rfl) rfl ?_
 unfold F167 at h
 refine EN ?_
 refine R0 ?_
 refine awp_seq (R0 ?_)
 refine cuo h (fun (ro1:Int)=>[(4,vi ro1)]) (fun (ro1:Int)=>[]) (fun (so1:Unit)=>[(0,.d (L3 p_s1)),(1,.d (L3 p_s2))]) (fun (so1:Unit)=>[]) (fun o1 h=>?_) (fun ro1 h=>?_) (fun so1 h=>?_)
 ·refine awp_selQ (LP 0 [0,1,9,10,11] (F167L1 p_s1 p_s2) o1 (fun (c2:Int)=>pr [(0,.d (L3 p_s1)),(1,.d (L3 p_s2)),(9,.d (L3 p_s1)),(10,vl p_s1),(11,vi c2)] []) fuel 0 h (fun _=>rfl) ?_)
  clear h
  intro n3 c2 h hrn3
  rw [F167L1] at h
  refine R0 ?_
  refine awp_seq (cd h (fun hb4 h=>?_) (fun hb4 h=>?_))
  ·refine awp_skip ?_
   show awp ..
   refine awp_seq (awp_block ?_)
   obtain ⟨x5,hx5,h⟩:=ob h
   refine RT (.n 1 (.ix (idxOk cel3_len hx5) .nil)) ?_
   refine awp_seq (R0 ?_)
   refine cd h (fun hb6 h=>?_) (fun hb6 h=>?_)
   ·refine R0 ?_
    obtain rfl:=oi h
    exact awp_ret (gs [] [4] OutQ.ret)
   ·refine awp_skip ?_
    show awp ..
    obtain ⟨x7,hx7,h⟩:=ob h
    refine RT (.n 2 (.ix (idxOk cel3_len hx7) .nil)) ?_
    obtain ⟨x8,hx8,h⟩:=ob h
    refine RT (.n 2 (.pc (ct201 hx8) .nil)) ?_
    refine R0 ?_
    refine cd h (fun hb9 h=>?_) (fun hb9 h=>?_)
    ·refine R0 ?_
     obtain rfl:=oi h
     exact awp_ret (gs [] [4] OutQ.ret)
    ·refine awp_skip ?_
     show awp ..
     refine X0 ?_
     exact gn 0 [0,1,9,10,11] (hrn3 _ h)
  ·refine awp_exit ?_
   obtain rfl:=oi h
   exact gs [] [0,1] OutQ.norm
 ·obtain rfl:=oi h
  exact gm
 ·show awp ..
  refine awp_seq (EN ?_)
  refine R0 ?_
  refine cd h (fun hb10 h=>?_) (fun hb10 h=>?_)
  ·refine R0 ?_
   obtain rfl:=oi h
   exact awp_ret gm
  ·refine awp_skip ?_
   show awp ..
   refine R0 ?_
   obtain rfl:=oi h
   exact awp_ret gm
theorem ct129 {fuel:Nat}  {p_n:S_carve_needs} {p_m:S_carve_needs} {res:Int} (h:F129 fuel p_n p_m=some res):PCall Tryz.prog 129 [(.agg [(di p_n.e0),(di p_n.e1)]),(.agg [(di p_m.e0),(di p_m.e1)])] (vi res):=by
 refine PCall.of_awp tt_ok (N:=8) Tryz.func129 rfl (by kernel_rfl) rfl (Nat.le_of_ble_eq_true rfl) rfl ?_
 unfold F129 at h
 refine EN ?_
 refine R0 ?_
 obtain ⟨x1,hx1,h⟩:=ob h
 refine DT 2 (.p (by decide:(0≤(0:Int)∧(0:Int)≤((2:Nat):Int)∧((2:Nat):Int)≤((2:Nat):Int)∧((0:Int)=0∨(0:Int)<((2:Nat):Int))∧0+2*1≤2∧2≤9223372036854775807)) (.n 1 (.p (by decide:(0≤(0:Int)∧(0:Int)≤((2:Nat):Int)∧((2:Nat):Int)≤((2:Nat):Int)∧((0:Int)=0∨(0:Int)<((2:Nat):Int))∧0+2*1≤2∧2≤9223372036854775807)) (.n 1 (.p (show argsOk [.cells [vi p_n.e0,vi p_n.e1],.cells [vi p_m.e0,vi p_m.e1]] [.sl 1 0 0 2,.sl 1 1 0 2] [(L3 ([p_n.e0,p_n.e1]:List Int)),(L3 ([p_m.e0,p_m.e1]:List Int))] from (And.intro (⟨rfl,rfl,rfl,_,rfl,rfl,Nat.le_of_ble_eq_true rfl⟩) (And.intro (⟨rfl,rfl,rfl,_,rfl,rfl,Nat.le_of_ble_eq_true rfl⟩) trivial))) (.p (show PCall Tryz.prog 167 [(L3 ([p_n.e0,p_n.e1]:List Int)),(L3 ([p_m.e0,p_m.e1]:List Int))] (vi x1) from ct167 hx1) (.h (.call [(L3 ([p_n.e0,p_n.e1]:List Int)),(L3 ([p_m.e0,p_m.e1]:List Int))] (vi x1)) .nil))))))) ?_
 obtain rfl:=oi h
 exact awp_ret gm
theorem ct130 {fuel:Nat}  {p_n:S_carve_needs} {p_m:S_carve_needs} {res:Int} (h:F130 fuel p_n p_m=some res):PCall Tryz.prog 130 [(.agg [(di p_n.e0),(di p_n.e1)]),(.agg [(di p_m.e0),(di p_m.e1)])] (vi res):=by
 refine PCall.of_awp tt_ok (N:=24) Tryz.func130 rfl (by kernel_rfl) rfl (Nat.le_of_ble_eq_true rfl) rfl ?_
 unfold F130 at h
 refine EN ?_
 refine R0 ?_
 refine R0 ?_
 refine DT 6 (.p (by decide:(0≤(0:Int)∧(0:Int)≤((2:Nat):Int)∧((2:Nat):Int)≤((2:Nat):Int)∧((0:Int)=0∨(0:Int)<((2:Nat):Int))∧0+2*1≤2∧2≤9223372036854775807)) (.n 1 (.p (by decide:0≤(1:Int)∧(1:Int)<(2:Int)) (.n 1 (.n 1 (.p (by decide:0≤(0:Int)∧(0:Int)<(2:Int)) (.n 1 .nil))))))) ?_
 refine DT 6 (.p (by decide:(0≤(0:Int)∧(0:Int)≤((2:Nat):Int)∧((2:Nat):Int)≤((2:Nat):Int)∧((0:Int)=0∨(0:Int)<((2:Nat):Int))∧0+2*1≤2∧2≤9223372036854775807)) (.n 1 (.p (by decide:0≤(1:Int)∧(1:Int)<(2:Int)) (.n 1 (.n 1 (.p (by decide:0≤(0:Int)∧(0:Int)<(2:Int)) (.n 1 .nil))))))) ?_
 obtain ⟨x1,hx1,h⟩:=ob h
 refine RT (.n 2 (.pc (ct129 hx1) .nil)) ?_
 obtain rfl:=oi h
 exact awp_ret gm
theorem ct131 {rec91:Int→Int→S_api_Span→(List S_api_Span)→Int→(List S_api_CvPoint)→(List (S_carve_state×S_carve_rest))→Bool→Option (S_carve_rest×(List (S_carve_state×S_carve_rest)))} (hrec91:∀(at_:Int) (deep:Int) (before:S_api_Span) (b0x0:List S_api_Span) (b3x0:Int) (b3x1:List S_api_CvPoint) (m5:List (S_carve_state×S_carve_rest)) (b7x0:Bool) (res:S_carve_rest×(List (S_carve_state×S_carve_rest))),rec91 at_ deep before b0x0 b3x0 b3x1 m5 b7x0=some res→HCall Tryz.prog 128 [vi at_,vi deep,.d (.agg [(di before.Lo),(di before.Hi)]),rf 0,rf 1,rf 7] [.cells [.d (L66 b0x0)],.cells [.fn (.func 127) [] [rf 2,rf 3]],.cells [.fn (.func 131) [] [rf 3,rf 4,rf 6]],.cells [vi b3x0,.d (L91 b3x1)],.cells [.mp 5],.map (mpo212x216 m5),.cells [.fn (.func 128) [] [rf 0,rf 1,rf 7]],.cells [vb b7x0]] (.d (.agg [(di res.1.needs.e0),(di res.1.needs.e1),(di res.1.next)])) [.cells [.d (L66 b0x0)],.cells [.fn (.func 127) [] [rf 2,rf 3]],.cells [.fn (.func 131) [] [rf 3,rf 4,rf 6]],.cells [vi b3x0,.d (L91 b3x1)],.cells [.mp 5],.map (mpo212x216 res.2),.cells [.fn (.func 128) [] [rf 0,rf 1,rf 7]],.cells [vb b7x0]]) {p_s:S_carve_state} {b0x0:Int} {b0x1:List S_api_CvPoint} {m2:List (S_carve_state×S_carve_rest)} {b4x0:List S_api_Span} {b7x0:Bool} {res:S_carve_rest×(List (S_carve_state×S_carve_rest))} (h:F131 rec91 p_s b0x0 b0x1 m2 b4x0 b7x0=some res):HCall Tryz.prog 131 [.d (.agg [(di p_s.at_),(di p_s.high)]),rf 0,rf 1,rf 3] [.cells [vi b0x0,.d (L91 b0x1)],.cells [.mp 2],.map (mpo212x216 m2),.cells [.fn (.func 128) [] [rf 4,rf 5,rf 7]],.cells [.d (L66 b4x0)],.cells [.fn (.func 127) [] [rf 6,rf 0]],.cells [.fn (.func 131) [] [rf 0,rf 1,rf 3]],.cells [vb b7x0]] (.d (.agg [(di res.1.needs.e0),(di res.1.needs.e1),(di res.1.next)])) [.cells [vi b0x0,.d (L91 b0x1)],.cells [.mp 2],.map (mpo212x216 res.2),.cells [.fn (.func 128) [] [rf 4,rf 5,rf 7]],.cells [.d (L66 b4x0)],.cells [.fn (.func 127) [] [rf 6,rf 0]],.cells [.fn (.func 131) [] [rf 0,rf 1,rf 3]],.cells [vb b7x0]]:=by
 refine HCall.of_awpS tt_ok (N:=55) (fl:=8) Tryz.func131 rfl (by kernel_rfl) rfl rfl (Nat.le_of_ble_eq_true rfl) ?_
 unfold F131 at h
 refine EN ?_
 refine R0 ?_
 refine awp_seq (R0 ?_)
 refine cd h (fun hb1 h=>?_) (fun hb1 h=>?_)
 ·refine R0 ?_
  obtain rfl:=oi h
  exact awp_ret (main_retS [0,1,2,3,4,5,6,7] (.d (.agg [(di 0),(di 0),(di 0)])) (by kernel_rfl) (by kernel_rfl) (by kernel_rfl) (by kernel_rfl))
 ·refine awp_skip ?_
  show awp ..
  refine RT (.n 2 (.p (show LookOk (mpo212x216 m2) (.agg [(di p_s.at_),(di p_s.high)]) (.agg [(di 0),(di 0),(di 0)]) (.agg [(di ((mget eqk212 p_s m2).getD (⟨(⟨0,0⟩:S_carve_needs),0⟩:S_carve_rest)).needs.e0),(di ((mget eqk212 p_s m2).getD (⟨(⟨0,0⟩:S_carve_needs),0⟩:S_carve_rest)).needs.e1),(di ((mget eqk212 p_s m2).getD (⟨(⟨0,0⟩:S_carve_needs),0⟩:S_carve_rest)).next)]) (mget eqk212 p_s m2).isSome from lookOk (fk:=dat212) (fv:=dat216) eqk212_ok rfl p_s m2) (.h (.look (.agg [(di ((mget eqk212 p_s m2).getD (⟨(⟨0,0⟩:S_carve_needs),0⟩:S_carve_rest)).needs.e0),(di ((mget eqk212 p_s m2).getD (⟨(⟨0,0⟩:S_carve_needs),0⟩:S_carve_rest)).needs.e1),(di ((mget eqk212 p_s m2).getD (⟨(⟨0,0⟩:S_carve_needs),0⟩:S_carve_rest)).next)]) (mget eqk212 p_s m2).isSome) .nil))) ?_
  refine awp_seq (R0 ?_)
  refine cd h (fun hb2 h=>?_) (fun hb2 h=>?_)
  ·obtain ⟨x3,hx3,h⟩:=ob h
   obtain ⟨x4,hx4,h⟩:=ob h
   refine DT 26 (.n 8 (.ix (idxOk cel91_len hx3) (.n 17 (.hc [(4,false),(5,false),(6,false),(0,false),(1,false),(2,false),(3,false),(7,false)] (hrec91 _ _ _ _ _ _ _ _ _ hx4) .nil)))) ?_
   refine XT (.n 3 (.p (show (setD (.agg [(di p_s.at_),(di p_s.high)]) (.agg [(di x4.1.needs.e0),(di x4.1.needs.e1),(di x4.1.next)]) (mpo212x216 x4.2)=some (mpo212x216 (mset eqk212 p_s (⟨(⟨x4.1.needs.e0,x4.1.needs.e1⟩:S_carve_needs),x4.1.next⟩:S_carve_rest) x4.2))) from setOk (fk:=dat212) (fv:=dat216) eqk212_ok p_s (⟨(⟨x4.1.needs.e0,x4.1.needs.e1⟩:S_carve_needs),x4.1.next⟩:S_carve_rest) x4.2) (.h (.kvs (mpo212x216 (mset eqk212 p_s (⟨(⟨x4.1.needs.e0,x4.1.needs.e1⟩:S_carve_needs),x4.1.next⟩:S_carve_rest) x4.2))) .nil))) ?_
   show awp ..
   refine R0 ?_
   obtain rfl:=oi h
   exact awp_ret (main_retS [0,1,2,3,4,5,6,7] (.d (.agg [(di x4.1.needs.e0),(di x4.1.needs.e1),(di x4.1.next)])) (by kernel_rfl) (by kernel_rfl) (by kernel_rfl) (by kernel_rfl))
  ·refine awp_skip ?_
   show awp ..
   refine R0 ?_
   obtain rfl:=oi h
   exact awp_ret (main_retS [0,1,2,3,4,5,6,7] (.d (.agg [(di ((mget eqk212 p_s m2).getD (⟨(⟨0,0⟩:S_carve_needs),0⟩:S_carve_rest)).needs.e0),(di ((mget eqk212 p_s m2).getD (⟨(⟨0,0⟩:S_carve_needs),0⟩:S_carve_rest)).needs.e1),(di ((mget eqk212 p_s m2).getD (⟨(⟨0,0⟩:S_carve_needs),0⟩:S_carve_rest)).next)])) (by kernel_rfl) (by kernel_rfl) (by kernel_rfl) (by kernel_rfl))
theorem ct127 {rec91:Int→Int→S_api_Span→(List S_api_Span)→Int→(List S_api_CvPoint)→(List (S_carve_state×S_carve_rest))→Bool→Option (S_carve_rest×(List (S_carve_state×S_carve_rest)))} (hrec91:∀(at_:Int) (deep:Int) (before:S_api_Span) (b0x0:List S_api_Span) (b3x0:Int) (b3x1:List S_api_CvPoint) (m5:List (S_carve_state×S_carve_rest)) (b7x0:Bool) (res:S_carve_rest×(List (S_carve_state×S_carve_rest))),rec91 at_ deep before b0x0 b3x0 b3x1 m5 b7x0=some res→HCall Tryz.prog 128 [vi at_,vi deep,.d (.agg [(di before.Lo),(di before.Hi)]),rf 0,rf 1,rf 7] [.cells [.d (L66 b0x0)],.cells [.fn (.func 127) [] [rf 2,rf 3]],.cells [.fn (.func 131) [] [rf 3,rf 4,rf 6]],.cells [vi b3x0,.d (L91 b3x1)],.cells [.mp 5],.map (mpo212x216 m5),.cells [.fn (.func 128) [] [rf 0,rf 1,rf 7]],.cells [vb b7x0]] (.d (.agg [(di res.1.needs.e0),(di res.1.needs.e1),(di res.1.next)])) [.cells [.d (L66 b0x0)],.cells [.fn (.func 127) [] [rf 2,rf 3]],.cells [.fn (.func 131) [] [rf 3,rf 4,rf 6]],.cells [vi b3x0,.d (L91 b3x1)],.cells [.mp 5],.map (mpo212x216 res.2),.cells [.fn (.func 128) [] [rf 0,rf 1,rf 7]],.cells [vb b7x0]]) {p_s:S_carve_state} {deep:Int} {b1x0:Int} {b1x1:List S_api_CvPoint} {m3:List (S_carve_state×S_carve_rest)} {b5x0:List S_api_Span} {b7x0:Bool} {res:S_carve_needs×(List (S_carve_state×S_carve_rest))} (h:F127 rec91 p_s deep b1x0 b1x1 m3 b5x0 b7x0=some res):HCall Tryz.prog 127 [.d (.agg [(di p_s.at_),(di p_s.high)]),vi deep,rf 0,rf 1] [.cells [.fn (.func 131) [] [rf 1,rf 2,rf 4]],.cells [vi b1x0,.d (L91 b1x1)],.cells [.mp 3],.map (mpo212x216 m3),.cells [.fn (.func 128) [] [rf 5,rf 6,rf 7]],.cells [.d (L66 b5x0)],.cells [.fn (.func 127) [] [rf 0,rf 1]],.cells [vb b7x0]] (.d (.agg [(di res.1.e0),(di res.1.e1)])) [.cells [.fn (.func 131) [] [rf 1,rf 2,rf 4]],.cells [vi b1x0,.d (L91 b1x1)],.cells [.mp 3],.map (mpo212x216 res.2),.cells [.fn (.func 128) [] [rf 5,rf 6,rf 7]],.cells [.d (L66 b5x0)],.cells [.fn (.func 127) [] [rf 0,rf 1]],.cells [vb b7x0]]:=by
 refine HCall.of_awpS tt_ok (N:=42) (fl:=8) Tryz.func127 rfl (by kernel_rfl) rfl rfl (Nat.le_of_ble_eq_true rfl) ?_
 unfold F127 at h
 refine EN ?_
 refine R0 ?_
 obtain ⟨x1,hx1,h⟩:=ob h
 refine RT (.n 2 (.hc [(1,false),(2,false),(3,false),(4,false),(5,false),(6,false),(0,false),(7,false)] (ct131 hrec91 hx1) .nil)) ?_
 obtain ⟨x2,hx2,h⟩:=ob h
 refine RT (.n 4 (.ix (idxOk cel91_len hx2) .nil)) ?_
 refine RT (.p (by decide:0≤(0:Int)∧(0:Int)<(2:Int)) (.n 1 (.n 7 (.p (by decide:0≤(0:Int)∧(0:Int)<(2:Int)) (.n 1 .nil))))) ?_
 refine RT (.p (by decide:0≤(1:Int)∧(1:Int)<(2:Int)) (.n 1 (.n 10 (.p (by decide:0≤(1:Int)∧(1:Int)<(2:Int)) (.n 1 .nil))))) ?_
 refine R0 ?_
 obtain rfl:=oi h
 exact awp_ret (main_retS [0,1,2,3,4,5,6,7] (.d (.agg [(di (w64 (x1.1.needs.e0+(if (w64 (p_s.high-x2.Board))>0 then (w64 (p_s.high-x2.Board)) else 0)))),(di (w64 (x1.1.needs.e1+(if (w64 ((if (w64 (x2.Board-p_s.high))>0 then (w64 (x2.Board-p_s.high)) else 0)-deep))>0 then (w64 ((if (w64 (x2.Board-p_s.high))>0 then (w64 (x2.Board-p_s.high)) else 0)-deep)) else 0))))])) (by kernel_rfl) (by kernel_rfl) (by kernel_rfl) (by kernel_rfl))
theorem ct128B {fuel:Nat} {rec91:Int→Int→S_api_Span→(List S_api_Span)→Int→(List S_api_CvPoint)→(List (S_carve_state×S_carve_rest))→Bool→Option (S_carve_rest×(List (S_carve_state×S_carve_rest)))} (hrec91:∀(at_:Int) (deep:Int) (before:S_api_Span) (b0x0:List S_api_Span) (b3x0:Int) (b3x1:List S_api_CvPoint) (m5:List (S_carve_state×S_carve_rest)) (b7x0:Bool) (res:S_carve_rest×(List (S_carve_state×S_carve_rest))),rec91 at_ deep before b0x0 b3x0 b3x1 m5 b7x0=some res→HCall Tryz.prog 128 [vi at_,vi deep,.d (.agg [(di before.Lo),(di before.Hi)]),rf 0,rf 1,rf 7] [.cells [.d (L66 b0x0)],.cells [.fn (.func 127) [] [rf 2,rf 3]],.cells [.fn (.func 131) [] [rf 3,rf 4,rf 6]],.cells [vi b3x0,.d (L91 b3x1)],.cells [.mp 5],.map (mpo212x216 m5),.cells [.fn (.func 128) [] [rf 0,rf 1,rf 7]],.cells [vb b7x0]] (.d (.agg [(di res.1.needs.e0),(di res.1.needs.e1),(di res.1.next)])) [.cells [.d (L66 b0x0)],.cells [.fn (.func 127) [] [rf 2,rf 3]],.cells [.fn (.func 131) [] [rf 3,rf 4,rf 6]],.cells [vi b3x0,.d (L91 b3x1)],.cells [.mp 5],.map (mpo212x216 res.2),.cells [.fn (.func 128) [] [rf 0,rf 1,rf 7]],.cells [vb b7x0]]) {at_:Int} {deep:Int} {before:S_api_Span} {b0x0:List S_api_Span} {b3x0:Int} {b3x1:List S_api_CvPoint} {m5:List (S_carve_state×S_carve_rest)} {b7x0:Bool} {res:S_carve_rest×(List (S_carve_state×S_carve_rest))} (h:B128 fuel rec91 at_ deep before b0x0 b3x0 b3x1 m5 b7x0=some res):HCall Tryz.prog 128 [vi at_,vi deep,.d (.agg [(di before.Lo),(di before.Hi)]),rf 0,rf 1,rf 7] [.cells [.d (L66 b0x0)],.cells [.fn (.func 127) [] [rf 2,rf 3]],.cells [.fn (.func 131) [] [rf 3,rf 4,rf 6]],.cells [vi b3x0,.d (L91 b3x1)],.cells [.mp 5],.map (mpo212x216 m5),.cells [.fn (.func 128) [] [rf 0,rf 1,rf 7]],.cells [vb b7x0]] (.d (.agg [(di res.1.needs.e0),(di res.1.needs.e1),(di res.1.next)])) [.cells [.d (L66 b0x0)],.cells [.fn (.func 127) [] [rf 2,rf 3]],.cells [.fn (.func 131) [] [rf 3,rf 4,rf 6]],.cells [vi b3x0,.d (L91 b3x1)],.cells [.mp 5],.map (mpo212x216 res.2),.cells [.fn (.func 128) [] [rf 0,rf 1,rf 7]],.cells [vb b7x0]]:=by
 refine HCall.of_awpS tt_ok (N:=70) (fl:=8) Tryz.func128 rfl (by kernel_rfl) rfl rfl (Nat.le_of_ble_eq_true rfl) ?_
 unfold B128 at h
 refine EN ?_
 refine R0 ?_
 refine awp_scope ?_
 refine R0 ?_
 refine R0 ?_
 refine awp_seq (awp_label ?_)
 show awp ..
 refine awp_seq ?_
 obtain ⟨x1,hx1,h⟩:=ob h
 obtain ⟨x2,hx2,h⟩:=ob h
 refine DT 13 (.n 2 (.ix (idxOk cel66_len hx1) (.n 4 (.ix (idxOk cel66_len hx2) .nil)))) ?_
 refine cuo h (fun (ro3:S_carve_rest×(List (S_carve_state×S_carve_rest)))=>[(9,rf 8)]) (fun (ro3:S_carve_rest×(List (S_carve_state×S_carve_rest)))=>[.cells [.d (L66 b0x0)],.cells [.fn (.func 127) [] [rf 2,rf 3]],.cells [.fn (.func 131) [] [rf 3,rf 4,rf 6]],.cells [vi b3x0,.d (L91 b3x1)],.cells [.mp 5],.map (mpo212x216 ro3.2),.cells [.fn (.func 128) [] [rf 0,rf 1,rf 7]],.cells [vb b7x0],.cells [vi ro3.1.needs.e0,vi ro3.1.needs.e1,vi ro3.1.next]]) (fun (so3:(List (S_carve_state×S_carve_rest))×Int×Int×Int)=>[(9,rf 9),(11,rf 10)]) (fun (so3:(List (S_carve_state×S_carve_rest))×Int×Int×Int)=>[.cells [.d (L66 b0x0)],.cells [.fn (.func 127) [] [rf 2,rf 3]],.cells [.fn (.func 131) [] [rf 3,rf 4,rf 6]],.cells [vi b3x0,.d (L91 b3x1)],.cells [.mp 5],.map (mpo212x216 so3.1),.cells [.fn (.func 128) [] [rf 0,rf 1,rf 7]],.cells [vb b7x0],.cells [vi before.Lo,vi before.Hi],.cells [vi 0,vi 0,vi 0],.cells [vi so3.2.1,vi so3.2.2.1,vi so3.2.2.2]]) (fun o3 h=>?_) (fun ro3 h=>?_) (fun so3 h=>?_)
 ·refine awp_selQ (LP 11 [0,1,3,4,5,8,9,10,11,27,28] (F128L1 fuel rec91 at_ deep before b0x0 b3x0 b3x1 b7x0 x1 x2) o3 (fun (c4:Bool×Int×(List (S_carve_state×S_carve_rest))×Int×Int×Int)=>pr [(0,vi at_),(1,vi deep),(3,rf 0),(4,rf 1),(5,rf 7),(8,rf 8),(9,rf 9),(10,vb c4.1),(11,rf 10),(27,vi (w64 ((w64 (x1.Hi-x2.Lo))+1))),(28,vi c4.2.1)] [.cells [.d (L66 b0x0)],.cells [.fn (.func 127) [] [rf 2,rf 3]],.cells [.fn (.func 131) [] [rf 3,rf 4,rf 6]],.cells [vi b3x0,.d (L91 b3x1)],.cells [.mp 5],.map (mpo212x216 c4.2.2.1),.cells [.fn (.func 128) [] [rf 0,rf 1,rf 7]],.cells [vb b7x0],.cells [vi before.Lo,vi before.Hi],.cells [vi 0,vi 0,vi 0],.cells [vi c4.2.2.2.1,vi c4.2.2.2.2.1,vi c4.2.2.2.2.2]]) fuel (false,0,m5,0,0,0) h (fun _=>rfl) ?_)
  clear h
  intro n5 c4 h hrn5
  rw [F128L1] at h
  refine R0 ?_
  refine awp_seq (cd h (fun hb6 h=>?_) (fun hb6 h=>?_))
  ·refine awp_skip ?_
   show awp ..
   refine awp_seq (awp_block ?_)
   refine R0 ?_
   obtain ⟨x7,hx7,h⟩:=ob h
   refine RT (.n 2 (.ix (idxOk cel66_len hx7) .nil)) ?_
   refine awp_seq ?_
   obtain ⟨x8,hx8,h⟩:=ob h
   refine RT (.n 6 (.pc (ct125 hx8) .nil)) ?_
   refine cd h (fun hb9 h=>?_) (fun hb9 h=>?_)
   ·refine awp_exit ?_
    show awp ..
    refine X0 ?_
    exact gn 11 [0,1,3,4,5,8,9,10,11,27,28] (hrn5 _ h)
   ·refine awp_skip ?_
    show awp ..
    obtain ⟨x10,hx10,h⟩:=ob h
    refine RT (.n 5 (.hc [(2,false),(3,false),(4,false),(5,false),(6,false),(0,false),(1,false),(7,false)] (ct127 hrec91 hx10) .nil)) ?_
    refine R0 ?_
    refine awp_seq (R0 ?_)
    refine cd h (fun hb12 h=>?_) (fun hb12 h=>?_)
    ·refine X0 ?_
     show awp ..
     obtain ⟨x13,hx13,h⟩:=ob h
     refine RT (.n 5 (.p (show ((!(!c4.1))=true→(!(!c4.1))=true) from id) (.n 1 (.p (show ((!(!c4.1))=true→(!(!c4.1))=true) from id) (.p (show ((!(!c4.1))=true→(!(!c4.1))=true) from id) (.p (show ((!(!c4.1))=true→PCall Tryz.prog 130 [(.agg [(di x10.1.e0),(di x10.1.e1)]),(.agg [(di c4.2.2.2.1),(di c4.2.2.2.2.1)])] (vi x13)) from (fun hg=>ct130 (optG_of hx13 hg))) (.h (.call [(.agg [(di x10.1.e0),(di x10.1.e1)]),(.agg [(di c4.2.2.2.1),(di c4.2.2.2.2.1)])] (vi x13)) (.p (show ((!(!c4.1))=true→(!(!c4.1))=true) from id) (.n 1 (.p (show ((!c4.1)=false→(!(!c4.1))=true) from not_of) (.n 1 .nil))))))))))) ?_
     refine cd h (fun hb14 h=>?_) (fun hb14 h=>?_)
     ·refine X0 ?_
      show awp ..
      refine X0 ?_
      exact gn 11 [0,1,3,4,5,8,9,10,11,27,28] (hrn5 _ h)
     ·refine awp_skip ?_
      show awp ..
      refine X0 ?_
      exact gn 11 [0,1,3,4,5,8,9,10,11,27,28] (hrn5 _ h)
    ·refine awp_skip ?_
     show awp ..
     obtain ⟨x15,hx15,h⟩:=ob h
     refine RT (.n 5 (.p (show ((!(!c4.1))=true→(!(!c4.1))=true) from id) (.n 1 (.p (show ((!(!c4.1))=true→(!(!c4.1))=true) from id) (.p (show ((!(!c4.1))=true→(!(!c4.1))=true) from id) (.p (show ((!(!c4.1))=true→PCall Tryz.prog 129 [(.agg [(di x10.1.e0),(di x10.1.e1)]),(.agg [(di c4.2.2.2.1),(di c4.2.2.2.2.1)])] (vi x15)) from (fun hg=>ct129 (optG_of hx15 hg))) (.h (.call [(.agg [(di x10.1.e0),(di x10.1.e1)]),(.agg [(di c4.2.2.2.1),(di c4.2.2.2.2.1)])] (vi x15)) (.p (show ((!(!c4.1))=true→(!(!c4.1))=true) from id) (.n 1 (.p (show ((!c4.1)=false→(!(!c4.1))=true) from not_of) (.n 1 .nil))))))))))) ?_
     refine cd h (fun hb16 h=>?_) (fun hb16 h=>?_)
     ·refine X0 ?_
      show awp ..
      refine X0 ?_
      exact gn 11 [0,1,3,4,5,8,9,10,11,27,28] (hrn5 _ h)
     ·refine awp_skip ?_
      show awp ..
      refine X0 ?_
      exact gn 11 [0,1,3,4,5,8,9,10,11,27,28] (hrn5 _ h)
  ·refine awp_exit ?_
   obtain rfl:=oi h
   exact gs [0,1,2,3,4,5,6,7,8,9,10] [9,11] OutQ.norm
 ·obtain rfl:=oi h
  exact (main_retS [0,1,2,3,4,5,6,7] (.d (.agg [(di ro3.1.needs.e0),(di ro3.1.needs.e1),(di ro3.1.next)])) (by kernel_rfl) (by kernel_rfl) (by kernel_rfl) (by kernel_rfl))
 ·show awp ..
  refine EN ?_
  refine R0 ?_
  obtain rfl:=oi h
  exact awp_ret (main_retS [0,1,2,3,4,5,6,7] (.d (.agg [(di so3.2.1),(di so3.2.2.1),(di so3.2.2.2)])) (by kernel_rfl) (by kernel_rfl) (by kernel_rfl) (by kernel_rfl))
theorem ct128:∀{fuel:Nat} {at_:Int} {deep:Int} {before:S_api_Span} {b0x0:List S_api_Span} {b3x0:Int} {b3x1:List S_api_CvPoint} {m5:List (S_carve_state×S_carve_rest)} {b7x0:Bool} {res:S_carve_rest×(List (S_carve_state×S_carve_rest))},F128 fuel at_ deep before b0x0 b3x0 b3x1 m5 b7x0=some res→HCall Tryz.prog 128 [vi at_,vi deep,.d (.agg [(di before.Lo),(di before.Hi)]),rf 0,rf 1,rf 7] [.cells [.d (L66 b0x0)],.cells [.fn (.func 127) [] [rf 2,rf 3]],.cells [.fn (.func 131) [] [rf 3,rf 4,rf 6]],.cells [vi b3x0,.d (L91 b3x1)],.cells [.mp 5],.map (mpo212x216 m5),.cells [.fn (.func 128) [] [rf 0,rf 1,rf 7]],.cells [vb b7x0]] (.d (.agg [(di res.1.needs.e0),(di res.1.needs.e1),(di res.1.next)])) [.cells [.d (L66 b0x0)],.cells [.fn (.func 127) [] [rf 2,rf 3]],.cells [.fn (.func 131) [] [rf 3,rf 4,rf 6]],.cells [vi b3x0,.d (L91 b3x1)],.cells [.mp 5],.map (mpo212x216 res.2),.cells [.fn (.func 128) [] [rf 0,rf 1,rf 7]],.cells [vb b7x0]]:=by
 intro fuel
 induction fuel with
 | zero=>intro _ _ _ _ _ _ _ _ _ h;exact absurd h (by simp [F128])
 | succ n ih=>intro _ _ _ _ _ _ _ _ _ h;exact ct128B (fun _ _ _ _ _ _ _ _ _ h=>ih h) h
theorem ct58 {fuel:Nat}  {p_r:S_api_CvRow} {passes:Bool} {res:(List Int)×Int×Int×Int} (h:F58 fuel p_r passes=some res):PCall Tryz.prog 58 [(.agg [(di p_r.Steep),(L91 p_r.Points)]),(db passes)] (.tup [.d (L3 res.1),vi res.2.1,vi res.2.2.1,vi res.2.2.2]):=by
 refine PCall.of_awp tt_ok (N:=73) Tryz.func58 rfl (by kernel_rfl) rfl (Nat.le_of_ble_eq_true rfl) rfl ?_
 unfold F58 at h
 refine EN ?_
 refine R0 ?_
 refine awp_seq ?_
 obtain ⟨x1,hx1,h⟩:=ob h
 refine RT (.n 1 (.pc (ct63 hx1) .nil)) ?_
 refine R0 ?_
 refine cd h (fun hb2 h=>?_) (fun hb2 h=>?_)
 ·refine R0 ?_
  obtain rfl:=oi h
  refine WA 2 [(4,.d dnil),(5,vi 0),(6,vi 0),(7,vi x1.2.2)] [.cells [vi p_r.Steep,.d (L91 p_r.Points)],.cells [vb passes]] ?_
  refine awp_laxT 4 _ (L3 ([]:List Int)) _ (by kernel_rfl) (.nil (e:=1)) rfl ?_
  refine WA 2 [(4,.d (L3 ([]:List Int))),(5,vi 0),(6,vi 0),(7,vi x1.2.2)] [.cells [vi p_r.Steep,.d (L91 p_r.Points)],.cells [vb passes]] ?_
  exact awp_ret gm
 ·refine awp_skip ?_
  show awp ..
  refine R0 ?_
  obtain ⟨x3,hx3,h⟩:=ob h
  refine RT (.n 1 (.pc (ct64 hx3) .nil)) ?_
  refine awp_seq (R0 ?_)
  refine cd h (fun hb4 h=>?_) (fun hb4 h=>?_)
  ·refine R0 ?_
   obtain rfl:=oi h
   refine WA 4 [(4,.d dnil),(5,vi 0),(6,vi 0),(7,vi 9)] [.cells [vi p_r.Steep,.d (L91 p_r.Points)],.cells [vb passes],.cells [vi p_r.Steep,.d (L91 p_r.Points)],.cells [.d (L66 x3.1)]] ?_
   refine awp_laxT 4 _ (L3 ([]:List Int)) _ (by kernel_rfl) (.nil (e:=1)) rfl ?_
   refine WA 4 [(4,.d (L3 ([]:List Int))),(5,vi 0),(6,vi 0),(7,vi 9)] [.cells [vi p_r.Steep,.d (L91 p_r.Points)],.cells [vb passes],.cells [vi p_r.Steep,.d (L91 p_r.Points)],.cells [.d (L66 x3.1)]] ?_
   exact awp_ret gm
  ·refine awp_skip ?_
   show awp ..
   refine R0 ?_
   refine R0 ?_
   refine R0 ?_
   refine R0 ?_
   refine R0 ?_
   obtain ⟨x5,hx5,h⟩:=ob h
   refine RT (.n 2 (.hc [(3,false),(7,false),(6,false),(0,false),(5,false),(4,false),(8,false),(1,false)] (ct128 hx5) .nil)) ?_
   refine R0 ?_
   refine WA 11 [(2,rf 0),(4,.d dnil),(12,rf 6),(15,rf 9),(16,rf 10)] [.cells [vi p_r.Steep,.d (L91 p_r.Points)],.cells [vb passes],.cells [vi p_r.Steep,.d (L91 p_r.Points)],.cells [.d (L66 x3.1)],.map (mpo212x216 x5.2),.cells [.mp 4],.cells [.fn (.func 131) [] [rf 0,rf 5,rf 8]],.cells [.fn (.func 127) [] [rf 6,rf 0]],.cells [.fn (.func 128) [] [rf 3,rf 7,rf 1]],.cells [vi x5.1.needs.e0,vi x5.1.needs.e1,vi x5.1.next],.cells [vi 0,vi x5.1.next]] ?_
   refine awp_nil 4 1 (by kernel_rfl) ?_
   refine awp_eq (T':=[(4,.sl 1 11 0 ([]:List Int).length),(2,rf 0),(12,rf 6),(15,rf 9),(16,rf 10)]) (H':=[.cells [vi p_r.Steep,.d (L91 p_r.Points)],.cells [vb passes],.cells [vi p_r.Steep,.d (L91 p_r.Points)],.cells [.d (L66 x3.1)],.map (mpo212x216 x5.2),.cells [.mp 4],.cells [.fn (.func 131) [] [rf 0,rf 5,rf 8]],.cells [.fn (.func 127) [] [rf 6,rf 0]],.cells [.fn (.func 128) [] [rf 3,rf 7,rf 1]],.cells [vi x5.1.needs.e0,vi x5.1.needs.e1,vi x5.1.next],.cells [vi 0,vi x5.1.next],.data (([]:List Int).flatMap cel3)]) (by kernel_rfl) (by kernel_rfl) ?_
   refine WA 12 [(2,rf 0),(4,.sl 1 11 0 ([]:List Int).length),(12,rf 6),(15,rf 9),(16,rf 10)] [.cells [vi p_r.Steep,.d (L91 p_r.Points)],.cells [vb passes],.cells [vi p_r.Steep,.d (L91 p_r.Points)],.cells [.d (L66 x3.1)],.map (mpo212x216 x5.2),.cells [.mp 4],.cells [.fn (.func 131) [] [rf 0,rf 5,rf 8]],.cells [.fn (.func 127) [] [rf 6,rf 0]],.cells [.fn (.func 128) [] [rf 3,rf 7,rf 1]],.cells [vi x5.1.needs.e0,vi x5.1.needs.e1,vi x5.1.next],.cells [vi 0,vi x5.1.next],.data (([]:List Int).flatMap cel3)] ?_
   obtain ⟨o7,ho7,h⟩:=ob h
   refine awp_cut1 (OutQ (fun (ro7:(List Int)×Int×Int×Int)=>[(4,.d (L3 ro7.1)),(5,vi ro7.2.1),(6,vi ro7.2.2.1),(7,vi ro7.2.2.2)]) (fun (ro7:(List Int)×Int×Int×Int)=>[]) (fun (_:Unit)=>[]) (fun (_:Unit)=>[]) o7) ?_ ?_
   ·clear h
    have h:=ho7
    clear ho7
    refine awp_selQ (EN ?_)
    refine LP 12 [2,4,12,15,16] (F58L1 fuel p_r passes x3 x5) o7 (fun (c8:(List (S_carve_state×S_carve_rest))×Int×Int×(List Int))=>pr [(2,rf 0),(4,.sl 1 11 0 c8.2.2.2.length),(12,rf 6),(15,rf 9),(16,rf 10)] [.cells [vi p_r.Steep,.d (L91 p_r.Points)],.cells [vb passes],.cells [vi p_r.Steep,.d (L91 p_r.Points)],.cells [.d (L66 x3.1)],.map (mpo212x216 c8.1),.cells [.mp 4],.cells [.fn (.func 131) [] [rf 0,rf 5,rf 8]],.cells [.fn (.func 127) [] [rf 6,rf 0]],.cells [.fn (.func 128) [] [rf 3,rf 7,rf 1]],.cells [vi x5.1.needs.e0,vi x5.1.needs.e1,vi x5.1.next],.cells [vi c8.2.1,vi c8.2.2.1],.data (c8.2.2.2.flatMap cel3)]) fuel (x5.2,0,x5.1.next,([]:List Int)) h (fun _=>rfl) ?_
    clear h
    intro n9 c8 h hrn9
    rw [F58L1] at h
    refine awp_seq (awp_block ?_)
    obtain ⟨x10,hx10,h⟩:=ob h
    refine RT (.n 4 (.p (show AppendOk ((c8.2.2.2.flatMap cel3).map .d) c8.2.2.2.length ([c8.2.2.1]:List Int).length (c8.2.2.2++([c8.2.2.1]:List Int)).length 1 8 (([c8.2.2.1]:List Int).flatMap cel3) ((c8.2.2.2++([c8.2.2.1]:List Int)).flatMap cel3) from appendOk cel3_len (need_of hx10)) (.h (.list (c8.2.2.2++([c8.2.2.1]:List Int)).length ((c8.2.2.2++([c8.2.2.1]:List Int)).flatMap cel3)) .nil))) ?_
    refine R0 ?_
    refine cd h (fun hb11 h=>?_) (fun hb11 h=>?_)
    ·refine DT 9 (.n 2 (.p (by decide:0≤(0:Int)∧(0:Int)<(2:Int)) (.n 1 (.n 2 (.p (by decide:0≤(1:Int)∧(1:Int)<(2:Int)) (.n 1 .nil)))))) ?_
     obtain rfl:=oi h
     refine WA 12 [(4,.sl 1 11 0 (c8.2.2.2++([c8.2.2.1]:List Int)).length),(5,vi x5.1.needs.e0),(6,vi x5.1.needs.e1),(7,vi 0)] [.cells [vi p_r.Steep,.d (L91 p_r.Points)],.cells [vb passes],.cells [vi p_r.Steep,.d (L91 p_r.Points)],.cells [.d (L66 x3.1)],.map (mpo212x216 c8.1),.cells [.mp 4],.cells [.fn (.func 131) [] [rf 0,rf 5,rf 8]],.cells [.fn (.func 127) [] [rf 6,rf 0]],.cells [.fn (.func 128) [] [rf 3,rf 7,rf 1]],.cells [vi x5.1.needs.e0,vi x5.1.needs.e1,vi x5.1.next],.cells [vi c8.2.1,vi c8.2.2.1],.data ((c8.2.2.2++([c8.2.2.1]:List Int)).flatMap cel3)] ?_
     refine awp_freeze 4 11 ((c8.2.2.2++([c8.2.2.1]:List Int)).flatMap cel3) (.sl 1 11 0 (c8.2.2.2++([c8.2.2.1]:List Int)).length) (.d (L3 (c8.2.2.2++([c8.2.2.1]:List Int)))) _ _ (ps:=[((c8.2.2.2++([c8.2.2.1]:List Int)).flatMap cel3).length=(c8.2.2.2++([c8.2.2.1]:List Int)).length*1]) (by kernel_rfl) (by kernel_rfl) (by kernel_rfl) (flatMap_len cel3 1 cel3_len (c8.2.2.2++([c8.2.2.1]:List Int))) rfl rfl ?_
     refine WA 12 [(4,.d (L3 (c8.2.2.2++([c8.2.2.1]:List Int)))),(5,vi x5.1.needs.e0),(6,vi x5.1.needs.e1),(7,vi 0)] [.cells [vi p_r.Steep,.d (L91 p_r.Points)],.cells [vb passes],.cells [vi p_r.Steep,.d (L91 p_r.Points)],.cells [.d (L66 x3.1)],.map (mpo212x216 c8.1),.cells [.mp 4],.cells [.fn (.func 131) [] [rf 0,rf 5,rf 8]],.cells [.fn (.func 127) [] [rf 6,rf 0]],.cells [.fn (.func 128) [] [rf 3,rf 7,rf 1]],.cells [vi x5.1.needs.e0,vi x5.1.needs.e1,vi x5.1.next],.cells [vi c8.2.1,vi c8.2.2.1],.data (([]:List Int).flatMap cel3)] ?_
     exact awp_ret (gs [] [4,5,6,7] OutQ.ret)
    ·refine awp_skip ?_
     show awp ..
     refine awp_seq (R0 ?_)
     refine X0 ?_
     show awp ..
     obtain ⟨x12,hx12,h⟩:=ob h
     refine ET 7 (.n 5 (.hc [(0,false),(5,false),(4,false),(8,false),(3,false),(7,false),(6,false),(1,false)] (ct131 (fun _ _ _ _ _ _ _ _ _ h=>ct128 h) hx12) .nil)) ?_
     exact awpN_sel [0,1,2,3,4,5,6,7,8,9,12,11] [2,4,12,15,16] _ _ (by kernel_rfl) (by kernel_rfl) (by kernel_rfl) (hrn9 (x12.2,(w64 (c8.2.1+1)),x12.1.next,(c8.2.2.2++([c8.2.2.1]:List Int))) h)
   ·intro e T H hq
    cases o7 with
    | inl ro7 =>
     obtain ⟨rfl,rfl,rfl⟩:=hq
     rw [outK_inl] at h
     obtain rfl:=oi h
     exact gm
    | inr so7 =>
     rw [outK_inr] at h
     exact absurd h (by simp)
theorem ct59   {res:S_api_CvRow} (h:F59=some res):PCall Tryz.prog 59 [] (.d (.agg [(di res.Steep),(L91 res.Points)])):=by
 refine PCall.of_awp tt_ok (N:=5) Tryz.func59 rfl (by kernel_rfl) rfl (Nat.le_of_ble_eq_true rfl) rfl ?_
 unfold F59 at h
 refine EN ?_
 refine R0 ?_
 refine R0 ?_
 obtain rfl:=oi h
 exact awp_ret gm
theorem ct60  {lo:Int} {hi:Int} {res:S_api_Span} (h:F60 lo hi=some res):PCall Tryz.prog 60 [(di lo),(di hi)] (.d (.agg [(di res.Lo),(di res.Hi)])):=by
 refine PCall.of_awp tt_ok (N:=8) Tryz.func60 rfl (by kernel_rfl) rfl (Nat.le_of_ble_eq_true rfl) rfl ?_
 unfold F60 at h
 refine EN ?_
 refine R0 ?_
 refine R0 ?_
 obtain rfl:=oi h
 exact awp_ret gm
theorem ct61 {fuel:Nat}  {p_a:(List S_api_CvPass)} {p_b:(List S_api_CvPass)} {res:Bool} (h:F61 fuel p_a p_b=some res):PCall Tryz.prog 61 [(L114 p_a),(L114 p_b)] (vb res):=by
 refine PCall.of_awp tt_ok (N:=26) Tryz.func61 rfl (by kernel_rfl) rfl (Nat.le_of_ble_eq_true rfl) rfl ?_
 unfold F61 at h
 refine EN ?_
 refine R0 ?_
 refine awp_seq (R0 ?_)
 refine cd h (fun hb1 h=>?_) (fun hb1 h=>?_)
 ·refine R0 ?_
  obtain rfl:=oi h
  exact awp_ret gm
 ·refine awp_skip ?_
  show awp ..
  refine awp_seq (R0 ?_)
  refine cuo h (fun (ro2:Bool)=>[(4,vb ro2)]) (fun (ro2:Bool)=>[]) (fun (so2:Unit)=>[]) (fun (so2:Unit)=>[]) (fun o2 h=>?_) (fun ro2 h=>?_) (fun so2 h=>?_)
  ·refine awp_selQ (LP 0 [0,1,5] (F61L1 p_a p_b) o2 (fun (c3:Int)=>pr [(0,.d (L114 p_a)),(1,.d (L114 p_b)),(5,vi c3)] []) fuel 0 h (fun _=>rfl) ?_)
   clear h
   intro n4 c3 h hrn4
   rw [F61L1] at h
   refine awp_seq (R0 ?_)
   refine cd h (fun hb5 h=>?_) (fun hb5 h=>?_)
   ·refine awp_skip ?_
    show awp ..
    refine awp_seq (awp_block ?_)
    obtain ⟨x6,hx6,h⟩:=ob h
    obtain ⟨x7,hx7,h⟩:=ob h
    refine DT 8 (.n 2 (.ix (idxOk cel114_len hx6) (.n 3 (.ix (idxOk cel114_len hx7) .nil)))) ?_
    refine cd h (fun hb8 h=>?_) (fun hb8 h=>?_)
    ·refine R0 ?_
     obtain rfl:=oi h
     exact awp_ret (gs [] [4] OutQ.ret)
    ·refine awp_skip ?_
     show awp ..
     refine X0 ?_
     exact gn 0 [0,1,5] (hrn4 _ h)
   ·refine awp_exit ?_
    obtain rfl:=oi h
    exact gs [] [] OutQ.norm
  ·obtain rfl:=oi h
   exact gm
  ·show awp ..
   refine EN ?_
   refine R0 ?_
   obtain rfl:=oi h
   exact awp_ret gm
theorem ct8 {fuel:Nat}   {res:Bool} (h:F8 fuel=some res):PCall Tryz.prog 8 [] (vb res):=by
 refine PCall.of_awp tt_ok (N:=206) Tryz.func8 rfl (by kernel_rfl) rfl (Nat.le_of_ble_eq_true rfl) rfl ?_
 unfold F8 at h
 refine EN ?_
 refine R0 ?_
 obtain ⟨x1,hx1,h⟩:=ob h
 refine RT (.pc (ct51 hx1) .nil) ?_
 obtain ⟨x2,hx2,h⟩:=ob h
 refine RT (.n 2 (.pc (ct52 hx2) .nil)) ?_
 obtain ⟨x3,hx3,h⟩:=ob h
 refine RT (.n 1 (.pc (ct11 hx3) .nil)) ?_
 obtain ⟨x4,hx4,h⟩:=ob h
 obtain ⟨x5,hx5,h⟩:=ob h
 refine RT (.pc (ct51 hx4) (.pc (ct53 hx5) .nil)) ?_
 obtain ⟨x6,hx6,h⟩:=ob h
 refine RT (.n 1 (.pc (ct13 hx6) .nil)) ?_
 obtain ⟨x7,hx7,h⟩:=ob h
 refine RT (.n 2 (.pc (ct54 hx7) .nil)) ?_
 obtain ⟨x8,hx8,h⟩:=ob h
 refine RT (.n 2 (.pc (ct55 hx8) .nil)) ?_
 obtain ⟨x9,hx9,h⟩:=ob h
 obtain ⟨x10,hx10,h⟩:=ob h
 obtain ⟨x11,hx11,h⟩:=ob h
 refine DT 9 (.n 1 (.pc (ct57 hx9) (.pc (ct57 hx10) (.n 1 (.pc (ct56 hx11) .nil))))) ?_
 obtain ⟨x12,hx12,h⟩:=ob h
 refine RT (.n 1 (.pc (ct58 hx12) .nil)) ?_
 obtain ⟨x13,hx13,h⟩:=ob h
 obtain ⟨x14,hx14,h⟩:=ob h
 refine RT (.pc (ct59 hx13) (.pc (ct58 hx14) .nil)) ?_
 obtain ⟨x15,hx15,h⟩:=ob h
 obtain ⟨x16,hx16,h⟩:=ob h
 refine RT (.pc (ct51 hx15) (.pc (ct11 hx16) .nil)) ?_
 refine WA 1 [(2,vi x2.1),(3,vi x2.2.1),(4,vi x2.2.2),(5,.d (L66 x3.1)),(6,vi x3.2),(7,vi x5.1),(8,vi x5.2.1),(9,vi x5.2.2),(10,vi x6.1),(11,vi x6.2),(12,vi x7.1),(13,vi x7.2),(14,.d (L114 x8.1)),(15,vi x8.2),(16,.d (L3 x11.1)),(17,vi x11.2),(18,.d (L3 x12.1)),(19,vi x12.2.1),(20,vi x12.2.2.1),(21,vi x12.2.2.2),(22,.d (L3 x14.1)),(23,vi x14.2.1),(24,vi x14.2.2.1),(25,vi x14.2.2.2),(27,vi x16.2)] [.cells [vi x1.Steep,.d (L91 x1.Points)]] ?_
 obtain ⟨x17,hx17,h⟩:=ob h
 obtain ⟨x18,hx18,h⟩:=ob h
 obtain ⟨x19,hx19,h⟩:=ob h
 obtain ⟨x20,hx20,h⟩:=ob h
 obtain ⟨x21,hx21,h⟩:=ob h
 obtain ⟨x22,hx22,h⟩:=ob h
 obtain ⟨x23,hx23,h⟩:=ob h
 obtain ⟨x24,hx24,h⟩:=ob h
 obtain ⟨x25,hx25,h⟩:=ob h
 obtain ⟨x26,hx26,h⟩:=ob h
 obtain ⟨x27,hx27,h⟩:=ob h
 obtain ⟨x28,hx28,h⟩:=ob h
 obtain ⟨x29,hx29,h⟩:=ob h
 obtain ⟨x30,hx30,h⟩:=ob h
 obtain ⟨x31,hx31,h⟩:=ob h
 obtain ⟨x32,hx32,h⟩:=ob h
 obtain ⟨x33,hx33,h⟩:=ob h
 refine EN ?_
 refine RT (.n 4 (.p (show ((x2.2.2==0)=true→(x2.2.2==0)=true) from id) (.n 1 (.p (show ((x2.2.2==0)=true→(x2.2.2==0)=true) from id) (.n 1 (.n 2 (.p (show ((cond (x2.2.2==0) (x3.2==0) false)=true→(cond (x2.2.2==0) (x3.2==0) false)=true) from id) (.n 1 (.p (show ((cond (x2.2.2==0) (x3.2==0) false)=true→(cond (x2.2.2==0) (x3.2==0) false)=true) from id) (.n 1 (.n 2 (.p (show ((cond (cond (x2.2.2==0) (x3.2==0) false) (x5.2.2==0) false)=true→(cond (cond (x2.2.2==0) (x3.2==0) false) (x5.2.2==0) false)=true) from id) (.n 1 (.p (show ((cond (cond (x2.2.2==0) (x3.2==0) false) (x5.2.2==0) false)=true→(cond (cond (x2.2.2==0) (x3.2==0) false) (x5.2.2==0) false)=true) from id) (.n 1 (.n 2 (.p (show ((cond (cond (cond (x2.2.2==0) (x3.2==0) false) (x5.2.2==0) false) (x6.2==0) false)=true→(cond (cond (cond (x2.2.2==0) (x3.2==0) false) (x5.2.2==0) false) (x6.2==0) false)=true) from id) (.n 1 (.p (show ((cond (cond (cond (x2.2.2==0) (x3.2==0) false) (x5.2.2==0) false) (x6.2==0) false)=true→(cond (cond (cond (x2.2.2==0) (x3.2==0) false) (x5.2.2==0) false) (x6.2==0) false)=true) from id) (.n 1 (.n 2 (.p (show ((cond (cond (cond (cond (x2.2.2==0) (x3.2==0) false) (x5.2.2==0) false) (x6.2==0) false) (x7.2==0) false)=true→(cond (cond (cond (cond (x2.2.2==0) (x3.2==0) false) (x5.2.2==0) false) (x6.2==0) false) (x7.2==0) false)=true) from id) (.n 1 (.p (show ((cond (cond (cond (cond (x2.2.2==0) (x3.2==0) false) (x5.2.2==0) false) (x6.2==0) false) (x7.2==0) false)=true→(cond (cond (cond (cond (x2.2.2==0) (x3.2==0) false) (x5.2.2==0) false) (x6.2==0) false) (x7.2==0) false)=true) from id) (.n 1 (.n 2 (.p (show ((cond (cond (cond (cond (cond (x2.2.2==0) (x3.2==0) false) (x5.2.2==0) false) (x6.2==0) false) (x7.2==0) false) (x8.2==0) false)=true→(cond (cond (cond (cond (cond (x2.2.2==0) (x3.2==0) false) (x5.2.2==0) false) (x6.2==0) false) (x7.2==0) false) (x8.2==0) false)=true) from id) (.n 1 (.p (show ((cond (cond (cond (cond (cond (x2.2.2==0) (x3.2==0) false) (x5.2.2==0) false) (x6.2==0) false) (x7.2==0) false) (x8.2==0) false)=true→(cond (cond (cond (cond (cond (x2.2.2==0) (x3.2==0) false) (x5.2.2==0) false) (x6.2==0) false) (x7.2==0) false) (x8.2==0) false)=true) from id) (.n 1 (.n 2 (.p (show ((cond (cond (cond (cond (cond (cond (x2.2.2==0) (x3.2==0) false) (x5.2.2==0) false) (x6.2==0) false) (x7.2==0) false) (x8.2==0) false) (x11.2==0) false)=true→(cond (cond (cond (cond (cond (cond (x2.2.2==0) (x3.2==0) false) (x5.2.2==0) false) (x6.2==0) false) (x7.2==0) false) (x8.2==0) false) (x11.2==0) false)=true) from id) (.n 1 (.p (show ((cond (cond (cond (cond (cond (cond (x2.2.2==0) (x3.2==0) false) (x5.2.2==0) false) (x6.2==0) false) (x7.2==0) false) (x8.2==0) false) (x11.2==0) false)=true→(cond (cond (cond (cond (cond (cond (x2.2.2==0) (x3.2==0) false) (x5.2.2==0) false) (x6.2==0) false) (x7.2==0) false) (x8.2==0) false) (x11.2==0) false)=true) from id) (.n 1 (.n 2 (.p (show ((cond (cond (cond (cond (cond (cond (cond (x2.2.2==0) (x3.2==0) false) (x5.2.2==0) false) (x6.2==0) false) (x7.2==0) false) (x8.2==0) false) (x11.2==0) false) (x12.2.2.2==0) false)=true→(cond (cond (cond (cond (cond (cond (cond (x2.2.2==0) (x3.2==0) false) (x5.2.2==0) false) (x6.2==0) false) (x7.2==0) false) (x8.2==0) false) (x11.2==0) false) (x12.2.2.2==0) false)=true) from id) (.n 1 (.p (show ((cond (cond (cond (cond (cond (cond (cond (x2.2.2==0) (x3.2==0) false) (x5.2.2==0) false) (x6.2==0) false) (x7.2==0) false) (x8.2==0) false) (x11.2==0) false) (x12.2.2.2==0) false)=true→(cond (cond (cond (cond (cond (cond (cond (x2.2.2==0) (x3.2==0) false) (x5.2.2==0) false) (x6.2==0) false) (x7.2==0) false) (x8.2==0) false) (x11.2==0) false) (x12.2.2.2==0) false)=true) from id) (.n 1 (.n 2 (.p (show ((cond (cond (cond (cond (cond (cond (cond (cond (x2.2.2==0) (x3.2==0) false) (x5.2.2==0) false) (x6.2==0) false) (x7.2==0) false) (x8.2==0) false) (x11.2==0) false) (x12.2.2.2==0) false) (x14.2.2.2==0) false)=true→(cond (cond (cond (cond (cond (cond (cond (cond (x2.2.2==0) (x3.2==0) false) (x5.2.2==0) false) (x6.2==0) false) (x7.2==0) false) (x8.2==0) false) (x11.2==0) false) (x12.2.2.2==0) false) (x14.2.2.2==0) false)=true) from id) (.n 1 (.p (show ((cond (cond (cond (cond (cond (cond (cond (cond (x2.2.2==0) (x3.2==0) false) (x5.2.2==0) false) (x6.2==0) false) (x7.2==0) false) (x8.2==0) false) (x11.2==0) false) (x12.2.2.2==0) false) (x14.2.2.2==0) false)=true→(cond (cond (cond (cond (cond (cond (cond (cond (x2.2.2==0) (x3.2==0) false) (x5.2.2==0) false) (x6.2==0) false) (x7.2==0) false) (x8.2==0) false) (x11.2==0) false) (x12.2.2.2==0) false) (x14.2.2.2==0) false)=true) from id) (.n 1 (.n 2 (.p (show ((cond (cond (cond (cond (cond (cond (cond (cond (cond (x2.2.2==0) (x3.2==0) false) (x5.2.2==0) false) (x6.2==0) false) (x7.2==0) false) (x8.2==0) false) (x11.2==0) false) (x12.2.2.2==0) false) (x14.2.2.2==0) false) (x16.2==9) false)=true→(cond (cond (cond (cond (cond (cond (cond (cond (cond (x2.2.2==0) (x3.2==0) false) (x5.2.2==0) false) (x6.2==0) false) (x7.2==0) false) (x8.2==0) false) (x11.2==0) false) (x12.2.2.2==0) false) (x14.2.2.2==0) false) (x16.2==9) false)=true) from id) (.n 1 (.p (show ((cond (cond (cond (cond (cond (cond (cond (cond (cond (x2.2.2==0) (x3.2==0) false) (x5.2.2==0) false) (x6.2==0) false) (x7.2==0) false) (x8.2==0) false) (x11.2==0) false) (x12.2.2.2==0) false) (x14.2.2.2==0) false) (x16.2==9) false)=true→(cond (cond (cond (cond (cond (cond (cond (cond (cond (x2.2.2==0) (x3.2==0) false) (x5.2.2==0) false) (x6.2==0) false) (x7.2==0) false) (x8.2==0) false) (x11.2==0) false) (x12.2.2.2==0) false) (x14.2.2.2==0) false) (x16.2==9) false)=true) from id) (.n 1 (.n 2 (.p (show ((cond (cond (cond (cond (cond (cond (cond (cond (cond (cond (x2.2.2==0) (x3.2==0) false) (x5.2.2==0) false) (x6.2==0) false) (x7.2==0) false) (x8.2==0) false) (x11.2==0) false) (x12.2.2.2==0) false) (x14.2.2.2==0) false) (x16.2==9) false) (x2.1==3) false)=true→(cond (cond (cond (cond (cond (cond (cond (cond (cond (cond (x2.2.2==0) (x3.2==0) false) (x5.2.2==0) false) (x6.2==0) false) (x7.2==0) false) (x8.2==0) false) (x11.2==0) false) (x12.2.2.2==0) false) (x14.2.2.2==0) false) (x16.2==9) false) (x2.1==3) false)=true) from id) (.n 1 (.p (show ((cond (cond (cond (cond (cond (cond (cond (cond (cond (cond (x2.2.2==0) (x3.2==0) false) (x5.2.2==0) false) (x6.2==0) false) (x7.2==0) false) (x8.2==0) false) (x11.2==0) false) (x12.2.2.2==0) false) (x14.2.2.2==0) false) (x16.2==9) false) (x2.1==3) false)=true→(cond (cond (cond (cond (cond (cond (cond (cond (cond (cond (x2.2.2==0) (x3.2==0) false) (x5.2.2==0) false) (x6.2==0) false) (x7.2==0) false) (x8.2==0) false) (x11.2==0) false) (x12.2.2.2==0) false) (x14.2.2.2==0) false) (x16.2==9) false) (x2.1==3) false)=true) from id) (.n 1 (.n 2 (.p (show ((cond (cond (cond (cond (cond (cond (cond (cond (cond (cond (cond (x2.2.2==0) (x3.2==0) false) (x5.2.2==0) false) (x6.2==0) false) (x7.2==0) false) (x8.2==0) false) (x11.2==0) false) (x12.2.2.2==0) false) (x14.2.2.2==0) false) (x16.2==9) false) (x2.1==3) false) (x2.2.1==3) false)=true→PCall Tryz.prog 60 [(di 7),(di 8)] (.d (.agg [(di x17.Lo),(di x17.Hi)]))) from (fun hg=>ct60 (optG_of hx17 hg))) (.h (.call [(di 7),(di 8)] (.d (.agg [(di x17.Lo),(di x17.Hi)]))) (.p (show ((cond (cond (cond (cond (cond (cond (cond (cond (cond (cond (cond (x2.2.2==0) (x3.2==0) false) (x5.2.2==0) false) (x6.2==0) false) (x7.2==0) false) (x8.2==0) false) (x11.2==0) false) (x12.2.2.2==0) false) (x14.2.2.2==0) false) (x16.2==9) false) (x2.1==3) false) (x2.2.1==3) false)=true→PCall Tryz.prog 60 [(di 9),(di 10)] (.d (.agg [(di x18.Lo),(di x18.Hi)]))) from (fun hg=>ct60 (optG_of hx18 hg))) (.h (.call [(di 9),(di 10)] (.d (.agg [(di x18.Lo),(di x18.Hi)]))) (.p (show ((cond (cond (cond (cond (cond (cond (cond (cond (cond (cond (cond (x2.2.2==0) (x3.2==0) false) (x5.2.2==0) false) (x6.2==0) false) (x7.2==0) false) (x8.2==0) false) (x11.2==0) false) (x12.2.2.2==0) false) (x14.2.2.2==0) false) (x16.2==9) false) (x2.1==3) false) (x2.2.1==3) false)=true→PCall Tryz.prog 60 [(di 7),(di 8)] (.d (.agg [(di x19.Lo),(di x19.Hi)]))) from (fun hg=>ct60 (optG_of hx19 hg))) (.h (.call [(di 7),(di 8)] (.d (.agg [(di x19.Lo),(di x19.Hi)]))) (.p (show ((cond (cond (cond (cond (cond (cond (cond (cond (cond (cond (cond (x2.2.2==0) (x3.2==0) false) (x5.2.2==0) false) (x6.2==0) false) (x7.2==0) false) (x8.2==0) false) (x11.2==0) false) (x12.2.2.2==0) false) (x14.2.2.2==0) false) (x16.2==9) false) (x2.1==3) false) (x2.2.1==3) false)=true→PCall Tryz.prog 60 [(di 5),(di 6)] (.d (.agg [(di x20.Lo),(di x20.Hi)]))) from (fun hg=>ct60 (optG_of hx20 hg))) (.h (.call [(di 5),(di 6)] (.d (.agg [(di x20.Lo),(di x20.Hi)]))) (.p (show ((cond (cond (cond (cond (cond (cond (cond (cond (cond (cond (cond (x2.2.2==0) (x3.2==0) false) (x5.2.2==0) false) (x6.2==0) false) (x7.2==0) false) (x8.2==0) false) (x11.2==0) false) (x12.2.2.2==0) false) (x14.2.2.2==0) false) (x16.2==9) false) (x2.1==3) false) (x2.2.1==3) false)=true→(cond (cond (cond (cond (cond (cond (cond (cond (cond (cond (cond (x2.2.2==0) (x3.2==0) false) (x5.2.2==0) false) (x6.2==0) false) (x7.2==0) false) (x8.2==0) false) (x11.2==0) false) (x12.2.2.2==0) false) (x14.2.2.2==0) false) (x16.2==9) false) (x2.1==3) false) (x2.2.1==3) false)=true) from id) (.p (show ((cond (cond (cond (cond (cond (cond (cond (cond (cond (cond (cond (x2.2.2==0) (x3.2==0) false) (x5.2.2==0) false) (x6.2==0) false) (x7.2==0) false) (x8.2==0) false) (x11.2==0) false) (x12.2.2.2==0) false) (x14.2.2.2==0) false) (x16.2==9) false) (x2.1==3) false) (x2.2.1==3) false)=true→(cond (cond (cond (cond (cond (cond (cond (cond (cond (cond (cond (x2.2.2==0) (x3.2==0) false) (x5.2.2==0) false) (x6.2==0) false) (x7.2==0) false) (x8.2==0) false) (x11.2==0) false) (x12.2.2.2==0) false) (x14.2.2.2==0) false) (x16.2==9) false) (x2.1==3) false) (x2.2.1==3) false)=true) from id) (.p (show ((cond (cond (cond (cond (cond (cond (cond (cond (cond (cond (cond (x2.2.2==0) (x3.2==0) false) (x5.2.2==0) false) (x6.2==0) false) (x7.2==0) false) (x8.2==0) false) (x11.2==0) false) (x12.2.2.2==0) false) (x14.2.2.2==0) false) (x16.2==9) false) (x2.1==3) false) (x2.2.1==3) false)=true→(cond (cond (cond (cond (cond (cond (cond (cond (cond (cond (cond (x2.2.2==0) (x3.2==0) false) (x5.2.2==0) false) (x6.2==0) false) (x7.2==0) false) (x8.2==0) false) (x11.2==0) false) (x12.2.2.2==0) false) (x14.2.2.2==0) false) (x16.2==9) false) (x2.1==3) false) (x2.2.1==3) false)=true) from id) (.p (show ((cond (cond (cond (cond (cond (cond (cond (cond (cond (cond (cond (x2.2.2==0) (x3.2==0) false) (x5.2.2==0) false) (x6.2==0) false) (x7.2==0) false) (x8.2==0) false) (x11.2==0) false) (x12.2.2.2==0) false) (x14.2.2.2==0) false) (x16.2==9) false) (x2.1==3) false) (x2.2.1==3) false)=true→(cond (cond (cond (cond (cond (cond (cond (cond (cond (cond (cond (x2.2.2==0) (x3.2==0) false) (x5.2.2==0) false) (x6.2==0) false) (x7.2==0) false) (x8.2==0) false) (x11.2==0) false) (x12.2.2.2==0) false) (x14.2.2.2==0) false) (x16.2==9) false) (x2.1==3) false) (x2.2.1==3) false)=true) from id) (.n 1 (.p (show ((cond (cond (cond (cond (cond (cond (cond (cond (cond (cond (cond (x2.2.2==0) (x3.2==0) false) (x5.2.2==0) false) (x6.2==0) false) (x7.2==0) false) (x8.2==0) false) (x11.2==0) false) (x12.2.2.2==0) false) (x14.2.2.2==0) false) (x16.2==9) false) (x2.1==3) false) (x2.2.1==3) false)=true→(cond (cond (cond (cond (cond (cond (cond (cond (cond (cond (cond (x2.2.2==0) (x3.2==0) false) (x5.2.2==0) false) (x6.2==0) false) (x7.2==0) false) (x8.2==0) false) (x11.2==0) false) (x12.2.2.2==0) false) (x14.2.2.2==0) false) (x16.2==9) false) (x2.1==3) false) (x2.2.1==3) false)=true) from id) (.p (show ((cond (cond (cond (cond (cond (cond (cond (cond (cond (cond (cond (x2.2.2==0) (x3.2==0) false) (x5.2.2==0) false) (x6.2==0) false) (x7.2==0) false) (x8.2==0) false) (x11.2==0) false) (x12.2.2.2==0) false) (x14.2.2.2==0) false) (x16.2==9) false) (x2.1==3) false) (x2.2.1==3) false)=true→(cond (cond (cond (cond (cond (cond (cond (cond (cond (cond (cond (x2.2.2==0) (x3.2==0) false) (x5.2.2==0) false) (x6.2==0) false) (x7.2==0) false) (x8.2==0) false) (x11.2==0) false) (x12.2.2.2==0) false) (x14.2.2.2==0) false) (x16.2==9) false) (x2.1==3) false) (x2.2.1==3) false)=true) from id) (.p (show ((cond (cond (cond (cond (cond (cond (cond (cond (cond (cond (cond (x2.2.2==0) (x3.2==0) false) (x5.2.2==0) false) (x6.2==0) false) (x7.2==0) false) (x8.2==0) false) (x11.2==0) false) (x12.2.2.2==0) false) (x14.2.2.2==0) false) (x16.2==9) false) (x2.1==3) false) (x2.2.1==3) false)=true→PCall Tryz.prog 15 [(L66 x3.1),(L66 ([(⟨x17.Lo,x17.Hi⟩:S_api_Span),(⟨x18.Lo,x18.Hi⟩:S_api_Span),(⟨x19.Lo,x19.Hi⟩:S_api_Span),(⟨x20.Lo,x20.Hi⟩:S_api_Span)]:List S_api_Span))] (vb x21)) from (fun hg=>ct15 (optG_of hx21 hg))) (.h (.call [(L66 x3.1),(L66 ([(⟨x17.Lo,x17.Hi⟩:S_api_Span),(⟨x18.Lo,x18.Hi⟩:S_api_Span),(⟨x19.Lo,x19.Hi⟩:S_api_Span),(⟨x20.Lo,x20.Hi⟩:S_api_Span)]:List S_api_Span))] (vb x21)) (.p (show ((cond (cond (cond (cond (cond (cond (cond (cond (cond (cond (cond (x2.2.2==0) (x3.2==0) false) (x5.2.2==0) false) (x6.2==0) false) (x7.2==0) false) (x8.2==0) false) (x11.2==0) false) (x12.2.2.2==0) false) (x14.2.2.2==0) false) (x16.2==9) false) (x2.1==3) false) (x2.2.1==3) false)=true→(cond (cond (cond (cond (cond (cond (cond (cond (cond (cond (cond (x2.2.2==0) (x3.2==0) false) (x5.2.2==0) false) (x6.2==0) false) (x7.2==0) false) (x8.2==0) false) (x11.2==0) false) (x12.2.2.2==0) false) (x14.2.2.2==0) false) (x16.2==9) false) (x2.1==3) false) (x2.2.1==3) false)=true) from id) (.n 1 (.n 2 (.p (show ((cond (cond (cond (cond (cond (cond (cond (cond (cond (cond (cond (cond (x2.2.2==0) (x3.2==0) false) (x5.2.2==0) false) (x6.2==0) false) (x7.2==0) false) (x8.2==0) false) (x11.2==0) false) (x12.2.2.2==0) false) (x14.2.2.2==0) false) (x16.2==9) false) (x2.1==3) false) (x2.2.1==3) false) x21 false)=true→(cond (cond (cond (cond (cond (cond (cond (cond (cond (cond (cond (cond (x2.2.2==0) (x3.2==0) false) (x5.2.2==0) false) (x6.2==0) false) (x7.2==0) false) (x8.2==0) false) (x11.2==0) false) (x12.2.2.2==0) false) (x14.2.2.2==0) false) (x16.2==9) false) (x2.1==3) false) (x2.2.1==3) false) x21 false)=true) from id) (.n 1 (.p (show ((cond (cond (cond (cond (cond (cond (cond (cond (cond (cond (cond (cond (x2.2.2==0) (x3.2==0) false) (x5.2.2==0) false) (x6.2==0) false) (x7.2==0) false) (x8.2==0) false) (x11.2==0) false) (x12.2.2.2==0) false) (x14.2.2.2==0) false) (x16.2==9) false) (x2.1==3) false) (x2.2.1==3) false) x21 false)=true→(cond (cond (cond (cond (cond (cond (cond (cond (cond (cond (cond (cond (x2.2.2==0) (x3.2==0) false) (x5.2.2==0) false) (x6.2==0) false) (x7.2==0) false) (x8.2==0) false) (x11.2==0) false) (x12.2.2.2==0) false) (x14.2.2.2==0) false) (x16.2==9) false) (x2.1==3) false) (x2.2.1==3) false) x21 false)=true) from id) (.n 1 (.n 2 (.p (show ((cond (cond (cond (cond (cond (cond (cond (cond (cond (cond (cond (cond (cond (x2.2.2==0) (x3.2==0) false) (x5.2.2==0) false) (x6.2==0) false) (x7.2==0) false) (x8.2==0) false) (x11.2==0) false) (x12.2.2.2==0) false) (x14.2.2.2==0) false) (x16.2==9) false) (x2.1==3) false) (x2.2.1==3) false) x21 false) (x5.1==1) false)=true→(cond (cond (cond (cond (cond (cond (cond (cond (cond (cond (cond (cond (cond (x2.2.2==0) (x3.2==0) false) (x5.2.2==0) false) (x6.2==0) false) (x7.2==0) false) (x8.2==0) false) (x11.2==0) false) (x12.2.2.2==0) false) (x14.2.2.2==0) false) (x16.2==9) false) (x2.1==3) false) (x2.2.1==3) false) x21 false) (x5.1==1) false)=true) from id) (.n 1 (.p (show ((cond (cond (cond (cond (cond (cond (cond (cond (cond (cond (cond (cond (cond (x2.2.2==0) (x3.2==0) false) (x5.2.2==0) false) (x6.2==0) false) (x7.2==0) false) (x8.2==0) false) (x11.2==0) false) (x12.2.2.2==0) false) (x14.2.2.2==0) false) (x16.2==9) false) (x2.1==3) false) (x2.2.1==3) false) x21 false) (x5.1==1) false)=true→(cond (cond (cond (cond (cond (cond (cond (cond (cond (cond (cond (cond (cond (x2.2.2==0) (x3.2==0) false) (x5.2.2==0) false) (x6.2==0) false) (x7.2==0) false) (x8.2==0) false) (x11.2==0) false) (x12.2.2.2==0) false) (x14.2.2.2==0) false) (x16.2==9) false) (x2.1==3) false) (x2.2.1==3) false) x21 false) (x5.1==1) false)=true) from id) (.n 1 (.n 2 (.p (show ((cond (cond (cond (cond (cond (cond (cond (cond (cond (cond (cond (cond (cond (cond (x2.2.2==0) (x3.2==0) false) (x5.2.2==0) false) (x6.2==0) false) (x7.2==0) false) (x8.2==0) false) (x11.2==0) false) (x12.2.2.2==0) false) (x14.2.2.2==0) false) (x16.2==9) false) (x2.1==3) false) (x2.2.1==3) false) x21 false) (x5.1==1) false) (x5.2.1==3) false)=true→(cond (cond (cond (cond (cond (cond (cond (cond (cond (cond (cond (cond (cond (cond (x2.2.2==0) (x3.2==0) false) (x5.2.2==0) false) (x6.2==0) false) (x7.2==0) false) (x8.2==0) false) (x11.2==0) false) (x12.2.2.2==0) false) (x14.2.2.2==0) false) (x16.2==9) false) (x2.1==3) false) (x2.2.1==3) false) x21 false) (x5.1==1) false) (x5.2.1==3) false)=true) from id) (.n 1 (.p (show ((cond (cond (cond (cond (cond (cond (cond (cond (cond (cond (cond (cond (cond (cond (x2.2.2==0) (x3.2==0) false) (x5.2.2==0) false) (x6.2==0) false) (x7.2==0) false) (x8.2==0) false) (x11.2==0) false) (x12.2.2.2==0) false) (x14.2.2.2==0) false) (x16.2==9) false) (x2.1==3) false) (x2.2.1==3) false) x21 false) (x5.1==1) false) (x5.2.1==3) false)=true→(cond (cond (cond (cond (cond (cond (cond (cond (cond (cond (cond (cond (cond (cond (x2.2.2==0) (x3.2==0) false) (x5.2.2==0) false) (x6.2==0) false) (x7.2==0) false) (x8.2==0) false) (x11.2==0) false) (x12.2.2.2==0) false) (x14.2.2.2==0) false) (x16.2==9) false) (x2.1==3) false) (x2.2.1==3) false) x21 false) (x5.1==1) false) (x5.2.1==3) false)=true) from id) (.n 1 (.n 2 (.p (show ((cond (cond (cond (cond (cond (cond (cond (cond (cond (cond (cond (cond (cond (cond (cond (x2.2.2==0) (x3.2==0) false) (x5.2.2==0) false) (x6.2==0) false) (x7.2==0) false) (x8.2==0) false) (x11.2==0) false) (x12.2.2.2==0) false) (x14.2.2.2==0) false) (x16.2==9) false) (x2.1==3) false) (x2.2.1==3) false) x21 false) (x5.1==1) false) (x5.2.1==3) false) (x6.1==2) false)=true→(cond (cond (cond (cond (cond (cond (cond (cond (cond (cond (cond (cond (cond (cond (cond (x2.2.2==0) (x3.2==0) false) (x5.2.2==0) false) (x6.2==0) false) (x7.2==0) false) (x8.2==0) false) (x11.2==0) false) (x12.2.2.2==0) false) (x14.2.2.2==0) false) (x16.2==9) false) (x2.1==3) false) (x2.2.1==3) false) x21 false) (x5.1==1) false) (x5.2.1==3) false) (x6.1==2) false)=true) from id) (.n 1 (.p (show ((cond (cond (cond (cond (cond (cond (cond (cond (cond (cond (cond (cond (cond (cond (cond (x2.2.2==0) (x3.2==0) false) (x5.2.2==0) false) (x6.2==0) false) (x7.2==0) false) (x8.2==0) false) (x11.2==0) false) (x12.2.2.2==0) false) (x14.2.2.2==0) false) (x16.2==9) false) (x2.1==3) false) (x2.2.1==3) false) x21 false) (x5.1==1) false) (x5.2.1==3) false) (x6.1==2) false)=true→(cond (cond (cond (cond (cond (cond (cond (cond (cond (cond (cond (cond (cond (cond (cond (x2.2.2==0) (x3.2==0) false) (x5.2.2==0) false) (x6.2==0) false) (x7.2==0) false) (x8.2==0) false) (x11.2==0) false) (x12.2.2.2==0) false) (x14.2.2.2==0) false) (x16.2==9) false) (x2.1==3) false) (x2.2.1==3) false) x21 false) (x5.1==1) false) (x5.2.1==3) false) (x6.1==2) false)=true) from id) (.n 1 (.n 2 (.p (show ((cond (cond (cond (cond (cond (cond (cond (cond (cond (cond (cond (cond (cond (cond (cond (cond (x2.2.2==0) (x3.2==0) false) (x5.2.2==0) false) (x6.2==0) false) (x7.2==0) false) (x8.2==0) false) (x11.2==0) false) (x12.2.2.2==0) false) (x14.2.2.2==0) false) (x16.2==9) false) (x2.1==3) false) (x2.2.1==3) false) x21 false) (x5.1==1) false) (x5.2.1==3) false) (x6.1==2) false) (x7.1==2) false)=true→PCall Tryz.prog 57 [(di 0),(di 1)] (.d (.agg [(di x22.From),(di x22.To)]))) from (fun hg=>ct57 (optG_of hx22 hg))) (.h (.call [(di 0),(di 1)] (.d (.agg [(di x22.From),(di x22.To)]))) (.p (show ((cond (cond (cond (cond (cond (cond (cond (cond (cond (cond (cond (cond (cond (cond (cond (cond (x2.2.2==0) (x3.2==0) false) (x5.2.2==0) false) (x6.2==0) false) (x7.2==0) false) (x8.2==0) false) (x11.2==0) false) (x12.2.2.2==0) false) (x14.2.2.2==0) false) (x16.2==9) false) (x2.1==3) false) (x2.2.1==3) false) x21 false) (x5.1==1) false) (x5.2.1==3) false) (x6.1==2) false) (x7.1==2) false)=true→PCall Tryz.prog 57 [(di 3),(di 3)] (.d (.agg [(di x23.From),(di x23.To)]))) from (fun hg=>ct57 (optG_of hx23 hg))) (.h (.call [(di 3),(di 3)] (.d (.agg [(di x23.From),(di x23.To)]))) (.p (show ((cond (cond (cond (cond (cond (cond (cond (cond (cond (cond (cond (cond (cond (cond (cond (cond (x2.2.2==0) (x3.2==0) false) (x5.2.2==0) false) (x6.2==0) false) (x7.2==0) false) (x8.2==0) false) (x11.2==0) false) (x12.2.2.2==0) false) (x14.2.2.2==0) false) (x16.2==9) false) (x2.1==3) false) (x2.2.1==3) false) x21 false) (x5.1==1) false) (x5.2.1==3) false) (x6.1==2) false) (x7.1==2) false)=true→PCall Tryz.prog 57 [(di 0),(di 0)] (.d (.agg [(di x24.From),(di x24.To)]))) from (fun hg=>ct57 (optG_of hx24 hg))) (.h (.call [(di 0),(di 0)] (.d (.agg [(di x24.From),(di x24.To)]))) (.p (show ((cond (cond (cond (cond (cond (cond (cond (cond (cond (cond (cond (cond (cond (cond (cond (cond (x2.2.2==0) (x3.2==0) false) (x5.2.2==0) false) (x6.2==0) false) (x7.2==0) false) (x8.2==0) false) (x11.2==0) false) (x12.2.2.2==0) false) (x14.2.2.2==0) false) (x16.2==9) false) (x2.1==3) false) (x2.2.1==3) false) x21 false) (x5.1==1) false) (x5.2.1==3) false) (x6.1==2) false) (x7.1==2) false)=true→PCall Tryz.prog 57 [(di 3),(di 3)] (.d (.agg [(di x25.From),(di x25.To)]))) from (fun hg=>ct57 (optG_of hx25 hg))) (.h (.call [(di 3),(di 3)] (.d (.agg [(di x25.From),(di x25.To)]))) (.p (show ((cond (cond (cond (cond (cond (cond (cond (cond (cond (cond (cond (cond (cond (cond (cond (cond (x2.2.2==0) (x3.2==0) false) (x5.2.2==0) false) (x6.2==0) false) (x7.2==0) false) (x8.2==0) false) (x11.2==0) false) (x12.2.2.2==0) false) (x14.2.2.2==0) false) (x16.2==9) false) (x2.1==3) false) (x2.2.1==3) false) x21 false) (x5.1==1) false) (x5.2.1==3) false) (x6.1==2) false) (x7.1==2) false)=true→PCall Tryz.prog 57 [(di 3),(di 3)] (.d (.agg [(di x26.From),(di x26.To)]))) from (fun hg=>ct57 (optG_of hx26 hg))) (.h (.call [(di 3),(di 3)] (.d (.agg [(di x26.From),(di x26.To)]))) (.p (show ((cond (cond (cond (cond (cond (cond (cond (cond (cond (cond (cond (cond (cond (cond (cond (cond (x2.2.2==0) (x3.2==0) false) (x5.2.2==0) false) (x6.2==0) false) (x7.2==0) false) (x8.2==0) false) (x11.2==0) false) (x12.2.2.2==0) false) (x14.2.2.2==0) false) (x16.2==9) false) (x2.1==3) false) (x2.2.1==3) false) x21 false) (x5.1==1) false) (x5.2.1==3) false) (x6.1==2) false) (x7.1==2) false)=true→PCall Tryz.prog 57 [(di 3),(di 3)] (.d (.agg [(di x27.From),(di x27.To)]))) from (fun hg=>ct57 (optG_of hx27 hg))) (.h (.call [(di 3),(di 3)] (.d (.agg [(di x27.From),(di x27.To)]))) (.p (show ((cond (cond (cond (cond (cond (cond (cond (cond (cond (cond (cond (cond (cond (cond (cond (cond (x2.2.2==0) (x3.2==0) false) (x5.2.2==0) false) (x6.2==0) false) (x7.2==0) false) (x8.2==0) false) (x11.2==0) false) (x12.2.2.2==0) false) (x14.2.2.2==0) false) (x16.2==9) false) (x2.1==3) false) (x2.2.1==3) false) x21 false) (x5.1==1) false) (x5.2.1==3) false) (x6.1==2) false) (x7.1==2) false)=true→PCall Tryz.prog 57 [(di 3),(di 3)] (.d (.agg [(di x28.From),(di x28.To)]))) from (fun hg=>ct57 (optG_of hx28 hg))) (.h (.call [(di 3),(di 3)] (.d (.agg [(di x28.From),(di x28.To)]))) (.p (show ((cond (cond (cond (cond (cond (cond (cond (cond (cond (cond (cond (cond (cond (cond (cond (cond (x2.2.2==0) (x3.2==0) false) (x5.2.2==0) false) (x6.2==0) false) (x7.2==0) false) (x8.2==0) false) (x11.2==0) false) (x12.2.2.2==0) false) (x14.2.2.2==0) false) (x16.2==9) false) (x2.1==3) false) (x2.2.1==3) false) x21 false) (x5.1==1) false) (x5.2.1==3) false) (x6.1==2) false) (x7.1==2) false)=true→PCall Tryz.prog 57 [(di 3),(di 3)] (.d (.agg [(di x29.From),(di x29.To)]))) from (fun hg=>ct57 (optG_of hx29 hg))) (.h (.call [(di 3),(di 3)] (.d (.agg [(di x29.From),(di x29.To)]))) (.p (show ((cond (cond (cond (cond (cond (cond (cond (cond (cond (cond (cond (cond (cond (cond (cond (cond (x2.2.2==0) (x3.2==0) false) (x5.2.2==0) false) (x6.2==0) false) (x7.2==0) false) (x8.2==0) false) (x11.2==0) false) (x12.2.2.2==0) false) (x14.2.2.2==0) false) (x16.2==9) false) (x2.1==3) false) (x2.2.1==3) false) x21 false) (x5.1==1) false) (x5.2.1==3) false) (x6.1==2) false) (x7.1==2) false)=true→(cond (cond (cond (cond (cond (cond (cond (cond (cond (cond (cond (cond (cond (cond (cond (cond (x2.2.2==0) (x3.2==0) false) (x5.2.2==0) false) (x6.2==0) false) (x7.2==0) false) (x8.2==0) false) (x11.2==0) false) (x12.2.2.2==0) false) (x14.2.2.2==0) false) (x16.2==9) false) (x2.1==3) false) (x2.2.1==3) false) x21 false) (x5.1==1) false) (x5.2.1==3) false) (x6.1==2) false) (x7.1==2) false)=true) from id) (.p (show ((cond (cond (cond (cond (cond (cond (cond (cond (cond (cond (cond (cond (cond (cond (cond (cond (x2.2.2==0) (x3.2==0) false) (x5.2.2==0) false) (x6.2==0) false) (x7.2==0) false) (x8.2==0) false) (x11.2==0) false) (x12.2.2.2==0) false) (x14.2.2.2==0) false) (x16.2==9) false) (x2.1==3) false) (x2.2.1==3) false) x21 false) (x5.1==1) false) (x5.2.1==3) false) (x6.1==2) false) (x7.1==2) false)=true→(cond (cond (cond (cond (cond (cond (cond (cond (cond (cond (cond (cond (cond (cond (cond (cond (x2.2.2==0) (x3.2==0) false) (x5.2.2==0) false) (x6.2==0) false) (x7.2==0) false) (x8.2==0) false) (x11.2==0) false) (x12.2.2.2==0) false) (x14.2.2.2==0) false) (x16.2==9) false) (x2.1==3) false) (x2.2.1==3) false) x21 false) (x5.1==1) false) (x5.2.1==3) false) (x6.1==2) false) (x7.1==2) false)=true) from id) (.p (show ((cond (cond (cond (cond (cond (cond (cond (cond (cond (cond (cond (cond (cond (cond (cond (cond (x2.2.2==0) (x3.2==0) false) (x5.2.2==0) false) (x6.2==0) false) (x7.2==0) false) (x8.2==0) false) (x11.2==0) false) (x12.2.2.2==0) false) (x14.2.2.2==0) false) (x16.2==9) false) (x2.1==3) false) (x2.2.1==3) false) x21 false) (x5.1==1) false) (x5.2.1==3) false) (x6.1==2) false) (x7.1==2) false)=true→(cond (cond (cond (cond (cond (cond (cond (cond (cond (cond (cond (cond (cond (cond (cond (cond (x2.2.2==0) (x3.2==0) false) (x5.2.2==0) false) (x6.2==0) false) (x7.2==0) false) (x8.2==0) false) (x11.2==0) false) (x12.2.2.2==0) false) (x14.2.2.2==0) false) (x16.2==9) false) (x2.1==3) false) (x2.2.1==3) false) x21 false) (x5.1==1) false) (x5.2.1==3) false) (x6.1==2) false) (x7.1==2) false)=true) from id) (.p (show ((cond (cond (cond (cond (cond (cond (cond (cond (cond (cond (cond (cond (cond (cond (cond (cond (x2.2.2==0) (x3.2==0) false) (x5.2.2==0) false) (x6.2==0) false) (x7.2==0) false) (x8.2==0) false) (x11.2==0) false) (x12.2.2.2==0) false) (x14.2.2.2==0) false) (x16.2==9) false) (x2.1==3) false) (x2.2.1==3) false) x21 false) (x5.1==1) false) (x5.2.1==3) false) (x6.1==2) false) (x7.1==2) false)=true→(cond (cond (cond (cond (cond (cond (cond (cond (cond (cond (cond (cond (cond (cond (cond (cond (x2.2.2==0) (x3.2==0) false) (x5.2.2==0) false) (x6.2==0) false) (x7.2==0) false) (x8.2==0) false) (x11.2==0) false) (x12.2.2.2==0) false) (x14.2.2.2==0) false) (x16.2==9) false) (x2.1==3) false) (x2.2.1==3) false) x21 false) (x5.1==1) false) (x5.2.1==3) false) (x6.1==2) false) (x7.1==2) false)=true) from id) (.p (show ((cond (cond (cond (cond (cond (cond (cond (cond (cond (cond (cond (cond (cond (cond (cond (cond (x2.2.2==0) (x3.2==0) false) (x5.2.2==0) false) (x6.2==0) false) (x7.2==0) false) (x8.2==0) false) (x11.2==0) false) (x12.2.2.2==0) false) (x14.2.2.2==0) false) (x16.2==9) false) (x2.1==3) false) (x2.2.1==3) false) x21 false) (x5.1==1) false) (x5.2.1==3) false) (x6.1==2) false) (x7.1==2) false)=true→(cond (cond (cond (cond (cond (cond (cond (cond (cond (cond (cond (cond (cond (cond (cond (cond (x2.2.2==0) (x3.2==0) false) (x5.2.2==0) false) (x6.2==0) false) (x7.2==0) false) (x8.2==0) false) (x11.2==0) false) (x12.2.2.2==0) false) (x14.2.2.2==0) false) (x16.2==9) false) (x2.1==3) false) (x2.2.1==3) false) x21 false) (x5.1==1) false) (x5.2.1==3) false) (x6.1==2) false) (x7.1==2) false)=true) from id) (.p (show ((cond (cond (cond (cond (cond (cond (cond (cond (cond (cond (cond (cond (cond (cond (cond (cond (x2.2.2==0) (x3.2==0) false) (x5.2.2==0) false) (x6.2==0) false) (x7.2==0) false) (x8.2==0) false) (x11.2==0) false) (x12.2.2.2==0) false) (x14.2.2.2==0) false) (x16.2==9) false) (x2.1==3) false) (x2.2.1==3) false) x21 false) (x5.1==1) false) (x5.2.1==3) false) (x6.1==2) false) (x7.1==2) false)=true→(cond (cond (cond (cond (cond (cond (cond (cond (cond (cond (cond (cond (cond (cond (cond (cond (x2.2.2==0) (x3.2==0) false) (x5.2.2==0) false) (x6.2==0) false) (x7.2==0) false) (x8.2==0) false) (x11.2==0) false) (x12.2.2.2==0) false) (x14.2.2.2==0) false) (x16.2==9) false) (x2.1==3) false) (x2.2.1==3) false) x21 false) (x5.1==1) false) (x5.2.1==3) false) (x6.1==2) false) (x7.1==2) false)=true) from id) (.p (show ((cond (cond (cond (cond (cond (cond (cond (cond (cond (cond (cond (cond (cond (cond (cond (cond (x2.2.2==0) (x3.2==0) false) (x5.2.2==0) false) (x6.2==0) false) (x7.2==0) false) (x8.2==0) false) (x11.2==0) false) (x12.2.2.2==0) false) (x14.2.2.2==0) false) (x16.2==9) false) (x2.1==3) false) (x2.2.1==3) false) x21 false) (x5.1==1) false) (x5.2.1==3) false) (x6.1==2) false) (x7.1==2) false)=true→(cond (cond (cond (cond (cond (cond (cond (cond (cond (cond (cond (cond (cond (cond (cond (cond (x2.2.2==0) (x3.2==0) false) (x5.2.2==0) false) (x6.2==0) false) (x7.2==0) false) (x8.2==0) false) (x11.2==0) false) (x12.2.2.2==0) false) (x14.2.2.2==0) false) (x16.2==9) false) (x2.1==3) false) (x2.2.1==3) false) x21 false) (x5.1==1) false) (x5.2.1==3) false) (x6.1==2) false) (x7.1==2) false)=true) from id) (.p (show ((cond (cond (cond (cond (cond (cond (cond (cond (cond (cond (cond (cond (cond (cond (cond (cond (x2.2.2==0) (x3.2==0) false) (x5.2.2==0) false) (x6.2==0) false) (x7.2==0) false) (x8.2==0) false) (x11.2==0) false) (x12.2.2.2==0) false) (x14.2.2.2==0) false) (x16.2==9) false) (x2.1==3) false) (x2.2.1==3) false) x21 false) (x5.1==1) false) (x5.2.1==3) false) (x6.1==2) false) (x7.1==2) false)=true→(cond (cond (cond (cond (cond (cond (cond (cond (cond (cond (cond (cond (cond (cond (cond (cond (x2.2.2==0) (x3.2==0) false) (x5.2.2==0) false) (x6.2==0) false) (x7.2==0) false) (x8.2==0) false) (x11.2==0) false) (x12.2.2.2==0) false) (x14.2.2.2==0) false) (x16.2==9) false) (x2.1==3) false) (x2.2.1==3) false) x21 false) (x5.1==1) false) (x5.2.1==3) false) (x6.1==2) false) (x7.1==2) false)=true) from id) (.n 1 (.p (show ((cond (cond (cond (cond (cond (cond (cond (cond (cond (cond (cond (cond (cond (cond (cond (cond (x2.2.2==0) (x3.2==0) false) (x5.2.2==0) false) (x6.2==0) false) (x7.2==0) false) (x8.2==0) false) (x11.2==0) false) (x12.2.2.2==0) false) (x14.2.2.2==0) false) (x16.2==9) false) (x2.1==3) false) (x2.2.1==3) false) x21 false) (x5.1==1) false) (x5.2.1==3) false) (x6.1==2) false) (x7.1==2) false)=true→(cond (cond (cond (cond (cond (cond (cond (cond (cond (cond (cond (cond (cond (cond (cond (cond (x2.2.2==0) (x3.2==0) false) (x5.2.2==0) false) (x6.2==0) false) (x7.2==0) false) (x8.2==0) false) (x11.2==0) false) (x12.2.2.2==0) false) (x14.2.2.2==0) false) (x16.2==9) false) (x2.1==3) false) (x2.2.1==3) false) x21 false) (x5.1==1) false) (x5.2.1==3) false) (x6.1==2) false) (x7.1==2) false)=true) from id) (.p (show ((cond (cond (cond (cond (cond (cond (cond (cond (cond (cond (cond (cond (cond (cond (cond (cond (x2.2.2==0) (x3.2==0) false) (x5.2.2==0) false) (x6.2==0) false) (x7.2==0) false) (x8.2==0) false) (x11.2==0) false) (x12.2.2.2==0) false) (x14.2.2.2==0) false) (x16.2==9) false) (x2.1==3) false) (x2.2.1==3) false) x21 false) (x5.1==1) false) (x5.2.1==3) false) (x6.1==2) false) (x7.1==2) false)=true→(cond (cond (cond (cond (cond (cond (cond (cond (cond (cond (cond (cond (cond (cond (cond (cond (x2.2.2==0) (x3.2==0) false) (x5.2.2==0) false) (x6.2==0) false) (x7.2==0) false) (x8.2==0) false) (x11.2==0) false) (x12.2.2.2==0) false) (x14.2.2.2==0) false) (x16.2==9) false) (x2.1==3) false) (x2.2.1==3) false) x21 false) (x5.1==1) false) (x5.2.1==3) false) (x6.1==2) false) (x7.1==2) false)=true) from id) (.p (show ((cond (cond (cond (cond (cond (cond (cond (cond (cond (cond (cond (cond (cond (cond (cond (cond (x2.2.2==0) (x3.2==0) false) (x5.2.2==0) false) (x6.2==0) false) (x7.2==0) false) (x8.2==0) false) (x11.2==0) false) (x12.2.2.2==0) false) (x14.2.2.2==0) false) (x16.2==9) false) (x2.1==3) false) (x2.2.1==3) false) x21 false) (x5.1==1) false) (x5.2.1==3) false) (x6.1==2) false) (x7.1==2) false)=true→PCall Tryz.prog 61 [(L114 x8.1),(L114 ([(⟨x22.From,x22.To⟩:S_api_CvPass),(⟨x23.From,x23.To⟩:S_api_CvPass),(⟨x24.From,x24.To⟩:S_api_CvPass),(⟨x25.From,x25.To⟩:S_api_CvPass),(⟨x26.From,x26.To⟩:S_api_CvPass),(⟨x27.From,x27.To⟩:S_api_CvPass),(⟨x28.From,x28.To⟩:S_api_CvPass),(⟨x29.From,x29.To⟩:S_api_CvPass)]:List S_api_CvPass))] (vb x30)) from (fun hg=>ct61 (optG_of hx30 hg))) (.h (.call [(L114 x8.1),(L114 ([(⟨x22.From,x22.To⟩:S_api_CvPass),(⟨x23.From,x23.To⟩:S_api_CvPass),(⟨x24.From,x24.To⟩:S_api_CvPass),(⟨x25.From,x25.To⟩:S_api_CvPass),(⟨x26.From,x26.To⟩:S_api_CvPass),(⟨x27.From,x27.To⟩:S_api_CvPass),(⟨x28.From,x28.To⟩:S_api_CvPass),(⟨x29.From,x29.To⟩:S_api_CvPass)]:List S_api_CvPass))] (vb x30)) (.p (show ((cond (cond (cond (cond (cond (cond (cond (cond (cond (cond (cond (cond (cond (cond (cond (cond (x2.2.2==0) (x3.2==0) false) (x5.2.2==0) false) (x6.2==0) false) (x7.2==0) false) (x8.2==0) false) (x11.2==0) false) (x12.2.2.2==0) false) (x14.2.2.2==0) false) (x16.2==9) false) (x2.1==3) false) (x2.2.1==3) false) x21 false) (x5.1==1) false) (x5.2.1==3) false) (x6.1==2) false) (x7.1==2) false)=true→(cond (cond (cond (cond (cond (cond (cond (cond (cond (cond (cond (cond (cond (cond (cond (cond (x2.2.2==0) (x3.2==0) false) (x5.2.2==0) false) (x6.2==0) false) (x7.2==0) false) (x8.2==0) false) (x11.2==0) false) (x12.2.2.2==0) false) (x14.2.2.2==0) false) (x16.2==9) false) (x2.1==3) false) (x2.2.1==3) false) x21 false) (x5.1==1) false) (x5.2.1==3) false) (x6.1==2) false) (x7.1==2) false)=true) from id) (.n 1 (.n 3 (.p (show ((cond (cond (cond (cond (cond (cond (cond (cond (cond (cond (cond (cond (cond (cond (cond (cond (cond (x2.2.2==0) (x3.2==0) false) (x5.2.2==0) false) (x6.2==0) false) (x7.2==0) false) (x8.2==0) false) (x11.2==0) false) (x12.2.2.2==0) false) (x14.2.2.2==0) false) (x16.2==9) false) (x2.1==3) false) (x2.2.1==3) false) x21 false) (x5.1==1) false) (x5.2.1==3) false) (x6.1==2) false) (x7.1==2) false) x30 false)=true→(cond (cond (cond (cond (cond (cond (cond (cond (cond (cond (cond (cond (cond (cond (cond (cond (cond (x2.2.2==0) (x3.2==0) false) (x5.2.2==0) false) (x6.2==0) false) (x7.2==0) false) (x8.2==0) false) (x11.2==0) false) (x12.2.2.2==0) false) (x14.2.2.2==0) false) (x16.2==9) false) (x2.1==3) false) (x2.2.1==3) false) x21 false) (x5.1==1) false) (x5.2.1==3) false) (x6.1==2) false) (x7.1==2) false) x30 false)=true) from id) (.p (show ((cond (cond (cond (cond (cond (cond (cond (cond (cond (cond (cond (cond (cond (cond (cond (cond (cond (x2.2.2==0) (x3.2==0) false) (x5.2.2==0) false) (x6.2==0) false) (x7.2==0) false) (x8.2==0) false) (x11.2==0) false) (x12.2.2.2==0) false) (x14.2.2.2==0) false) (x16.2==9) false) (x2.1==3) false) (x2.2.1==3) false) x21 false) (x5.1==1) false) (x5.2.1==3) false) (x6.1==2) false) (x7.1==2) false) x30 false)=true→(cond (cond (cond (cond (cond (cond (cond (cond (cond (cond (cond (cond (cond (cond (cond (cond (cond (x2.2.2==0) (x3.2==0) false) (x5.2.2==0) false) (x6.2==0) false) (x7.2==0) false) (x8.2==0) false) (x11.2==0) false) (x12.2.2.2==0) false) (x14.2.2.2==0) false) (x16.2==9) false) (x2.1==3) false) (x2.2.1==3) false) x21 false) (x5.1==1) false) (x5.2.1==3) false) (x6.1==2) false) (x7.1==2) false) x30 false)=true) from id) (.p (show ((cond (cond (cond (cond (cond (cond (cond (cond (cond (cond (cond (cond (cond (cond (cond (cond (cond (x2.2.2==0) (x3.2==0) false) (x5.2.2==0) false) (x6.2==0) false) (x7.2==0) false) (x8.2==0) false) (x11.2==0) false) (x12.2.2.2==0) false) (x14.2.2.2==0) false) (x16.2==9) false) (x2.1==3) false) (x2.2.1==3) false) x21 false) (x5.1==1) false) (x5.2.1==3) false) (x6.1==2) false) (x7.1==2) false) x30 false)=true→PCall Tryz.prog 48 [(L3 x11.1),(L3 ([1,1,0,1]:List Int))] (vb x31)) from (fun hg=>ct48 (optG_of hx31 hg))) (.h (.call [(L3 x11.1),(L3 ([1,1,0,1]:List Int))] (vb x31)) (.p (show ((cond (cond (cond (cond (cond (cond (cond (cond (cond (cond (cond (cond (cond (cond (cond (cond (cond (x2.2.2==0) (x3.2==0) false) (x5.2.2==0) false) (x6.2==0) false) (x7.2==0) false) (x8.2==0) false) (x11.2==0) false) (x12.2.2.2==0) false) (x14.2.2.2==0) false) (x16.2==9) false) (x2.1==3) false) (x2.2.1==3) false) x21 false) (x5.1==1) false) (x5.2.1==3) false) (x6.1==2) false) (x7.1==2) false) x30 false)=true→(cond (cond (cond (cond (cond (cond (cond (cond (cond (cond (cond (cond (cond (cond (cond (cond (cond (x2.2.2==0) (x3.2==0) false) (x5.2.2==0) false) (x6.2==0) false) (x7.2==0) false) (x8.2==0) false) (x11.2==0) false) (x12.2.2.2==0) false) (x14.2.2.2==0) false) (x16.2==9) false) (x2.1==3) false) (x2.2.1==3) false) x21 false) (x5.1==1) false) (x5.2.1==3) false) (x6.1==2) false) (x7.1==2) false) x30 false)=true) from id) (.n 1 (.n 3 (.p (show ((cond (cond (cond (cond (cond (cond (cond (cond (cond (cond (cond (cond (cond (cond (cond (cond (cond (cond (x2.2.2==0) (x3.2==0) false) (x5.2.2==0) false) (x6.2==0) false) (x7.2==0) false) (x8.2==0) false) (x11.2==0) false) (x12.2.2.2==0) false) (x14.2.2.2==0) false) (x16.2==9) false) (x2.1==3) false) (x2.2.1==3) false) x21 false) (x5.1==1) false) (x5.2.1==3) false) (x6.1==2) false) (x7.1==2) false) x30 false) x31 false)=true→(cond (cond (cond (cond (cond (cond (cond (cond (cond (cond (cond (cond (cond (cond (cond (cond (cond (cond (x2.2.2==0) (x3.2==0) false) (x5.2.2==0) false) (x6.2==0) false) (x7.2==0) false) (x8.2==0) false) (x11.2==0) false) (x12.2.2.2==0) false) (x14.2.2.2==0) false) (x16.2==9) false) (x2.1==3) false) (x2.2.1==3) false) x21 false) (x5.1==1) false) (x5.2.1==3) false) (x6.1==2) false) (x7.1==2) false) x30 false) x31 false)=true) from id) (.p (show ((cond (cond (cond (cond (cond (cond (cond (cond (cond (cond (cond (cond (cond (cond (cond (cond (cond (cond (x2.2.2==0) (x3.2==0) false) (x5.2.2==0) false) (x6.2==0) false) (x7.2==0) false) (x8.2==0) false) (x11.2==0) false) (x12.2.2.2==0) false) (x14.2.2.2==0) false) (x16.2==9) false) (x2.1==3) false) (x2.2.1==3) false) x21 false) (x5.1==1) false) (x5.2.1==3) false) (x6.1==2) false) (x7.1==2) false) x30 false) x31 false)=true→(cond (cond (cond (cond (cond (cond (cond (cond (cond (cond (cond (cond (cond (cond (cond (cond (cond (cond (x2.2.2==0) (x3.2==0) false) (x5.2.2==0) false) (x6.2==0) false) (x7.2==0) false) (x8.2==0) false) (x11.2==0) false) (x12.2.2.2==0) false) (x14.2.2.2==0) false) (x16.2==9) false) (x2.1==3) false) (x2.2.1==3) false) x21 false) (x5.1==1) false) (x5.2.1==3) false) (x6.1==2) false) (x7.1==2) false) x30 false) x31 false)=true) from id) (.p (show ((cond (cond (cond (cond (cond (cond (cond (cond (cond (cond (cond (cond (cond (cond (cond (cond (cond (cond (x2.2.2==0) (x3.2==0) false) (x5.2.2==0) false) (x6.2==0) false) (x7.2==0) false) (x8.2==0) false) (x11.2==0) false) (x12.2.2.2==0) false) (x14.2.2.2==0) false) (x16.2==9) false) (x2.1==3) false) (x2.2.1==3) false) x21 false) (x5.1==1) false) (x5.2.1==3) false) (x6.1==2) false) (x7.1==2) false) x30 false) x31 false)=true→PCall Tryz.prog 48 [(L3 x12.1),(L3 ([8,9,7,6]:List Int))] (vb x32)) from (fun hg=>ct48 (optG_of hx32 hg))) (.h (.call [(L3 x12.1),(L3 ([8,9,7,6]:List Int))] (vb x32)) (.p (show ((cond (cond (cond (cond (cond (cond (cond (cond (cond (cond (cond (cond (cond (cond (cond (cond (cond (cond (x2.2.2==0) (x3.2==0) false) (x5.2.2==0) false) (x6.2==0) false) (x7.2==0) false) (x8.2==0) false) (x11.2==0) false) (x12.2.2.2==0) false) (x14.2.2.2==0) false) (x16.2==9) false) (x2.1==3) false) (x2.2.1==3) false) x21 false) (x5.1==1) false) (x5.2.1==3) false) (x6.1==2) false) (x7.1==2) false) x30 false) x31 false)=true→(cond (cond (cond (cond (cond (cond (cond (cond (cond (cond (cond (cond (cond (cond (cond (cond (cond (cond (x2.2.2==0) (x3.2==0) false) (x5.2.2==0) false) (x6.2==0) false) (x7.2==0) false) (x8.2==0) false) (x11.2==0) false) (x12.2.2.2==0) false) (x14.2.2.2==0) false) (x16.2==9) false) (x2.1==3) false) (x2.2.1==3) false) x21 false) (x5.1==1) false) (x5.2.1==3) false) (x6.1==2) false) (x7.1==2) false) x30 false) x31 false)=true) from id) (.n 1 (.n 2 (.p (show ((cond (cond (cond (cond (cond (cond (cond (cond (cond (cond (cond (cond (cond (cond (cond (cond (cond (cond (cond (x2.2.2==0) (x3.2==0) false) (x5.2.2==0) false) (x6.2==0) false) (x7.2==0) false) (x8.2==0) false) (x11.2==0) false) (x12.2.2.2==0) false) (x14.2.2.2==0) false) (x16.2==9) false) (x2.1==3) false) (x2.2.1==3) false) x21 false) (x5.1==1) false) (x5.2.1==3) false) (x6.1==2) false) (x7.1==2) false) x30 false) x31 false) x32 false)=true→(cond (cond (cond (cond (cond (cond (cond (cond (cond (cond (cond (cond (cond (cond (cond (cond (cond (cond (cond (x2.2.2==0) (x3.2==0) false) (x5.2.2==0) false) (x6.2==0) false) (x7.2==0) false) (x8.2==0) false) (x11.2==0) false) (x12.2.2.2==0) false) (x14.2.2.2==0) false) (x16.2==9) false) (x2.1==3) false) (x2.2.1==3) false) x21 false) (x5.1==1) false) (x5.2.1==3) false) (x6.1==2) false) (x7.1==2) false) x30 false) x31 false) x32 false)=true) from id) (.n 1 (.p (show ((cond (cond (cond (cond (cond (cond (cond (cond (cond (cond (cond (cond (cond (cond (cond (cond (cond (cond (cond (x2.2.2==0) (x3.2==0) false) (x5.2.2==0) false) (x6.2==0) false) (x7.2==0) false) (x8.2==0) false) (x11.2==0) false) (x12.2.2.2==0) false) (x14.2.2.2==0) false) (x16.2==9) false) (x2.1==3) false) (x2.2.1==3) false) x21 false) (x5.1==1) false) (x5.2.1==3) false) (x6.1==2) false) (x7.1==2) false) x30 false) x31 false) x32 false)=true→(cond (cond (cond (cond (cond (cond (cond (cond (cond (cond (cond (cond (cond (cond (cond (cond (cond (cond (cond (x2.2.2==0) (x3.2==0) false) (x5.2.2==0) false) (x6.2==0) false) (x7.2==0) false) (x8.2==0) false) (x11.2==0) false) (x12.2.2.2==0) false) (x14.2.2.2==0) false) (x16.2==9) false) (x2.1==3) false) (x2.2.1==3) false) x21 false) (x5.1==1) false) (x5.2.1==3) false) (x6.1==2) false) (x7.1==2) false) x30 false) x31 false) x32 false)=true) from id) (.n 1 (.n 2 (.p (show ((cond (cond (cond (cond (cond (cond (cond (cond (cond (cond (cond (cond (cond (cond (cond (cond (cond (cond (cond (cond (x2.2.2==0) (x3.2==0) false) (x5.2.2==0) false) (x6.2==0) false) (x7.2==0) false) (x8.2==0) false) (x11.2==0) false) (x12.2.2.2==0) false) (x14.2.2.2==0) false) (x16.2==9) false) (x2.1==3) false) (x2.2.1==3) false) x21 false) (x5.1==1) false) (x5.2.1==3) false) (x6.1==2) false) (x7.1==2) false) x30 false) x31 false) x32 false) (x12.2.1==1) false)=true→(cond (cond (cond (cond (cond (cond (cond (cond (cond (cond (cond (cond (cond (cond (cond (cond (cond (cond (cond (cond (x2.2.2==0) (x3.2==0) false) (x5.2.2==0) false) (x6.2==0) false) (x7.2==0) false) (x8.2==0) false) (x11.2==0) false) (x12.2.2.2==0) false) (x14.2.2.2==0) false) (x16.2==9) false) (x2.1==3) false) (x2.2.1==3) false) x21 false) (x5.1==1) false) (x5.2.1==3) false) (x6.1==2) false) (x7.1==2) false) x30 false) x31 false) x32 false) (x12.2.1==1) false)=true) from id) (.n 1 (.p (show ((cond (cond (cond (cond (cond (cond (cond (cond (cond (cond (cond (cond (cond (cond (cond (cond (cond (cond (cond (cond (x2.2.2==0) (x3.2==0) false) (x5.2.2==0) false) (x6.2==0) false) (x7.2==0) false) (x8.2==0) false) (x11.2==0) false) (x12.2.2.2==0) false) (x14.2.2.2==0) false) (x16.2==9) false) (x2.1==3) false) (x2.2.1==3) false) x21 false) (x5.1==1) false) (x5.2.1==3) false) (x6.1==2) false) (x7.1==2) false) x30 false) x31 false) x32 false) (x12.2.1==1) false)=true→(cond (cond (cond (cond (cond (cond (cond (cond (cond (cond (cond (cond (cond (cond (cond (cond (cond (cond (cond (cond (x2.2.2==0) (x3.2==0) false) (x5.2.2==0) false) (x6.2==0) false) (x7.2==0) false) (x8.2==0) false) (x11.2==0) false) (x12.2.2.2==0) false) (x14.2.2.2==0) false) (x16.2==9) false) (x2.1==3) false) (x2.2.1==3) false) x21 false) (x5.1==1) false) (x5.2.1==3) false) (x6.1==2) false) (x7.1==2) false) x30 false) x31 false) x32 false) (x12.2.1==1) false)=true) from id) (.n 1 (.n 3 (.p (show ((cond (cond (cond (cond (cond (cond (cond (cond (cond (cond (cond (cond (cond (cond (cond (cond (cond (cond (cond (cond (cond (x2.2.2==0) (x3.2==0) false) (x5.2.2==0) false) (x6.2==0) false) (x7.2==0) false) (x8.2==0) false) (x11.2==0) false) (x12.2.2.2==0) false) (x14.2.2.2==0) false) (x16.2==9) false) (x2.1==3) false) (x2.2.1==3) false) x21 false) (x5.1==1) false) (x5.2.1==3) false) (x6.1==2) false) (x7.1==2) false) x30 false) x31 false) x32 false) (x12.2.1==1) false) (x12.2.2.1==8) false)=true→(cond (cond (cond (cond (cond (cond (cond (cond (cond (cond (cond (cond (cond (cond (cond (cond (cond (cond (cond (cond (cond (x2.2.2==0) (x3.2==0) false) (x5.2.2==0) false) (x6.2==0) false) (x7.2==0) false) (x8.2==0) false) (x11.2==0) false) (x12.2.2.2==0) false) (x14.2.2.2==0) false) (x16.2==9) false) (x2.1==3) false) (x2.2.1==3) false) x21 false) (x5.1==1) false) (x5.2.1==3) false) (x6.1==2) false) (x7.1==2) false) x30 false) x31 false) x32 false) (x12.2.1==1) false) (x12.2.2.1==8) false)=true) from id) (.p (show ((cond (cond (cond (cond (cond (cond (cond (cond (cond (cond (cond (cond (cond (cond (cond (cond (cond (cond (cond (cond (cond (x2.2.2==0) (x3.2==0) false) (x5.2.2==0) false) (x6.2==0) false) (x7.2==0) false) (x8.2==0) false) (x11.2==0) false) (x12.2.2.2==0) false) (x14.2.2.2==0) false) (x16.2==9) false) (x2.1==3) false) (x2.2.1==3) false) x21 false) (x5.1==1) false) (x5.2.1==3) false) (x6.1==2) false) (x7.1==2) false) x30 false) x31 false) x32 false) (x12.2.1==1) false) (x12.2.2.1==8) false)=true→(cond (cond (cond (cond (cond (cond (cond (cond (cond (cond (cond (cond (cond (cond (cond (cond (cond (cond (cond (cond (cond (x2.2.2==0) (x3.2==0) false) (x5.2.2==0) false) (x6.2==0) false) (x7.2==0) false) (x8.2==0) false) (x11.2==0) false) (x12.2.2.2==0) false) (x14.2.2.2==0) false) (x16.2==9) false) (x2.1==3) false) (x2.2.1==3) false) x21 false) (x5.1==1) false) (x5.2.1==3) false) (x6.1==2) false) (x7.1==2) false) x30 false) x31 false) x32 false) (x12.2.1==1) false) (x12.2.2.1==8) false)=true) from id) (.p (show ((cond (cond (cond (cond (cond (cond (cond (cond (cond (cond (cond (cond (cond (cond (cond (cond (cond (cond (cond (cond (cond (x2.2.2==0) (x3.2==0) false) (x5.2.2==0) false) (x6.2==0) false) (x7.2==0) false) (x8.2==0) false) (x11.2==0) false) (x12.2.2.2==0) false) (x14.2.2.2==0) false) (x16.2==9) false) (x2.1==3) false) (x2.2.1==3) false) x21 false) (x5.1==1) false) (x5.2.1==3) false) (x6.1==2) false) (x7.1==2) false) x30 false) x31 false) x32 false) (x12.2.1==1) false) (x12.2.2.1==8) false)=true→PCall Tryz.prog 48 [(L3 x14.1),(L3 ([10,10]:List Int))] (vb x33)) from (fun hg=>ct48 (optG_of hx33 hg))) (.h (.call [(L3 x14.1),(L3 ([10,10]:List Int))] (vb x33)) (.p (show ((cond (cond (cond (cond (cond (cond (cond (cond (cond (cond (cond (cond (cond (cond (cond (cond (cond (cond (cond (cond (cond (x2.2.2==0) (x3.2==0) false) (x5.2.2==0) false) (x6.2==0) false) (x7.2==0) false) (x8.2==0) false) (x11.2==0) false) (x12.2.2.2==0) false) (x14.2.2.2==0) false) (x16.2==9) false) (x2.1==3) false) (x2.2.1==3) false) x21 false) (x5.1==1) false) (x5.2.1==3) false) (x6.1==2) false) (x7.1==2) false) x30 false) x31 false) x32 false) (x12.2.1==1) false) (x12.2.2.1==8) false)=true→(cond (cond (cond (cond (cond (cond (cond (cond (cond (cond (cond (cond (cond (cond (cond (cond (cond (cond (cond (cond (cond (x2.2.2==0) (x3.2==0) false) (x5.2.2==0) false) (x6.2==0) false) (x7.2==0) false) (x8.2==0) false) (x11.2==0) false) (x12.2.2.2==0) false) (x14.2.2.2==0) false) (x16.2==9) false) (x2.1==3) false) (x2.2.1==3) false) x21 false) (x5.1==1) false) (x5.2.1==3) false) (x6.1==2) false) (x7.1==2) false) x30 false) x31 false) x32 false) (x12.2.1==1) false) (x12.2.2.1==8) false)=true) from id) (.n 1 (.n 2 (.p (show ((cond (cond (cond (cond (cond (cond (cond (cond (cond (cond (cond (cond (cond (cond (cond (cond (cond (cond (cond (cond (cond (cond (x2.2.2==0) (x3.2==0) false) (x5.2.2==0) false) (x6.2==0) false) (x7.2==0) false) (x8.2==0) false) (x11.2==0) false) (x12.2.2.2==0) false) (x14.2.2.2==0) false) (x16.2==9) false) (x2.1==3) false) (x2.2.1==3) false) x21 false) (x5.1==1) false) (x5.2.1==3) false) (x6.1==2) false) (x7.1==2) false) x30 false) x31 false) x32 false) (x12.2.1==1) false) (x12.2.2.1==8) false) x33 false)=true→(cond (cond (cond (cond (cond (cond (cond (cond (cond (cond (cond (cond (cond (cond (cond (cond (cond (cond (cond (cond (cond (cond (x2.2.2==0) (x3.2==0) false) (x5.2.2==0) false) (x6.2==0) false) (x7.2==0) false) (x8.2==0) false) (x11.2==0) false) (x12.2.2.2==0) false) (x14.2.2.2==0) false) (x16.2==9) false) (x2.1==3) false) (x2.2.1==3) false) x21 false) (x5.1==1) false) (x5.2.1==3) false) (x6.1==2) false) (x7.1==2) false) x30 false) x31 false) x32 false) (x12.2.1==1) false) (x12.2.2.1==8) false) x33 false)=true) from id) (.n 1 (.p (show ((cond (cond (cond (cond (cond (cond (cond (cond (cond (cond (cond (cond (cond (cond (cond (cond (cond (cond (cond (cond (cond (cond (x2.2.2==0) (x3.2==0) false) (x5.2.2==0) false) (x6.2==0) false) (x7.2==0) false) (x8.2==0) false) (x11.2==0) false) (x12.2.2.2==0) false) (x14.2.2.2==0) false) (x16.2==9) false) (x2.1==3) false) (x2.2.1==3) false) x21 false) (x5.1==1) false) (x5.2.1==3) false) (x6.1==2) false) (x7.1==2) false) x30 false) x31 false) x32 false) (x12.2.1==1) false) (x12.2.2.1==8) false) x33 false)=true→(cond (cond (cond (cond (cond (cond (cond (cond (cond (cond (cond (cond (cond (cond (cond (cond (cond (cond (cond (cond (cond (cond (x2.2.2==0) (x3.2==0) false) (x5.2.2==0) false) (x6.2==0) false) (x7.2==0) false) (x8.2==0) false) (x11.2==0) false) (x12.2.2.2==0) false) (x14.2.2.2==0) false) (x16.2==9) false) (x2.1==3) false) (x2.2.1==3) false) x21 false) (x5.1==1) false) (x5.2.1==3) false) (x6.1==2) false) (x7.1==2) false) x30 false) x31 false) x32 false) (x12.2.1==1) false) (x12.2.2.1==8) false) x33 false)=true) from id) (.n 1 (.n 2 (.p (show ((cond (cond (cond (cond (cond (cond (cond (cond (cond (cond (cond (cond (cond (cond (cond (cond (cond (cond (cond (cond (cond (cond (cond (x2.2.2==0) (x3.2==0) false) (x5.2.2==0) false) (x6.2==0) false) (x7.2==0) false) (x8.2==0) false) (x11.2==0) false) (x12.2.2.2==0) false) (x14.2.2.2==0) false) (x16.2==9) false) (x2.1==3) false) (x2.2.1==3) false) x21 false) (x5.1==1) false) (x5.2.1==3) false) (x6.1==2) false) (x7.1==2) false) x30 false) x31 false) x32 false) (x12.2.1==1) false) (x12.2.2.1==8) false) x33 false) (x14.2.1==2) false)=true→(cond (cond (cond (cond (cond (cond (cond (cond (cond (cond (cond (cond (cond (cond (cond (cond (cond (cond (cond (cond (cond (cond (cond (x2.2.2==0) (x3.2==0) false) (x5.2.2==0) false) (x6.2==0) false) (x7.2==0) false) (x8.2==0) false) (x11.2==0) false) (x12.2.2.2==0) false) (x14.2.2.2==0) false) (x16.2==9) false) (x2.1==3) false) (x2.2.1==3) false) x21 false) (x5.1==1) false) (x5.2.1==3) false) (x6.1==2) false) (x7.1==2) false) x30 false) x31 false) x32 false) (x12.2.1==1) false) (x12.2.2.1==8) false) x33 false) (x14.2.1==2) false)=true) from id) (.n 1 (.p (show ((cond (cond (cond (cond (cond (cond (cond (cond (cond (cond (cond (cond (cond (cond (cond (cond (cond (cond (cond (cond (cond (cond (cond (x2.2.2==0) (x3.2==0) false) (x5.2.2==0) false) (x6.2==0) false) (x7.2==0) false) (x8.2==0) false) (x11.2==0) false) (x12.2.2.2==0) false) (x14.2.2.2==0) false) (x16.2==9) false) (x2.1==3) false) (x2.2.1==3) false) x21 false) (x5.1==1) false) (x5.2.1==3) false) (x6.1==2) false) (x7.1==2) false) x30 false) x31 false) x32 false) (x12.2.1==1) false) (x12.2.2.1==8) false) x33 false) (x14.2.1==2) false)=true→(cond (cond (cond (cond (cond (cond (cond (cond (cond (cond (cond (cond (cond (cond (cond (cond (cond (cond (cond (cond (cond (cond (cond (x2.2.2==0) (x3.2==0) false) (x5.2.2==0) false) (x6.2==0) false) (x7.2==0) false) (x8.2==0) false) (x11.2==0) false) (x12.2.2.2==0) false) (x14.2.2.2==0) false) (x16.2==9) false) (x2.1==3) false) (x2.2.1==3) false) x21 false) (x5.1==1) false) (x5.2.1==3) false) (x6.1==2) false) (x7.1==2) false) x30 false) x31 false) x32 false) (x12.2.1==1) false) (x12.2.2.1==8) false) x33 false) (x14.2.1==2) false)=true) from id) (.n 1 .nil)))))))))))))))))))))))))))))))))))))))))))))))))))))))))))))))))))))))))))))))))))))))))))))))))))))))))))))))))))))))))))))))))))))))))))))))))))))))))))))))))))))))) ?_
 obtain rfl:=oi h
 exact awp_ret gm
end Go.Proofs.YtkcgfceihpampaaGreatDoor
