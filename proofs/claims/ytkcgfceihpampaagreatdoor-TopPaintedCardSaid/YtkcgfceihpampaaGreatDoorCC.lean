/- That functions of the seat compute this. Printed by a program of mine. -/
import Derived.Test.YtkcgfceihpampaaGreatDoorS
import Derived.Test.YtkcgfceihpampaaGreatDoorCA
import Derived.Test.YtkcgfceihpampaaGreatDoorCB
import Derived.Test.YtkcgfceihpampaaGreatDoorDC
namespace Go.Proofs.YtkcgfceihpampaaGreatDoor
open Go Go.Sx
set_option maxRecDepth 100000
set_option linter.unusedVariables false
theorem ct132 {fuel:Nat}  {p_s:S_sheet_sheet} {wider:Int} {res:(List Int)×Bool} (h:F132 fuel p_s wider=some res):PCall Tryz.prog 132 [(.agg [(di p_s.ShSheet.Interval),(L9 p_s.ShSheet.Points),(L121 p_s.ShSheet.Notes)]),(di wider)] (.tup [.d (.agg (res.1.map di0)),vb res.2]):=by
 refine PCall.of_awp tt_ok (N:=28) Tryz.func132 rfl (by kernel_rfl) rfl (Nat.le_of_ble_eq_true rfl) rfl ?_
 unfold F132 at h
 refine EN ?_
 refine R0 ?_
 refine awp_vec 1 ((List.replicate 81 (0:Int)).map vi) [] (List.replicate 81 (0:Int)) [] [.cells [vi p_s.ShSheet.Interval,.d (L9 p_s.ShSheet.Points),.d (L121 p_s.ShSheet.Notes)],.vec [] (List.replicate 81 (0:Int)) []] (by kernel_rfl) rfl (by kernel_rfl) ?_
 obtain ⟨x1,hx1,h⟩:=ob h
 obtain ⟨x2,hx2,h⟩:=ob h
 refine EN ?_
 refine RT (.pc (ct69 hx1) (.p (show ((((x1.map di0).map V.d)).length=81) from (by rw [map_dd];exact (List.length_map _).trans (need_of hx2))) (.p (show StoreOk ((List.replicate 81 (0:Int)).map vi) 0 ((x1.map di0).map V.d) (x1.map vi) from (by rw [map_dd];exact vecStores (n:=81) rfl (need_of hx2))) (.h (.nums x1) .nil)))) ?_
 refine awp_seq (R0 ?_)
 refine cuo h (fun (ro3:(List Int)×Bool)=>[(4,.ref 0 0),(5,vb ro3.2)]) (fun (ro3:(List Int)×Bool)=>[.vec [] ro3.1 []]) (fun (so3:(List Int))=>[(4,.ref 1 0)]) (fun (so3:(List Int))=>[.cells [vi p_s.ShSheet.Interval,.d (L9 p_s.ShSheet.Points),.d (L121 p_s.ShSheet.Notes)],.vec [] so3 []]) (fun o3 h=>?_) (fun ro3 h=>?_) (fun so3 h=>?_)
 ·refine awp_selQ (LP 2 [1,2,4,11,12] (F132L1 fuel p_s wider) o3 (fun (c4:Int×(List Int))=>pr [(1,vi wider),(2,.ref 0 0),(4,.ref 1 0),(11,vi (p_s.ShSheet.Notes.length:Int)),(12,vi c4.1)] [.cells [vi p_s.ShSheet.Interval,.d (L9 p_s.ShSheet.Points),.d (L121 p_s.ShSheet.Notes)],.vec [] c4.2 []]) fuel (0,x1) h (fun _=>rfl) ?_)
  clear h
  intro n5 c4 h hrn5
  rw [F132L1] at h
  refine R0 ?_
  refine awp_seq (cd h (fun hb6 h=>?_) (fun hb6 h=>?_))
  ·refine awp_skip ?_
   show awp ..
   refine awp_seq (awp_block ?_)
   refine R0 ?_
   obtain ⟨x7,hx7,h⟩:=ob h
   obtain ⟨x8,hx8,h⟩:=ob h
   obtain ⟨x9,hx9,h⟩:=ob h
   obtain ⟨x10,hx10,h⟩:=ob h
   refine RT (.n 1 (.p (show LoadOk (([]:List V)++c4.2.map vi) 0 81 ((x7.map di0).map .d) from (by rw [map_dd];exact vecLoads (p:=0) (pre:=[]) rfl hx7 rfl)) (.h (.cells (x7.map di0)) (.n 2 (.pc (ct70 hx8) (.n 3 (.p (show ((((x8.1.map di0).map V.d)).length=81) from (by rw [map_dd];exact (List.length_map _).trans (need_of hx9))) (.p (show StoreOk (c4.2.map vi) 0 ((x8.1.map di0).map V.d) (x8.1.map vi) from (by rw [map_dd];exact vecStores (n:=81) ((List.length_map _).trans (need_of hx10)) (need_of hx9))) (.h (.nums x8.1) .nil))))))))) ?_
   refine R0 ?_
   refine cd h (fun hb11 h=>?_) (fun hb11 h=>?_)
   ·obtain ⟨x12,hx12,h⟩:=ob h
    obtain ⟨x13,hx13,h⟩:=ob h
    obtain ⟨x14,hx14,h⟩:=ob h
    refine RT (.p (show LoadOk (([]:List V)++x8.1.map vi) 0 81 ((x12.map di0).map .d) from (by rw [map_dd];exact vecLoads (p:=0) (pre:=[]) rfl hx12 rfl)) (.h (.cells (x12.map di0)) (.p (show ((((x12.map di0).map V.d)).length=81) from (by rw [map_dd];exact (List.length_map _).trans (need_of hx13))) (.p (show StoreOk (x8.1.map vi) 0 ((x12.map di0).map V.d) (x12.map vi) from (by rw [map_dd];exact vecStores (n:=81) ((List.length_map _).trans (need_of hx14)) (need_of hx13))) (.h (.nums x12) .nil))))) ?_
    obtain rfl:=oi h
    exact awp_ret (gs [1] [4,5] OutQ.ret)
   ·refine awp_skip ?_
    show awp ..
    refine X0 ?_
    exact gn 2 [1,2,4,11,12] (hrn5 _ h)
  ·refine awp_exit ?_
   obtain rfl:=oi h
   exact gs [0,1] [4] OutQ.norm
 ·obtain ⟨x19,hx19,h⟩:=ob h
  obtain rfl:=oi h
  exact main_ret (rl_ok (rl_cell (b:=4) (t:=124) (rs:=[.tmp 5]) (by kernel_rfl) (cellVec (id:=0) (ns:=ro3.1) (n:=81) (by kernel_rfl) (by kernel_rfl) (by kernel_rfl) (need_of hx19)) (rl_tmp (t:=5) (rs:=[]) (v:=vb ro3.2) (by kernel_rfl) (by kernel_rfl) (rl_nil rfl))) rfl)
 ·show awp ..
  obtain ⟨x15,hx15,h⟩:=ob h
  obtain ⟨x16,hx16,h⟩:=ob h
  obtain ⟨x17,hx17,h⟩:=ob h
  refine EN ?_
  refine RT (.p (show LoadOk (([]:List V)++so3.map vi) 0 81 ((x15.map di0).map .d) from (by rw [map_dd];exact vecLoads (p:=0) (pre:=[]) rfl hx15 rfl)) (.h (.cells (x15.map di0)) (.p (show ((((x15.map di0).map V.d)).length=81) from (by rw [map_dd];exact (List.length_map _).trans (need_of hx16))) (.p (show StoreOk (so3.map vi) 0 ((x15.map di0).map V.d) (x15.map vi) from (by rw [map_dd];exact vecStores (n:=81) ((List.length_map _).trans (need_of hx17)) (need_of hx16))) (.h (.nums x15) .nil))))) ?_
  obtain ⟨x18,hx18,h⟩:=ob h
  obtain rfl:=oi h
  exact awp_ret (main_ret (rl_ok (rl_cell (b:=4) (t:=124) (rs:=[.tmp 5]) (by kernel_rfl) (cellVec (id:=1) (ns:=x15) (n:=81) (by kernel_rfl) (by kernel_rfl) (by kernel_rfl) (need_of hx18)) (rl_tmp (t:=5) (rs:=[]) (v:=vb true) (by kernel_rfl) (by kernel_rfl) (rl_nil rfl))) rfl))
theorem ct62 {fuel:Nat}  {p_s:S_api_ShSheet} {res:(List Int)×Int} (h:F62 fuel p_s=some res):PCall Tryz.prog 62 [(.agg [(di p_s.Interval),(L9 p_s.Points),(L121 p_s.Notes)])] (.tup [.d (.agg (res.1.map di0)),vi res.2]):=by
 refine PCall.of_awp tt_ok (N:=25) Tryz.func62 rfl (by kernel_rfl) rfl (Nat.le_of_ble_eq_true rfl) rfl ?_
 unfold F62 at h
 refine EN ?_
 refine R0 ?_
 refine awp_vec 1 ((List.replicate 81 (0:Int)).map vi) [] (List.replicate 81 (0:Int)) [] [.cells [vi p_s.Interval,.d (L9 p_s.Points),.d (L121 p_s.Notes)],.vec [] (List.replicate 81 (0:Int)) []] (by kernel_rfl) rfl (by kernel_rfl) ?_
 refine awp_seq ?_
 obtain ⟨x1,hx1,h⟩:=ob h
 refine EN ?_
 refine RT (.n 1 (.pc (ct65 hx1) .nil)) ?_
 refine R0 ?_
 refine cd h (fun hb2 h=>?_) (fun hb2 h=>?_)
 ·obtain ⟨x3,hx3,h⟩:=ob h
  obtain ⟨x4,hx4,h⟩:=ob h
  refine RT (.p (show LoadOk (([]:List V)++(List.replicate 81 (0:Int)).map vi) 0 81 ((x3.map di0).map .d) from (by rw [map_dd];exact vecLoads (p:=0) (pre:=[]) rfl hx3 rfl)) (.h (.cells (x3.map di0)) (.n 1 (.p (show ((((x3.map di0).map V.d)).length=81) from (by rw [map_dd];exact (List.length_map _).trans (need_of hx4))) (.p (show StoreOk ((List.replicate 81 (0:Int)).map vi) 0 ((x3.map di0).map V.d) (x3.map vi) from (by rw [map_dd];exact vecStores (n:=81) rfl (need_of hx4))) (.h (.nums x3) .nil)))))) ?_
  obtain ⟨x5,hx5,h⟩:=ob h
  obtain rfl:=oi h
  exact awp_ret (main_ret (rl_ok (rl_cell (b:=2) (t:=124) (rs:=[.tmp 3]) (by kernel_rfl) (cellVec (id:=1) (ns:=x3) (n:=81) (by kernel_rfl) (by kernel_rfl) (by kernel_rfl) (need_of hx5)) (rl_tmp (t:=3) (rs:=[]) (v:=vi x1.2.2) (by kernel_rfl) (by kernel_rfl) (rl_nil rfl))) rfl))
 ·refine awp_skip ?_
  show awp ..
  obtain ⟨x6,hx6,h⟩:=ob h
  obtain ⟨x7,hx7,h⟩:=ob h
  refine RT (.n 2 (.pc (ct132 hx6) (.n 3 (.p (show ((((x6.1.map di0).map V.d)).length=81) from (by rw [map_dd];exact (List.length_map _).trans (need_of hx7))) (.p (show StoreOk ((List.replicate 81 (0:Int)).map vi) 0 ((x6.1.map di0).map V.d) (x6.1.map vi) from (by rw [map_dd];exact vecStores (n:=81) rfl (need_of hx7))) (.h (.nums x6.1) .nil)))))) ?_
  refine awp_seq (R0 ?_)
  refine cd h (fun hb8 h=>?_) (fun hb8 h=>?_)
  ·obtain ⟨x9,hx9,h⟩:=ob h
   obtain ⟨x10,hx10,h⟩:=ob h
   obtain ⟨x11,hx11,h⟩:=ob h
   refine RT (.p (show LoadOk (([]:List V)++x6.1.map vi) 0 81 ((x9.map di0).map .d) from (by rw [map_dd];exact vecLoads (p:=0) (pre:=[]) rfl hx9 rfl)) (.h (.cells (x9.map di0)) (.p (show ((((x9.map di0).map V.d)).length=81) from (by rw [map_dd];exact (List.length_map _).trans (need_of hx10))) (.p (show StoreOk (x6.1.map vi) 0 ((x9.map di0).map V.d) (x9.map vi) from (by rw [map_dd];exact vecStores (n:=81) ((List.length_map _).trans (need_of hx11)) (need_of hx10))) (.h (.nums x9) .nil))))) ?_
   obtain ⟨x12,hx12,h⟩:=ob h
   obtain rfl:=oi h
   exact awp_ret (main_ret (rl_ok (rl_cell (b:=2) (t:=124) (rs:=[.tmp 3]) (by kernel_rfl) (cellVec (id:=1) (ns:=x9) (n:=81) (by kernel_rfl) (by kernel_rfl) (by kernel_rfl) (need_of hx12)) (rl_tmp (t:=3) (rs:=[]) (v:=vi 9) (by kernel_rfl) (by kernel_rfl) (rl_nil rfl))) rfl))
  ·refine awp_skip ?_
   show awp ..
   obtain ⟨x13,hx13,h⟩:=ob h
   obtain ⟨x14,hx14,h⟩:=ob h
   obtain ⟨x15,hx15,h⟩:=ob h
   refine RT (.p (show LoadOk (([]:List V)++x6.1.map vi) 0 81 ((x13.map di0).map .d) from (by rw [map_dd];exact vecLoads (p:=0) (pre:=[]) rfl hx13 rfl)) (.h (.cells (x13.map di0)) (.p (show ((((x13.map di0).map V.d)).length=81) from (by rw [map_dd];exact (List.length_map _).trans (need_of hx14))) (.p (show StoreOk (x6.1.map vi) 0 ((x13.map di0).map V.d) (x13.map vi) from (by rw [map_dd];exact vecStores (n:=81) ((List.length_map _).trans (need_of hx15)) (need_of hx14))) (.h (.nums x13) .nil))))) ?_
   obtain ⟨x16,hx16,h⟩:=ob h
   obtain rfl:=oi h
   exact awp_ret (main_ret (rl_ok (rl_cell (b:=2) (t:=124) (rs:=[.tmp 3]) (by kernel_rfl) (cellVec (id:=1) (ns:=x13) (n:=81) (by kernel_rfl) (by kernel_rfl) (by kernel_rfl) (need_of hx16)) (rl_tmp (t:=3) (rs:=[]) (v:=vi 0) (by kernel_rfl) (by kernel_rfl) (rl_nil rfl))) rfl))
end Go.Proofs.YtkcgfceihpampaaGreatDoor
