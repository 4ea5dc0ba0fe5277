/- That functions of the seat compute this. Printed by a program of mine. -/
import Derived.Test.YtkcgfceihpampaaGreatDoorS
import Derived.Test.YtkcgfceihpampaaGreatDoorCA
import Derived.Test.YtkcgfceihpampaaGreatDoorDB
namespace Go.Proofs.YtkcgfceihpampaaGreatDoor
open Go Go.Sx
set_option maxRecDepth 100000
set_option linter.unusedVariables false
theorem ct69 {fuel:Nat}   {res:(List Int)} (h:F69 fuel=some res):PCall Tryz.prog 69 [] (.d (.agg (res.map di0))):=by
 refine PCall.of_awp tt_ok (N:=23) Tryz.func69 rfl (by kernel_rfl) rfl (Nat.le_of_ble_eq_true rfl) rfl ?_
 unfold F69 at h
 refine EN ?_
 refine R0 ?_
 refine awp_vec 0 ((List.replicate 81 (0:Int)).map vi) [] (List.replicate 81 (0:Int)) [] [.vec [] (List.replicate 81 (0:Int)) []] (by kernel_rfl) rfl (by kernel_rfl) ?_
 refine awp_seq (EN ?_)
 refine R0 ?_
 refine cuo h (fun (ro1:(List Int))=>[(0,.ref 0 0)]) (fun (ro1:(List Int))=>[.vec [] ro1 []]) (fun (so1:(List Int))=>[(0,.ref 0 0)]) (fun (so1:(List Int))=>[.vec [] so1 []]) (fun o1 h=>?_) (fun ro1 h=>?_) (fun so1 h=>?_)
 ·refine awp_selQ (LP 1 [0,3] (F69L1 fuel) o1 (fun (c2:Int×(List Int))=>pr [(0,.ref 0 0),(3,vi c2.1)] [.vec [] c2.2 []]) fuel (0,(List.replicate 81 (0:Int))) h (fun _=>rfl) ?_)
  clear h
  intro n3 c2 h hrn3
  rw [F69L1] at h
  refine R0 ?_
  refine awp_seq (cd h (fun hb4 h=>?_) (fun hb4 h=>?_))
  ·refine awp_skip ?_
   show awp ..
   refine awp_seq (awp_block ?_)
   refine R0 ?_
   refine R0 ?_
   refine cuo h (fun (ro5:(List Int))=>[(0,.ref 0 0)]) (fun (ro5:(List Int))=>[.vec [] ro5 []]) (fun (so5:(List Int))=>[(0,.ref 0 0),(3,vi c2.1)]) (fun (so5:(List Int))=>[.vec [] so5 []]) (fun o5 h=>?_) (fun ro5 h=>?_) (fun so5 h=>?_)
   ·refine awp_selQ (LP 1 [0,1,3,6] (F69L2 c2) o5 (fun (c6:Int×(List Int))=>pr [(0,.ref 0 0),(1,vi c2.1),(3,vi c2.1),(6,vi c6.1)] [.vec [] c6.2 []]) fuel (0,c2.2) h (fun _=>rfl) ?_)
    clear h
    intro n7 c6 h hrn7
    rw [F69L2] at h
    refine R0 ?_
    refine awp_seq (cd h (fun hb8 h=>?_) (fun hb8 h=>?_))
    ·refine awp_skip ?_
     show awp ..
     refine awp_seq (awp_block ?_)
     refine R0 ?_
     let g1:=(c2.1 != c6.1)
     refine RT (.n 5 (.i g1 (.n 1 (.i g1 (.n 1 .nil))))) ?_
     refine cd h (fun hb9 h=>?_) (fun hb9 h=>?_)
     ·obtain ⟨x10,hx10,h⟩:=ob h
      obtain ⟨x11,hx11,h⟩:=ob h
      obtain ⟨x12,hx12,h⟩:=ob h
      refine XT (.n 2 (.p (need_of hx10:0≤c2.1∧c2.1<((9:Nat):Int)) (.n 1 (.p (need_of hx11:0≤c6.1∧c6.1<((9:Nat):Int)) (.n 1 (.p (show (([vi 9000]:List V).length=1) from (rfl:([vi 9000]:List V).length=1)) (.p (show StoreOk (([]:List V)++c6.2.map vi) (0+c2.1.toNat*9+c6.1.toNat*1) [vi 9000] (([]:List V)++(c6.2.set (0+c2.1.toNat*9+c6.1.toNat*1) 9000).map vi) from vecStore (p:=0) (pre:=[]) (k:=0+c2.1.toNat*9+c6.1.toNat*1) rfl hx12 (by omega)) (.h (.nums (c6.2.set (0+c2.1.toNat*9+c6.1.toNat*1) 9000)) .nil)))))))) ?_
      show awp ..
      refine X0 ?_
      exact gn 1 [0,1,3,6] (hrn7 _ h)
     ·refine awp_skip ?_
      show awp ..
      refine X0 ?_
      exact gn 1 [0,1,3,6] (hrn7 _ h)
    ·refine awp_exit ?_
     obtain rfl:=oi h
     exact gs [0] [0,3] OutQ.norm
   ·obtain rfl:=oi h
    exact gs [0] [0] OutQ.ret
   ·show awp ..
    refine EN ?_
    refine X0 ?_
    exact gn 1 [0,3] (hrn3 _ h)
  ·refine awp_exit ?_
   obtain rfl:=oi h
   exact gs [0] [0] OutQ.norm
 ·obtain ⟨x17,hx17,h⟩:=ob h
  obtain rfl:=oi h
  exact main_ret (rl_ok (rl_cell (b:=0) (t:=124) (rs:=[]) (by kernel_rfl) (cellVec (id:=0) (ns:=ro1) (n:=81) (by kernel_rfl) (by kernel_rfl) (by kernel_rfl) (need_of hx17)) (rl_nil rfl)) rfl)
 ·show awp ..
  obtain ⟨x13,hx13,h⟩:=ob h
  obtain ⟨x14,hx14,h⟩:=ob h
  obtain ⟨x15,hx15,h⟩:=ob h
  refine EN ?_
  refine RT (.p (show LoadOk (([]:List V)++so1.map vi) 0 81 ((x13.map di0).map .d) from (by rw [map_dd];exact vecLoads (p:=0) (pre:=[]) rfl hx13 rfl)) (.h (.cells (x13.map di0)) (.p (show ((((x13.map di0).map V.d)).length=81) from (by rw [map_dd];exact (List.length_map _).trans (need_of hx14))) (.p (show StoreOk (so1.map vi) 0 ((x13.map di0).map V.d) (x13.map vi) from (by rw [map_dd];exact vecStores (n:=81) ((List.length_map _).trans (need_of hx15)) (need_of hx14))) (.h (.nums x13) .nil))))) ?_
  obtain ⟨x16,hx16,h⟩:=ob h
  obtain rfl:=oi h
  exact awp_ret (main_ret (rl_ok (rl_cell (b:=0) (t:=124) (rs:=[]) (by kernel_rfl) (cellVec (id:=0) (ns:=x13) (n:=81) (by kernel_rfl) (by kernel_rfl) (by kernel_rfl) (need_of hx16)) (rl_nil rfl)) rfl))
theorem ct141v1  {p_s:S_sheet_sheet} {i:Int} {wider:Int} {res:Int×(List ByteArray)×(List S_api_ShNote)×Int×Int} (h:F141v1 p_s i wider=some res):HCall Tryz.prog 141 [.d (.agg [(di p_s.ShSheet.Interval),(L9 p_s.ShSheet.Points),(L121 p_s.ShSheet.Notes)]),vi i,vi wider] [] (.fn (.func 190) [] [.ref 0 0,.ref 1 0,.ref 2 0]) [.cells [vi res.1,.d (L9 res.2.1),.d (L121 res.2.2.1)],.cells [vi res.2.2.2.1],.cells [vi res.2.2.2.2]]:=by
 refine HCall.of_awpS tt_ok (N:=8) (fl:=0) Tryz.func141 rfl (by kernel_rfl) rfl rfl (Nat.le_of_ble_eq_true rfl) ?_
 unfold F141v1 at h
 refine EN ?_
 refine R0 ?_
 refine R0 ?_
 obtain rfl:=oi h
 exact awp_ret (main_retS [0,1,2] (.fn (.func 190) [] [.ref 0 0,.ref 1 0,.ref 2 0]) (by kernel_rfl) (by kernel_rfl) (by kernel_rfl) (by kernel_rfl))
theorem ct114 {fuel:Nat}  {from_:Int} {to_:Int} {most:Int} {b0x0:List Int} {res:Bool×(List Int)} (h:F114 fuel from_ to_ most b0x0=some res):HCall Tryz.prog 114 [.ref 0 0,vi from_,vi to_,vi most] [.vec [] b0x0 []] (vb res.1) [.vec [] res.2 []]:=by
 refine HCall.of_awpS tt_ok (N:=69) (fl:=1) Tryz.func114 rfl (by kernel_rfl) rfl rfl (Nat.le_of_ble_eq_true rfl) ?_
 unfold F114 at h
 refine EN ?_
 refine R0 ?_
 refine awp_seq ?_
 obtain ⟨x1,hx1,h⟩:=ob h
 obtain ⟨x2,hx2,h⟩:=ob h
 obtain ⟨x3,hx3,h⟩:=ob h
 refine RT (.n 5 (.p (need_of hx1:0≤from_∧from_<((9:Nat):Int)) (.n 1 (.p (need_of hx2:0≤to_∧to_<((9:Nat):Int)) (.n 1 (.p (show LoadOk (([]:List V)++b0x0.map vi) (0+from_.toNat*9+to_.toNat*1) 1 [vi x3] from vecLoad (p:=0) (pre:=[]) (k:=0+from_.toNat*9+to_.toNat*1) rfl hx3 (by omega)) (.h (.vals [vi x3]) .nil))))))) ?_
 refine cd h (fun hb4 h=>?_) (fun hb4 h=>?_)
 ·refine R0 ?_
  obtain rfl:=oi h
  exact awp_ret (main_retS [0] (vb true) (by kernel_rfl) (by kernel_rfl) (by kernel_rfl) (by kernel_rfl))
 ·refine awp_skip ?_
  show awp ..
  refine awp_seq ?_
  obtain ⟨x5,hx5,h⟩:=ob h
  obtain ⟨x6,hx6,h⟩:=ob h
  obtain ⟨x7,hx7,h⟩:=ob h
  refine RT (.n 5 (.p (need_of hx5:0≤to_∧to_<((9:Nat):Int)) (.n 1 (.p (need_of hx6:0≤from_∧from_<((9:Nat):Int)) (.n 1 (.p (show LoadOk (([]:List V)++b0x0.map vi) (0+to_.toNat*9+from_.toNat*1) 1 [vi x7] from vecLoad (p:=0) (pre:=[]) (k:=0+to_.toNat*9+from_.toNat*1) rfl hx7 (by omega)) (.h (.vals [vi x7]) .nil))))))) ?_
  refine cd h (fun hb8 h=>?_) (fun hb8 h=>?_)
  ·refine R0 ?_
   obtain rfl:=oi h
   exact awp_ret (main_retS [0] (vb false) (by kernel_rfl) (by kernel_rfl) (by kernel_rfl) (by kernel_rfl))
  ·refine awp_skip ?_
   show awp ..
   refine awp_seq (R0 ?_)
   refine cuo h (fun (ro9:Bool×(List Int))=>[(8,vb ro9.1)]) (fun (ro9:Bool×(List Int))=>[.vec [] ro9.2 []]) (fun (so9:(List Int))=>[]) (fun (so9:(List Int))=>[.vec [] so9 []]) (fun o9 h=>?_) (fun ro9 h=>?_) (fun so9 h=>?_)
   ·refine awp_selQ (LP 1 [0,1,2,3,30] (F114L1 fuel from_ to_ most) o9 (fun (c10:Int×(List Int))=>pr [(0,.ref 0 0),(1,vi from_),(2,vi to_),(3,vi most),(30,vi c10.1)] [.vec [] c10.2 []]) fuel (0,b0x0) h (fun _=>rfl) ?_)
    clear h
    intro n11 c10 h hrn11
    rw [F114L1] at h
    refine R0 ?_
    refine awp_seq (cd h (fun hb12 h=>?_) (fun hb12 h=>?_))
    ·refine awp_skip ?_
     show awp ..
     refine awp_seq (awp_block ?_)
     refine R0 ?_
     refine R0 ?_
     refine cuo h (fun (ro13:Bool×(List Int))=>[(8,vb ro13.1)]) (fun (ro13:Bool×(List Int))=>[.vec [] ro13.2 []]) (fun (so13:(List Int))=>[(0,.ref 0 0),(1,vi from_),(2,vi to_),(3,vi most),(30,vi c10.1)]) (fun (so13:(List Int))=>[.vec [] so13 []]) (fun o13 h=>?_) (fun ro13 h=>?_) (fun so13 h=>?_)
     ·refine awp_selQ (LP 1 [0,1,2,3,9,30,33] (F114L2 from_ to_ most c10) o13 (fun (c14:Int×(List Int))=>pr [(0,.ref 0 0),(1,vi from_),(2,vi to_),(3,vi most),(9,vi c10.1),(30,vi c10.1),(33,vi c14.1)] [.vec [] c14.2 []]) fuel (0,c10.2) h (fun _=>rfl) ?_)
      clear h
      intro n15 c14 h hrn15
      rw [F114L2] at h
      refine R0 ?_
      refine awp_seq (cd h (fun hb16 h=>?_) (fun hb16 h=>?_))
      ·refine awp_skip ?_
       show awp ..
       refine awp_seq (awp_block ?_)
       refine R0 ?_
       obtain ⟨x17,hx17,h⟩:=ob h
       obtain ⟨x18,hx18,h⟩:=ob h
       obtain ⟨x19,hx19,h⟩:=ob h
       obtain ⟨x20,hx20,h⟩:=ob h
       obtain ⟨x21,hx21,h⟩:=ob h
       obtain ⟨x22,hx22,h⟩:=ob h
       obtain ⟨x23,hx23,h⟩:=ob h
       obtain ⟨x24,hx24,h⟩:=ob h
       obtain ⟨x25,hx25,h⟩:=ob h
       obtain ⟨x26,hx26,h⟩:=ob h
       obtain ⟨x27,hx27,h⟩:=ob h
       obtain ⟨x28,hx28,h⟩:=ob h
       refine ET 30 (.n 7 (.p (need_of hx17:0≤c10.1∧c10.1<((9:Nat):Int)) (.n 1 (.p (need_of hx18:0≤c14.1∧c14.1<((9:Nat):Int)) (.n 1 (.p (show LoadOk (([]:List V)++c14.2.map vi) (0+c10.1.toNat*9+c14.1.toNat*1) 1 [vi x19] from vecLoad (p:=0) (pre:=[]) (k:=0+c10.1.toNat*9+c14.1.toNat*1) rfl hx19 (by omega)) (.h (.vals [vi x19]) (.n 4 (.p (need_of hx20:0≤c10.1∧c10.1<((9:Nat):Int)) (.n 1 (.p (need_of hx21:0≤from_∧from_<((9:Nat):Int)) (.n 1 (.p (show LoadOk (([]:List V)++c14.2.map vi) (0+c10.1.toNat*9+from_.toNat*1) 1 [vi x22] from vecLoad (p:=0) (pre:=[]) (k:=0+c10.1.toNat*9+from_.toNat*1) rfl hx22 (by omega)) (.h (.vals [vi x22]) (.n 6 (.p (need_of hx23:0≤to_∧to_<((9:Nat):Int)) (.n 1 (.p (need_of hx24:0≤c14.1∧c14.1<((9:Nat):Int)) (.n 1 (.p (show LoadOk (([]:List V)++c14.2.map vi) (0+to_.toNat*9+c14.1.toNat*1) 1 [vi x25] from vecLoad (p:=0) (pre:=[]) (k:=0+to_.toNat*9+c14.1.toNat*1) rfl hx25 (by omega)) (.h (.vals [vi x25]) (.n 3 (.p (need_of hx26:0≤c10.1∧c10.1<((9:Nat):Int)) (.n 1 (.p (need_of hx27:0≤c14.1∧c14.1<((9:Nat):Int)) (.n 1 (.p (show (([vi (if (w64 ((w64 (x22+most))+x25))<x19 then (w64 ((w64 (x22+most))+x25)) else x19)]:List V).length=1) from (rfl:([vi (if (w64 ((w64 (x22+most))+x25))<x19 then (w64 ((w64 (x22+most))+x25)) else x19)]:List V).length=1)) (.p (show StoreOk (([]:List V)++c14.2.map vi) (0+c10.1.toNat*9+c14.1.toNat*1) [vi (if (w64 ((w64 (x22+most))+x25))<x19 then (w64 ((w64 (x22+most))+x25)) else x19)] (([]:List V)++(c14.2.set (0+c10.1.toNat*9+c14.1.toNat*1) (if (w64 ((w64 (x22+most))+x25))<x19 then (w64 ((w64 (x22+most))+x25)) else x19)).map vi) from vecStore (p:=0) (pre:=[]) (k:=0+c10.1.toNat*9+c14.1.toNat*1) rfl hx28 (by omega)) (.h (.nums (c14.2.set (0+c10.1.toNat*9+c14.1.toNat*1) (if (w64 ((w64 (x22+most))+x25))<x19 then (w64 ((w64 (x22+most))+x25)) else x19))) .nil))))))))))))))))))))))))))))) ?_
       show awp ..
       refine X0 ?_
       exact gn 1 [0,1,2,3,9,30,33] (hrn15 _ h)
      ·refine awp_exit ?_
       obtain rfl:=oi h
       exact gs [0] [0,1,2,3,30] OutQ.norm
     ·obtain rfl:=oi h
      exact gs [0] [8] OutQ.ret
     ·show awp ..
      refine EN ?_
      refine X0 ?_
      exact gn 1 [0,1,2,3,30] (hrn11 _ h)
    ·refine awp_exit ?_
     obtain rfl:=oi h
     exact gs [0] [] OutQ.norm
   ·obtain rfl:=oi h
    exact (main_retS [0] (vb ro9.1) (by kernel_rfl) (by kernel_rfl) (by kernel_rfl) (by kernel_rfl))
   ·show awp ..
    refine EN ?_
    refine R0 ?_
    obtain rfl:=oi h
    exact awp_ret (main_retS [0] (vb true) (by kernel_rfl) (by kernel_rfl) (by kernel_rfl) (by kernel_rfl))
theorem ct70r {fuel:Nat}  {y1x0:Int} {y1x1:Int} {y1x2:Int} {b1x0:List Int} {b2x0:List Int} {b3x0:Bool} {res:Bool×(List Int)×(List Int)×Bool} (h:F70r fuel y1x0 y1x1 y1x2 b1x0 b2x0 b3x0=some res):YCall Tryz.prog [.yld 0,.d (.agg [(di y1x0),(di y1x1),(di y1x2)])] [.loop (some none) [15] asn70x0 bdy70x0 26 [(5,.ref 1 0),(8,.ref 2 0),(9,.ref 3 0)],.vec [] b1x0 [],.vec [] b2x0 [],.cells [vb b3x0]] (vb res.1) [.loop (some (cond res.1 none (some (.ret)))) [15] asn70x0 bdy70x0 26 [(5,.ref 1 0),(8,.ref 2 0),(9,.ref 3 0)],.vec [] res.2.1 [],.vec [] res.2.2.1 [],.cells [vb res.2.2.2]]:=by
 refine YCall.of_awp (N:=26) (k:=0) (ps:=[15]) (asg:=asn70x0) (bd:=bdy70x0) (Tl:=[(5,.ref 1 0),(8,.ref 2 0),(9,.ref 3 0)]) rfl (by kernel_rfl) rfl ?_
 refine awp_eq (T':=[(15,.d (.agg [(di y1x0),(di y1x1),(di y1x2)])),(5,.ref 1 0),(8,.ref 2 0),(9,.ref 3 0)]) (H':=[.loop (some none) [15] asn70x0 bdy70x0 26 [(5,.ref 1 0),(8,.ref 2 0),(9,.ref 3 0)],.vec [] b1x0 [],.vec [] b2x0 [],.cells [vb b3x0]]) (by kernel_rfl) rfl ?_
 change awp _ _ _ _ asn70x0 _ _ _
 unfold F70r at h
 refine XA [(5,.ref 1 0),(8,.ref 2 0),(9,.ref 3 0),(10,.ref 4 0)] [.loop (some none) [15] asn70x0 bdy70x0 26 [(5,.ref 1 0),(8,.ref 2 0),(9,.ref 3 0)],.vec [] b1x0 [],.vec [] b2x0 [],.cells [vb b3x0],.cells [vi y1x0,vi y1x1,vi y1x2]] ?_
 refine ⟨rfl,by kernel_rfl,?_⟩
 refine awp_eq (T':=[(5,.ref 1 0),(8,.ref 2 0),(9,.ref 3 0),(10,.ref 4 0)]) (H':=[.loop (none) [15] asn70x0 bdy70x0 26 [(5,.ref 1 0),(8,.ref 2 0),(9,.ref 3 0)],.vec [] b1x0 [],.vec [] b2x0 [],.cells [vb b3x0],.cells [vi y1x0,vi y1x1,vi y1x2]]) rfl rfl ?_
 refine awp_wkQ ?_
 refine awp_block ?_
 obtain ⟨x1,hx1,h⟩:=ob h
 refine EN ?_
 refine RT (.n 6 (.hc [(1,false)] (ct114 hx1) .nil)) ?_
 refine cd h (fun hb2 h=>?_) (fun hb2 h=>?_)
 ·obtain ⟨x3,hx3,h⟩:=ob h
  obtain ⟨x4,hx4,h⟩:=ob h
  obtain ⟨x5,hx5,h⟩:=ob h
  refine RT (.p (show LoadOk (([]:List V)++x1.2.map vi) 0 81 ((x3.map di0).map .d) from (by rw [map_dd];exact vecLoads (p:=0) (pre:=[]) rfl hx3 rfl)) (.h (.cells (x3.map di0)) (.p (show ((((x3.map di0).map V.d)).length=81) from (by rw [map_dd];exact (List.length_map _).trans (need_of hx4))) (.p (show StoreOk (b2x0.map vi) 0 ((x3.map di0).map V.d) (x3.map vi) from (by rw [map_dd];exact vecStores (n:=81) ((List.length_map _).trans (need_of hx5)) (need_of hx4))) (.h (.nums x3) .nil))))) ?_
  refine awp_ret ?_
  obtain rfl:=oi h
  repeat (first|refine blockQ_ne (by decide) ?_|refine thenQ_exit ?_|refine noGotoA_exit ?_)
  try delta blockQ
  try delta thenQ
  try delta noGotoA
  show Wk _ _ _ _ _
  refine Wk.mk 4 [] (by kernel_rfl) (T':=[]) (H':=[.loop (none) [15] asn70x0 bdy70x0 26 [(5,.ref 1 0),(8,.ref 2 0),(9,.ref 3 0)],.vec [] x1.2 [],.vec [] x3 [],.cells [vb false]]) (by kernel_rfl) (by kernel_rfl) ?_
  exact ⟨some (.ret),rfl,rfl,by kernel_rfl,by kernel_rfl⟩
 ·refine awp_skip ?_
  obtain rfl:=oi h
  repeat (first|refine blockQ_ne (by decide) ?_|refine thenQ_exit ?_|refine noGotoA_exit ?_)
  try delta blockQ
  try delta thenQ
  try delta noGotoA
  show Wk _ _ _ _ _
  refine Wk.mk 4 [] (by kernel_rfl) (T':=[]) (H':=[.loop (none) [15] asn70x0 bdy70x0 26 [(5,.ref 1 0),(8,.ref 2 0),(9,.ref 3 0)],.vec [] x1.2 [],.vec [] b2x0 [],.cells [vb b3x0]]) (by kernel_rfl) (by kernel_rfl) ?_
  exact ⟨none,rfl,rfl,by kernel_rfl,by kernel_rfl⟩
theorem ct190 {fuel:Nat}  {b1x0:List Int} {b2x0:List Int} {b3x0:Bool} {b4x0:Int} {b4x1:List ByteArray} {b4x2:List S_api_ShNote} {b5x0:Int} {b6x0:Int} {res:Bool×(List Int)×(List Int)×Bool} (h:F190 fuel b1x0 b2x0 b3x0 b4x0 b4x1 b4x2 b5x0 b6x0=some res):HCall Tryz.prog 190 [.yld 0,.ref 4 0,.ref 5 0,.ref 6 0] [.loop (some none) [15] asn70x0 bdy70x0 26 [(5,.ref 1 0),(8,.ref 2 0),(9,.ref 3 0)],.vec [] b1x0 [],.vec [] b2x0 [],.cells [vb b3x0],.cells [vi b4x0,.d (L9 b4x1),.d (L121 b4x2)],.cells [vi b5x0],.cells [vi b6x0]] (.tup []) [.loop (some (cond res.1 none (some (.ret)))) [15] asn70x0 bdy70x0 26 [(5,.ref 1 0),(8,.ref 2 0),(9,.ref 3 0)],.vec [] res.2.1 [],.vec [] res.2.2.1 [],.cells [vb res.2.2.2],.cells [vi b4x0,.d (L9 b4x1),.d (L121 b4x2)],.cells [vi b5x0],.cells [vi b6x0]]:=by
 refine HCall.of_awpS tt_ok (N:=59) (fl:=7) Tryz.func190 rfl (by kernel_rfl) rfl rfl (Nat.le_of_ble_eq_true rfl) ?_
 unfold F190 at h
 obtain ⟨x1,hx1,h⟩:=ob h
 refine EN ?_
 refine RT (.n 4 (.ix (idxOk cel121_len hx1) .nil)) ?_
 refine RS 1 ?_
 refine DT 6 (.n 4 (.h (.res 8) .nil)) ?_
 refine awp_seq ?_
 obtain ⟨x2,hx2,h⟩:=ob h
 refine RT (.n 1 (.pc (ct178 hx2) .nil)) ?_
 refine cuo h (fun (ro3:Bool×(List Int)×(List Int)×Bool)=>[]) (fun (ro3:Bool×(List Int)×(List Int)×Bool)=>[.loop (some (cond ro3.1 none (some (.ret)))) [15] asn70x0 bdy70x0 26 [(5,.ref 1 0),(8,.ref 2 0),(9,.ref 3 0)],.vec [] ro3.2.1 [],.vec [] ro3.2.2.1 [],.cells [vb ro3.2.2.2],.cells [vi b4x0,.d (L9 b4x1),.d (L121 b4x2)],.cells [vi b5x0],.cells [vi b6x0]]) (fun (so3:Int×Int×Int)=>[(0,.yld 0),(3,.ref 6 0),(5,.ref 7 0),(6,.ref 8 0),(7,vi so3.1)]) (fun (so3:Int×Int×Int)=>[.loop (some none) [15] asn70x0 bdy70x0 26 [(5,.ref 1 0),(8,.ref 2 0),(9,.ref 3 0)],.vec [] b1x0 [],.vec [] b2x0 [],.cells [vb b3x0],.cells [vi b4x0,.d (L9 b4x1),.d (L121 b4x2)],.cells [vi b5x0],.cells [vi b6x0],.cells [vi x1.Kind,vi x1.A,vi x1.B,vi x1.By.Lo,vi x1.By.Hi],.cells [vi so3.2.1,vi so3.2.2]]) (fun o3 h=>?_) (fun ro3 h=>?_) (fun so3 h=>?_)
 ·refine awp_selQ (awp_block ?_)
  refine R0 ?_
  refine cd h (fun hb4 h=>?_) (fun hb4 h=>?_)
  ·refine X0 ?_
   obtain rfl:=oi h
   exact gs [0,1,2,3,4,5,6,7,8] [0,3,5,6,7] OutQ.norm
  ·refine R0 ?_
   refine cd h (fun hb5 h=>?_) (fun hb5 h=>?_)
   ·refine X0 ?_
    obtain rfl:=oi h
    exact gs [0,1,2,3,4,5,6,7,8] [0,3,5,6,7] OutQ.norm
   ·refine awp_skip ?_
    obtain rfl:=oi h
    exact gs [0,1,2,3,4,5,6,7,8] [0,3,5,6,7] OutQ.norm
 ·obtain rfl:=oi h
  exact (main_retS [0,1,2,3,4,5,6] (.tup []) (by kernel_rfl) (by kernel_rfl) (by kernel_rfl) (by kernel_rfl))
 ·show awp ..
  obtain ⟨x6,hx6,h⟩:=ob h
  refine EN ?_
  refine RT (.n 9 (.yc [(0,false),(1,false),(2,false),(3,false)] (ct70r hx6) .nil)) ?_
  refine cd h (fun hb7 h=>?_) (fun hb7 h=>?_)
  ·refine WA 9 [(0,.yld 0),(3,.ref 6 0),(5,.ref 7 0),(6,.ref 8 0),(7,vi so3.1),(48,vb x6.1)] [.loop (some (cond x6.1 none (some (.ret)))) [15] asn70x0 bdy70x0 26 [(5,.ref 1 0),(8,.ref 2 0),(9,.ref 3 0)],.vec [] x6.2.1 [],.vec [] x6.2.2.1 [],.cells [vb x6.2.2.2],.cells [vi b4x0,.d (L9 b4x1),.d (L121 b4x2)],.cells [vi b5x0],.cells [vi b6x0],.cells [vi x1.Kind,vi x1.A,vi x1.B,vi x1.By.Lo,vi x1.By.Hi],.cells [vi so3.2.1,vi so3.2.2]] ?_
   refine awp_eq (T':=[(0,.yld 0),(3,.ref 6 0),(5,.ref 7 0),(6,.ref 8 0),(7,vi so3.1),(48,vb x6.1)]) (H':=[.loop (some none) [15] asn70x0 bdy70x0 26 [(5,.ref 1 0),(8,.ref 2 0),(9,.ref 3 0)],.vec [] x6.2.1 [],.vec [] x6.2.2.1 [],.cells [vb x6.2.2.2],.cells [vi b4x0,.d (L9 b4x1),.d (L121 b4x2)],.cells [vi b5x0],.cells [vi b6x0],.cells [vi x1.Kind,vi x1.A,vi x1.B,vi x1.By.Lo,vi x1.By.Hi],.cells [vi so3.2.1,vi so3.2.2]]) rfl (by simp only [hb7,cond_true]) ?_
   obtain ⟨x8,hx8,h⟩:=ob h
   refine EN ?_
   refine XT (.n 9 (.yc [(0,false),(1,false),(2,false),(3,false)] (ct70r hx8) .nil)) ?_
   obtain rfl:=oi h
   exact (main_retN [0,1,2,3,4,5,6] (.tup []) (by kernel_rfl) (by kernel_rfl) (by kernel_rfl) (by kernel_rfl))
  ·refine awp_skip ?_
   obtain rfl:=oi h
   exact (main_retN [0,1,2,3,4,5,6] (.tup []) (by kernel_rfl) (by kernel_rfl) (by kernel_rfl) (by kernel_rfl))
theorem ct70 {fuel:Nat}  {p_s:S_sheet_sheet} {p_b:(List Int)} {i:Int} {wider:Int} {res:(List Int)×Bool} (h:F70 fuel p_s p_b i wider=some res):PCall Tryz.prog 70 [(.agg [(di p_s.ShSheet.Interval),(L9 p_s.ShSheet.Points),(L121 p_s.ShSheet.Notes)]),(.agg (p_b.map di0)),(di i),(di wider)] (.tup [.d (.agg (res.1.map di0)),vb res.2]):=by
 refine PCall.of_awp tt_ok (N:=26) Tryz.func70 rfl (by kernel_rfl) rfl (Nat.le_of_ble_eq_true rfl) rfl ?_
 unfold F70 at h
 refine EN ?_
 refine R0 ?_
 refine awp_vec 1 ((p_b.map di0).map .d) [] p_b [] [.cells [vi p_s.ShSheet.Interval,.d (L9 p_s.ShSheet.Points),.d (L121 p_s.ShSheet.Notes)],.vec [] p_b [],.cells ((List.replicate 81 (0:Int)).map vi),.cells [vb false]] (by kernel_rfl) (map_dd _) (by kernel_rfl) ?_
 refine awp_vec 2 ((List.replicate 81 (0:Int)).map vi) [] (List.replicate 81 (0:Int)) [] [.cells [vi p_s.ShSheet.Interval,.d (L9 p_s.ShSheet.Points),.d (L121 p_s.ShSheet.Notes)],.vec [] p_b [],.vec [] (List.replicate 81 (0:Int)) [],.cells [vb false]] (by kernel_rfl) rfl (by kernel_rfl) ?_
 refine awp_seq ?_
 obtain ⟨x1,hx1,h⟩:=ob h
 refine EN ?_
 refine RT (.n 3 (.hc [] (ct141v1 hx1) .nil)) ?_
 refine awp_block (WA 7 [(5,.ref 1 0),(8,.ref 2 0),(9,.ref 3 0),(14,.fn (.func 190) [] [.ref 4 0,.ref 5 0,.ref 6 0])] [.cells [vi p_s.ShSheet.Interval,.d (L9 p_s.ShSheet.Points),.d (L121 p_s.ShSheet.Notes)],.vec [] p_b [],.vec [] (List.replicate 81 (0:Int)) [],.cells [vb false],.cells [vi x1.1,.d (L9 x1.2.1),.d (L121 x1.2.2.1)],.cells [vi x1.2.2.2.1],.cells [vi x1.2.2.2.2]] ?_)
 obtain ⟨x2,hx2,h⟩:=ob h
 by_cases hb3:x2.1=true
 ·rw [if_pos hb3] at h
  refine awp_range (ks:=[5,8,9]) (ids:=[(7,false),(1,false),(2,false),(3,false),(4,false),(5,false),(6,false)]) (r := .tup []) (Hc:=[.loop (some none) [15] asn70x0 bdy70x0 26 [(5,.ref 1 0),(8,.ref 2 0),(9,.ref 3 0)],.vec [] x2.2.1 [],.vec [] x2.2.2.1 [],.cells [vb x2.2.2.2],.cells [vi x1.1,.d (L9 x1.2.1),.d (L121 x1.2.2.1)],.cells [vi x1.2.2.2.1],.cells [vi x1.2.2.2.2]]) none [(5,.ref 1 0),(8,.ref 2 0),(9,.ref 3 0),(14,.fn (.func 190) [] [.ref 4 0,.ref 5 0,.ref 6 0])] [.cells [vi p_s.ShSheet.Interval,.d (L9 p_s.ShSheet.Points),.d (L121 p_s.ShSheet.Notes)],.vec [] x2.2.1 [],.vec [] x2.2.2.1 [],.cells [vb x2.2.2.2],.cells [vi x1.1,.d (L9 x1.2.1),.d (L121 x1.2.2.1)],.cells [vi x1.2.2.2.1],.cells [vi x1.2.2.2.2],.data []] [HCall Tryz.prog 190 [.yld 0,.ref 4 0,.ref 5 0,.ref 6 0] [.loop (some none) [15] asn70x0 bdy70x0 26 [(5,.ref 1 0),(8,.ref 2 0),(9,.ref 3 0)],.vec [] p_b [],.vec [] (List.replicate 81 (0:Int)) [],.cells [vb false],.cells [vi x1.1,.d (L9 x1.2.1),.d (L121 x1.2.2.1)],.cells [vi x1.2.2.2.1],.cells [vi x1.2.2.2.2]] (.tup []) [.loop (some none) [15] asn70x0 bdy70x0 26 [(5,.ref 1 0),(8,.ref 2 0),(9,.ref 3 0)],.vec [] x2.2.1 [],.vec [] x2.2.2.1 [],.cells [vb x2.2.2.2],.cells [vi x1.1,.d (L9 x1.2.1),.d (L121 x1.2.2.1)],.cells [vi x1.2.2.2.1],.cells [vi x1.2.2.2.2]]] rfl (by kernel_rfl) (by have h0:=ct190 hx2;rw [hb3] at h0;exact h0) (fun _=>?_) (fun c hc=>absurd hc (by simp))
  show awp ..
  obtain ⟨x4,hx4,h⟩:=ob h
  obtain ⟨x5,hx5,h⟩:=ob h
  obtain ⟨x6,hx6,h⟩:=ob h
  refine EN ?_
  refine RT (.p (show LoadOk (([]:List V)++x2.2.1.map vi) 0 81 ((x4.map di0).map .d) from (by rw [map_dd];exact vecLoads (p:=0) (pre:=[]) rfl hx4 rfl)) (.h (.cells (x4.map di0)) (.p (show ((((x4.map di0).map V.d)).length=81) from (by rw [map_dd];exact (List.length_map _).trans (need_of hx5))) (.p (show StoreOk (x2.2.2.1.map vi) 0 ((x4.map di0).map V.d) (x4.map vi) from (by rw [map_dd];exact vecStores (n:=81) ((List.length_map _).trans (need_of hx6)) (need_of hx5))) (.h (.nums x4) .nil))))) ?_
  obtain ⟨x7,hx7,h⟩:=ob h
  obtain rfl:=oi h
  exact awp_ret (main_ret (rl_ok (rl_cell (b:=8) (t:=124) (rs:=[.cell 9 4]) (by kernel_rfl) (cellVec (id:=2) (ns:=x4) (n:=81) (by kernel_rfl) (by kernel_rfl) (by kernel_rfl) (need_of hx7)) (rl_cell (b:=9) (t:=4) (rs:=[]) (v:=vb true) (by kernel_rfl) (by kernel_rfl) (rl_nil rfl))) rfl))
 ·rw [if_neg hb3] at h
  have hb3:=Bool.eq_false_iff.2 hb3
  refine awp_range (ks:=[5,8,9]) (ids:=[(7,false),(1,false),(2,false),(3,false),(4,false),(5,false),(6,false)]) (r := .tup []) (Hc:=[.loop (some (some (.ret))) [15] asn70x0 bdy70x0 26 [(5,.ref 1 0),(8,.ref 2 0),(9,.ref 3 0)],.vec [] x2.2.1 [],.vec [] x2.2.2.1 [],.cells [vb x2.2.2.2],.cells [vi x1.1,.d (L9 x1.2.1),.d (L121 x1.2.2.1)],.cells [vi x1.2.2.2.1],.cells [vi x1.2.2.2.2]]) (some (.ret)) [(5,.ref 1 0),(8,.ref 2 0),(9,.ref 3 0),(14,.fn (.func 190) [] [.ref 4 0,.ref 5 0,.ref 6 0])] [.cells [vi p_s.ShSheet.Interval,.d (L9 p_s.ShSheet.Points),.d (L121 p_s.ShSheet.Notes)],.vec [] x2.2.1 [],.vec [] x2.2.2.1 [],.cells [vb x2.2.2.2],.cells [vi x1.1,.d (L9 x1.2.1),.d (L121 x1.2.2.1)],.cells [vi x1.2.2.2.1],.cells [vi x1.2.2.2.2],.data []] [HCall Tryz.prog 190 [.yld 0,.ref 4 0,.ref 5 0,.ref 6 0] [.loop (some none) [15] asn70x0 bdy70x0 26 [(5,.ref 1 0),(8,.ref 2 0),(9,.ref 3 0)],.vec [] p_b [],.vec [] (List.replicate 81 (0:Int)) [],.cells [vb false],.cells [vi x1.1,.d (L9 x1.2.1),.d (L121 x1.2.2.1)],.cells [vi x1.2.2.2.1],.cells [vi x1.2.2.2.2]] (.tup []) [.loop (some (some (.ret))) [15] asn70x0 bdy70x0 26 [(5,.ref 1 0),(8,.ref 2 0),(9,.ref 3 0)],.vec [] x2.2.1 [],.vec [] x2.2.2.1 [],.cells [vb x2.2.2.2],.cells [vi x1.1,.d (L9 x1.2.1),.d (L121 x1.2.2.1)],.cells [vi x1.2.2.2.1],.cells [vi x1.2.2.2.2]]] rfl (by kernel_rfl) (by have h0:=ct190 hx2;rw [hb3] at h0;exact h0) (fun hc=>absurd hc (by simp)) (fun c hc=>?_)
  obtain rfl:=Option.some.inj hc
  obtain ⟨x8,hx8,h⟩:=ob h
  obtain rfl:=oi h
  exact awp_ret (main_ret (rl_ok (rl_cell (b:=8) (t:=124) (rs:=[.cell 9 4]) (by kernel_rfl) (cellVec (id:=2) (ns:=x2.2.2.1) (n:=81) (by kernel_rfl) (by kernel_rfl) (by kernel_rfl) (need_of hx8)) (rl_cell (b:=9) (t:=4) (rs:=[]) (v:=vb x2.2.2.2) (by kernel_rfl) (by kernel_rfl) (rl_nil rfl))) rfl))
end Go.Proofs.YtkcgfceihpampaaGreatDoor
