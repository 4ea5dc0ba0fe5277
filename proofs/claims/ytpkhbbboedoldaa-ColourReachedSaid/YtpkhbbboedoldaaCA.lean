/- That functions of the seat compute this. Printed by a program of mine. -/
import Derived.Test.YtpkhbbboedoldaaS
import Derived.Test.YtpkhbbboedoldaaCE
import Derived.Test.YtpkhbbboedoldaaDA
namespace Go.Proofs.Ytpkhbbboedoldaa
open Go Go.Sx
set_option maxRecDepth 100000
set_option linter.unusedVariables false
theorem ct24 {fuel : Nat}  {p_m : S_api_ClMap} {legend : (List Int)} {res : (List Int) × Int} (h : F24 fuel p_m legend = some res) : PCall Try.prog 24 [(ma p_m), (L3 legend)] (.tup [.d (L3 res.1), vi res.2]) := by
 refine PCall.of_awp tt_ok (N := 39) Try.func24 rfl (by kernel_rfl) rfl (Nat.le_of_ble_eq_true rfl) rfl ?_
 unfold F24 at h
 refine g0 [1, 2, 4] [] [(1, .d (L3 legend)), (2, .ref 0 0), (4, .d dnil)] [mc p_m] ?_
 obtain ⟨x1, hx1, h⟩ := ob h
 refine gr [4, 5, 6] [.no, .no, .call [(ma p_m), (L3 legend)] (.tup [.d (OP89 x1.1), vi x1.2])] [(4, .d dnil), (5, vi x1.2), (6, .d (OP89 x1.1))] [mc p_m] [PCall Try.prog 64 [(ma p_m), (L3 legend)] (.tup [.d (OP89 x1.1), vi x1.2])] (ct64 hx1) ?_
 refine awp_seq (g0 [4, 5, 6, 16] [] [(4, .d dnil), (5, vi x1.2), (6, .d (OP89 x1.1)), (16, vb (x1.2 != 0))] [mc p_m] ?_)
 refine awp_cond (b := (x1.2 != 0)) (by kernel_rfl) (fun hb2 => ?_) (fun hb2 => ?_)
 ·rw [if_pos hb2] at h
  refine g0 [4, 5] [] [(4, .d dnil), (5, vi x1.2)] [mc p_m] ?_
  obtain rfl := Option.some.inj h
  refine gw 1 [4, 5] [(4, .d dnil), (5, vi x1.2)] [mc p_m] ?_
  refine awp_laxT 4 _ (L3 ([] : List Int)) _ (by kernel_rfl) (.nil (e := 1)) rfl ?_
  refine gw 1 [4, 5] [(4, .d (L3 ([] : List Int))), (5, vi x1.2)] [mc p_m] ?_
  exact awp_ret gm
 ·rw [if_neg (ntrue hb2)] at h
  refine awp_skip ?_
  show awp ..
  refine awp_seq ?_
  obtain ⟨x3, hx3, h⟩ := ob h
  refine gr [4, 21, 22, 23] [.no, .cells ([(L60 x3.ClMap.Borders), (di x3.ClMap.Step), (L60 x3.ClMap.Heights), (L51 x3.ClMap.Sides), (di x3.ClMap.Inks), (L51 x3.ClMap.Like), (L3 x3.legend), (L60 x3.bands)] ++ x3.vec.map di0)] [(4, .d dnil), (21, .d (L60 x3.bands)), (22, vi (x3.bands.length : Int)), (23, vi 0)] [mc p_m] [((OP89 x1.1) = .optr true ([(L60 x3.ClMap.Borders), (di x3.ClMap.Step), (L60 x3.ClMap.Heights), (L51 x3.ClMap.Sides), (di x3.ClMap.Inks), (L51 x3.ClMap.Like), (L3 x3.legend), (L60 x3.bands)] ++ x3.vec.map di0))] (optr_of (f := opc89) hx3) ?_
  refine awp_nil 4 1 (by kernel_rfl) ?_
  refine awp_eq (T' := [(4, .sl 1 1 0 ([] : List Int).length), (21, .d (L60 x3.bands)), (22, vi (x3.bands.length : Int)), (23, vi 0)]) (H' := [mc p_m, .data (([] : List Int).flatMap cel3)]) (by kernel_rfl) (by kernel_rfl) ?_
  refine gw 2 [4, 21, 22, 23] [(4, .sl 1 1 0 ([] : List Int).length), (21, .d (L60 x3.bands)), (22, vi (x3.bands.length : Int)), (23, vi 0)] [mc p_m, .data (([] : List Int).flatMap cel3)] ?_
  obtain ⟨o5, ho5, h⟩ := ob h
  refine awp_cut1 (OutQ (fun (ro5 : (List Int) × Int) => [(4, .d (L3 ro5.1)), (5, vi ro5.2)]) (fun (ro5 : (List Int) × Int) => []) (fun (so5 : (List Int)) => [(4, .sl 1 1 0 so5.length)]) (fun (so5 : (List Int)) => [mc p_m, .data (so5.flatMap cel3)]) o5) ?_ ?_
  ·clear h
   have h := ho5
   clear ho5
   refine awp_selQ (gw 2 [4, 21, 22, 23] [(4, .sl 1 1 0 ([] : List Int).length), (21, .d (L60 x3.bands)), (22, vi (x3.bands.length : Int)), (23, vi 0)] [mc p_m, .data (([] : List Int).flatMap cel3)] ?_)
   refine awp_block (awp_loop (n := fuel) ?_)
   refine awpN_ind (fun n (c6 : Int × (List Int)) => F24L1 x3 n c6) o5 (fun (c6 : Int × (List Int)) => [(4, .sl 1 1 0 c6.2.length), (21, .d (L60 x3.bands)), (22, vi (x3.bands.length : Int)), (23, vi c6.1)]) (fun (c6 : Int × (List Int)) => [mc p_m, .data (c6.2.flatMap cel3)]) (fun _ => rfl) ?_ fuel (0, ([] : List Int)) h
   clear h
   intro n7 c6 h hrn7
   change F24L1 x3 (n7 + 1) c6 = some o5 at h
   rw [F24L1] at h
   refine g0 [4, 21, 22, 23, 24] [] [(4, .sl 1 1 0 c6.2.length), (21, .d (L60 x3.bands)), (22, vi (x3.bands.length : Int)), (23, vi c6.1), (24, vb (decide (c6.1 < (x3.bands.length : Int))))] [mc p_m, .data (c6.2.flatMap cel3)] ?_
   refine awp_seq (awp_cond (b := (decide (c6.1 < (x3.bands.length : Int)))) (by kernel_rfl) (fun hb8 => ?_) (fun hb8 => ?_))
   ·rw [if_pos hb8] at h
    refine awp_skip ?_
    show awp ..
    refine awp_seq (awp_block ?_)
    obtain ⟨x9, hx9, h⟩ := ob h
    refine gr [4, 7, 8, 21, 22, 23] [.no, .cells (cel60 x9)] [(4, .sl 1 1 0 c6.2.length), (7, vi c6.1), (8, .ref 2 0), (21, .d (L60 x3.bands)), (22, vi (x3.bands.length : Int)), (23, vi c6.1)] [mc p_m, .data (c6.2.flatMap cel3), .cells [vi x9.Lo, vi x9.Hi]] [IX60 x3.bands c6.1 x9] (idxOk cel60_len hx9) ?_
    refine g0 [4, 7, 21, 22, 23, 32] [] [(4, .sl 1 1 0 c6.2.length), (7, vi c6.1), (21, .d (L60 x3.bands)), (22, vi (x3.bands.length : Int)), (23, vi c6.1), (32, vb (x9.Lo != x9.Hi))] [mc p_m, .data (c6.2.flatMap cel3), .cells [vi x9.Lo, vi x9.Hi]] ?_
    refine awp_cond (b := (x9.Lo != x9.Hi)) (by kernel_rfl) (fun hb10 => ?_) (fun hb10 => ?_)
    ·rw [if_pos hb10] at h
     obtain ⟨x11, hx11, h⟩ := ob h
     refine xr [4, 21, 22, 23] [.no, .no, .no, .list (c6.2 ++ ([c6.1] : List Int)).length ((c6.2 ++ ([c6.1] : List Int)).flatMap cel3)] [(4, .sl 1 1 0 (c6.2 ++ ([c6.1] : List Int)).length), (21, .d (L60 x3.bands)), (22, vi (x3.bands.length : Int)), (23, vi c6.1)] [mc p_m, .data ((c6.2 ++ ([c6.1] : List Int)).flatMap cel3), .cells [vi x9.Lo, vi x9.Hi]] [AppendOk ((c6.2.flatMap cel3).map .d) c6.2.length ([c6.1] : List Int).length (c6.2 ++ ([c6.1] : List Int)).length 1 8 (([c6.1] : List Int).flatMap cel3) ((c6.2 ++ ([c6.1] : List Int)).flatMap cel3)] (appendOk cel3_len (need_of hx11)) ?_
     show awp ..
     refine x0 [4, 21, 22, 23] [] [(4, .sl 1 1 0 (c6.2 ++ ([c6.1] : List Int)).length), (21, .d (L60 x3.bands)), (22, vi (x3.bands.length : Int)), (23, vi (w64 (c6.1 + 1)))] [mc p_m, .data ((c6.2 ++ ([c6.1] : List Int)).flatMap cel3), .cells [vi x9.Lo, vi x9.Hi]] ?_
     exact gn 2 [4, 21, 22, 23] (hrn7 ((w64 (c6.1 + 1)), (c6.2 ++ ([c6.1] : List Int))) h)
    ·rw [if_neg (ntrue hb10)] at h
     refine awp_skip ?_
     show awp ..
     refine x0 [4, 21, 22, 23] [] [(4, .sl 1 1 0 c6.2.length), (21, .d (L60 x3.bands)), (22, vi (x3.bands.length : Int)), (23, vi (w64 (c6.1 + 1)))] [mc p_m, .data (c6.2.flatMap cel3), .cells [vi x9.Lo, vi x9.Hi]] ?_
     exact gn 2 [4, 21, 22, 23] (hrn7 ((w64 (c6.1 + 1)), c6.2) h)
   ·rw [if_neg (ntrue hb8)] at h
    refine awp_exit ?_
    obtain rfl := Option.some.inj h
    exact gs [0, 1] [4] OutQ.norm
  ·intro e T H hq
   cases o5 with
   | inl ro5 =>
    obtain ⟨rfl, rfl, rfl⟩ := hq
    rw [outK_inl] at h
    obtain rfl := Option.some.inj h
    exact gm
   | inr so5 =>
    obtain ⟨rfl, rfl, rfl⟩ := hq
    rw [outK_inr] at h
    show awp ..
    refine g0 [4, 5] [] [(4, .sl 1 1 0 so5.length), (5, vi 0)] [mc p_m, .data (so5.flatMap cel3)] ?_
    obtain rfl := Option.some.inj h
    refine gw 2 [4, 5] [(4, .sl 1 1 0 so5.length), (5, vi 0)] [mc p_m, .data (so5.flatMap cel3)] ?_
    refine awp_freeze 4 1 (so5.flatMap cel3) (.sl 1 1 0 so5.length) (.d (L3 so5)) _ _ (ps := [(so5.flatMap cel3).length = so5.length * 1]) (by kernel_rfl) (by kernel_rfl) (by kernel_rfl) (flatMap_len cel3 1 cel3_len so5) rfl rfl ?_
    refine gw 2 [4, 5] [(4, .d (L3 so5)), (5, vi 0)] [mc p_m, .data (([] : List Int).flatMap cel3)] ?_
    exact awp_ret gm
theorem ct21 {fuel : Nat}  {p_m : S_api_ClMap} {legend : (List Int)} {res : (List S_api_Span) × Int} (h : F21 fuel p_m legend = some res) : PCall Try.prog 21 [(ma p_m), (L3 legend)] (.tup [.d (L60 res.1), vi res.2]) := by
 refine PCall.of_awp tt_ok (N := 21) Try.func21 rfl (by kernel_rfl) rfl (Nat.le_of_ble_eq_true rfl) rfl ?_
 unfold F21 at h
 refine g0 [1, 2] [] [(1, .d (L3 legend)), (2, .ref 0 0)] [mc p_m] ?_
 obtain ⟨x1, hx1, h⟩ := ob h
 refine gr [6, 7] [.no, .no, .call [(ma p_m), (L3 legend)] (.tup [.d (OP89 x1.1), vi x1.2])] [(6, .d (OP89 x1.1)), (7, vi x1.2)] [mc p_m] [PCall Try.prog 64 [(ma p_m), (L3 legend)] (.tup [.d (OP89 x1.1), vi x1.2])] (ct64 hx1) ?_
 refine awp_seq (g0 [6, 7, 15] [] [(6, .d (OP89 x1.1)), (7, vi x1.2), (15, vb (x1.2 != 0))] [mc p_m] ?_)
 refine awp_cond (b := (x1.2 != 0)) (by kernel_rfl) (fun hb2 => ?_) (fun hb2 => ?_)
 ·rw [if_pos hb2] at h
  refine g0 [4, 5] [] [(4, .d dnil), (5, vi x1.2)] [mc p_m] ?_
  obtain rfl := Option.some.inj h
  refine gw 1 [4, 5] [(4, .d dnil), (5, vi x1.2)] [mc p_m] ?_
  refine awp_laxT 4 _ (L60 ([] : List S_api_Span)) _ (by kernel_rfl) (.nil (e := 2)) rfl ?_
  refine gw 1 [4, 5] [(4, .d (L60 ([] : List S_api_Span))), (5, vi x1.2)] [mc p_m] ?_
  exact awp_ret gm
 ·rw [if_neg (ntrue hb2)] at h
  refine awp_skip ?_
  show awp ..
  obtain ⟨x3, hx3, h⟩ := ob h
  refine gr [4, 5] [.no, .cells ([(L60 x3.ClMap.Borders), (di x3.ClMap.Step), (L60 x3.ClMap.Heights), (L51 x3.ClMap.Sides), (di x3.ClMap.Inks), (L51 x3.ClMap.Like), (L3 x3.legend), (L60 x3.bands)] ++ x3.vec.map di0)] [(4, .d (L60 x3.bands)), (5, vi 0)] [mc p_m] [((OP89 x1.1) = .optr true ([(L60 x3.ClMap.Borders), (di x3.ClMap.Step), (L60 x3.ClMap.Heights), (L51 x3.ClMap.Sides), (di x3.ClMap.Inks), (L51 x3.ClMap.Like), (L3 x3.legend), (L60 x3.bands)] ++ x3.vec.map di0))] (optr_of (f := opc89) hx3) ?_
  obtain rfl := Option.some.inj h
  refine gw 1 [4, 5] [(4, .d (L60 x3.bands)), (5, vi 0)] [mc p_m] ?_
  exact awp_ret gm
theorem ct27 {fuel : Nat}  {p_m : S_api_ClMap} {legend : (List Int)} {res : (List S_api_ClPair) × Int} (h : F27 fuel p_m legend = some res) : PCall Try.prog 27 [(ma p_m), (L3 legend)] (.tup [.d (L51 res.1), vi res.2]) := by
 refine PCall.of_awp tt_ok (N := 49) Try.func27 rfl (by kernel_rfl) rfl (Nat.le_of_ble_eq_true rfl) rfl ?_
 unfold F27 at h
 refine g0 [1, 2, 4] [] [(1, .d (L3 legend)), (2, .ref 0 0), (4, .d dnil)] [mc p_m] ?_
 obtain ⟨x1, hx1, h⟩ := ob h
 refine gr [4, 5, 6] [.no, .no, .call [(ma p_m), (L3 legend)] (.tup [.d (OP89 x1.1), vi x1.2])] [(4, .d dnil), (5, vi x1.2), (6, .d (OP89 x1.1))] [mc p_m] [PCall Try.prog 64 [(ma p_m), (L3 legend)] (.tup [.d (OP89 x1.1), vi x1.2])] (ct64 hx1) ?_
 refine awp_seq (g0 [4, 5, 6, 18] [] [(4, .d dnil), (5, vi x1.2), (6, .d (OP89 x1.1)), (18, vb (x1.2 != 0))] [mc p_m] ?_)
 refine awp_cond (b := (x1.2 != 0)) (by kernel_rfl) (fun hb2 => ?_) (fun hb2 => ?_)
 ·rw [if_pos hb2] at h
  refine g0 [4, 5] [] [(4, .d dnil), (5, vi x1.2)] [mc p_m] ?_
  obtain rfl := Option.some.inj h
  refine gw 1 [4, 5] [(4, .d dnil), (5, vi x1.2)] [mc p_m] ?_
  refine awp_laxT 4 _ (L51 ([] : List S_api_ClPair)) _ (by kernel_rfl) (.nil (e := 2)) rfl ?_
  refine gw 1 [4, 5] [(4, .d (L51 ([] : List S_api_ClPair))), (5, vi x1.2)] [mc p_m] ?_
  exact awp_ret gm
 ·rw [if_neg (ntrue hb2)] at h
  refine awp_skip ?_
  show awp ..
  refine awp_seq ?_
  obtain ⟨x3, hx3, h⟩ := ob h
  obtain ⟨x4, hx4, h⟩ := ob h
  refine gr [4, 23, 24] [.no, .cells ([(L60 x3.ClMap.Borders), (di x3.ClMap.Step), (L60 x3.ClMap.Heights), (L51 x3.ClMap.Sides), (di x3.ClMap.Inks), (L51 x3.ClMap.Like), (L3 x3.legend), (L60 x3.bands)] ++ x3.vec.map di0), .no, .cells (x4.map di0)] [(4, .d dnil), (23, .d (.agg (x4.map di0))), (24, vi 0)] [mc p_m] [((OP89 x1.1) = .optr true ([(L60 x3.ClMap.Borders), (di x3.ClMap.Step), (L60 x3.ClMap.Heights), (L51 x3.ClMap.Sides), (di x3.ClMap.Inks), (L51 x3.ClMap.Like), (L3 x3.legend), (L60 x3.bands)] ++ x3.vec.map di0)), ((((x3.vec.map di0).drop 0).take 36 = x4.map di0) ∧ (x4.map di0).length = 36)] (And.intro (optr_of (f := opc89) hx3) (ropLoads hx4)) ?_
  refine awp_nil 4 2 (by kernel_rfl) ?_
  refine awp_eq (T' := [(4, .sl 2 1 0 ([] : List S_api_ClPair).length), (23, .d (.agg (x4.map di0))), (24, vi 0)]) (H' := [mc p_m, .data (([] : List S_api_ClPair).flatMap cel51)]) (by kernel_rfl) (by kernel_rfl) ?_
  refine gw 2 [4, 23, 24] [(4, .sl 2 1 0 ([] : List S_api_ClPair).length), (23, .d (.agg (x4.map di0))), (24, vi 0)] [mc p_m, .data (([] : List S_api_ClPair).flatMap cel51)] ?_
  obtain ⟨o6, ho6, h⟩ := ob h
  refine awp_cut1 (OutQ (fun (ro6 : (List S_api_ClPair) × Int) => [(4, .d (L51 ro6.1)), (5, vi ro6.2)]) (fun (ro6 : (List S_api_ClPair) × Int) => []) (fun (so6 : (List S_api_ClPair)) => [(4, .sl 2 1 0 so6.length)]) (fun (so6 : (List S_api_ClPair)) => [mc p_m, .data (so6.flatMap cel51)]) o6) ?_ ?_
  ·clear h
   have h := ho6
   clear ho6
   refine awp_selQ (gw 2 [4, 23, 24] [(4, .sl 2 1 0 ([] : List S_api_ClPair).length), (23, .d (.agg (x4.map di0))), (24, vi 0)] [mc p_m, .data (([] : List S_api_ClPair).flatMap cel51)] ?_)
   refine awp_block (awp_loop (n := fuel) ?_)
   refine awpN_ind (fun n (c7 : Int × (List S_api_ClPair)) => F27L1 fuel x4 n c7) o6 (fun (c7 : Int × (List S_api_ClPair)) => [(4, .sl 2 1 0 c7.2.length), (23, .d (.agg (x4.map di0))), (24, vi c7.1)]) (fun (c7 : Int × (List S_api_ClPair)) => [mc p_m, .data (c7.2.flatMap cel51)]) (fun _ => rfl) ?_ fuel (0, ([] : List S_api_ClPair)) h
   clear h
   intro n8 c7 h hrn8
   change F27L1 fuel x4 (n8 + 1) c7 = some o6 at h
   rw [F27L1] at h
   refine g0 [4, 23, 24, 25] [] [(4, .sl 2 1 0 c7.2.length), (23, .d (.agg (x4.map di0))), (24, vi c7.1), (25, vb (decide (c7.1 < 6)))] [mc p_m, .data (c7.2.flatMap cel51)] ?_
   refine awp_seq (awp_cond (b := (decide (c7.1 < 6))) (by kernel_rfl) (fun hb9 => ?_) (fun hb9 => ?_))
   ·rw [if_pos hb9] at h
    refine awp_skip ?_
    show awp ..
    refine awp_seq (awp_block ?_)
    obtain ⟨x10, hx10, h⟩ := ob h
    obtain ⟨x11, hx11, h⟩ := ob h
    obtain ⟨x12, hx12, h⟩ := ob h
    refine gr [4, 7, 8, 23, 24] [.no, .cells (x11.map di0), .no, .no, .vals (x11.map vi)] [(4, .sl 2 1 0 c7.2.length), (7, vi c7.1), (8, .ref 2 0), (23, .d (.agg (x4.map di0))), (24, vi c7.1)] [mc p_m, .data (c7.2.flatMap cel51), .cells (x11.map vi)] [IdxOk ((x4.map di0).drop 0) 6 6 c7.1 (x11.map di0), ((((x11.map di0).map V.d)).length = 6), StoreOk ((List.replicate 6 0).map vi) 0 ((x11.map di0).map V.d) (x11.map vi)] (And.intro (ropIdx (need_of hx10 : 0 ≤ c7.1 ∧ c7.1 < ((6 : Nat) : Int)) hx11) (And.intro ((by rw [map_dd]; exact (List.length_map _).trans (need_of hx12))) ((by rw [map_dd]; exact vecStores (n := 6) rfl (need_of hx12))))) ?_
    refine awp_vec 2 (x11.map vi) [] x11 [mc p_m, .data (c7.2.flatMap cel51), .vec [] x11] (by kernel_rfl) rfl (by kernel_rfl) ?_
    obtain ⟨x13, hx13, h⟩ := ob h
    refine gr [4, 7, 23, 24, 28, 29] [.cells (x13.map di0)] [(4, .sl 2 1 0 c7.2.length), (7, vi c7.1), (23, .d (.agg (x4.map di0))), (24, vi c7.1), (28, .d (.agg (x13.map di0))), (29, vi 0)] [mc p_m, .data (c7.2.flatMap cel51), .vec [] x11] [LoadOk ([] ++ x11.map vi) 0 6 ((x13.map di0).map .d)] ((by rw [map_dd]; exact vecLoads (p := 0) (pre := []) rfl hx13 rfl)) ?_
    obtain ⟨o14, ho14, h⟩ := ob h
    refine awp_cut1 (OutQ (fun (ro14 : (List S_api_ClPair) × Int) => [(4, .d (L51 ro14.1)), (5, vi ro14.2)]) (fun (ro14 : (List S_api_ClPair) × Int) => []) (fun (so14 : (List S_api_ClPair)) => [(4, .sl 2 1 0 so14.length), (23, .d (.agg (x4.map di0))), (24, vi c7.1)]) (fun (so14 : (List S_api_ClPair)) => [mc p_m, .data (so14.flatMap cel51), .vec [] x11]) o14) ?_ ?_
    ·clear h
     have h := ho14
     clear ho14
     refine awp_selQ (gw 3 [4, 7, 23, 24, 28, 29] [(4, .sl 2 1 0 c7.2.length), (7, vi c7.1), (23, .d (.agg (x4.map di0))), (24, vi c7.1), (28, .d (.agg (x13.map di0))), (29, vi 0)] [mc p_m, .data (c7.2.flatMap cel51), .vec [] x11] ?_)
     refine awp_block (awp_loop (n := fuel) ?_)
     refine awpN_ind (fun n (c15 : Int × (List S_api_ClPair)) => F27L2 c7 x13 n c15) o14 (fun (c15 : Int × (List S_api_ClPair)) => [(4, .sl 2 1 0 c15.2.length), (7, vi c7.1), (23, .d (.agg (x4.map di0))), (24, vi c7.1), (28, .d (.agg (x13.map di0))), (29, vi c15.1)]) (fun (c15 : Int × (List S_api_ClPair)) => [mc p_m, .data (c15.2.flatMap cel51), .vec [] x11]) (fun _ => rfl) ?_ fuel (0, c7.2) h
     clear h
     intro n16 c15 h hrn16
     change F27L2 c7 x13 (n16 + 1) c15 = some o14 at h
     rw [F27L2] at h
     refine g0 [4, 7, 23, 24, 28, 29, 30] [] [(4, .sl 2 1 0 c15.2.length), (7, vi c7.1), (23, .d (.agg (x4.map di0))), (24, vi c7.1), (28, .d (.agg (x13.map di0))), (29, vi c15.1), (30, vb (decide (c15.1 < 6)))] [mc p_m, .data (c15.2.flatMap cel51), .vec [] x11] ?_
     refine awp_seq (awp_cond (b := (decide (c15.1 < 6))) (by kernel_rfl) (fun hb17 => ?_) (fun hb17 => ?_))
     ·rw [if_pos hb17] at h
      refine awp_skip ?_
      show awp ..
      refine awp_seq (awp_block ?_)
      obtain ⟨x18, hx18, h⟩ := ob h
      obtain ⟨x19, hx19, h⟩ := ob h
      refine gr [4, 7, 9, 10, 23, 24, 28, 29] [.no, .cells [di0 x19]] [(4, .sl 2 1 0 c15.2.length), (7, vi c7.1), (9, vi c15.1), (10, vi x19), (23, .d (.agg (x4.map di0))), (24, vi c7.1), (28, .d (.agg (x13.map di0))), (29, vi c15.1)] [mc p_m, .data (c15.2.flatMap cel51), .vec [] x11] [IdxOk ((x13.map di0).drop 0) 1 6 c15.1 [di0 x19]] (ropIdx1 (need_of hx18 : 0 ≤ c15.1 ∧ c15.1 < ((6 : Nat) : Int)) hx19) ?_
      refine gr [4, 7, 9, 23, 24, 28, 29, 39] [] [(4, .sl 2 1 0 c15.2.length), (7, vi c7.1), (9, vi c15.1), (23, .d (.agg (x4.map di0))), (24, vi c7.1), (28, .d (.agg (x13.map di0))), (29, vi c15.1), (39, vb (cond (decide (c7.1 < c15.1)) (decide (x19 > 0)) false))] [mc p_m, .data (c15.2.flatMap cel51), .vec [] x11] [((decide (c7.1 < c15.1)) = true → (decide (c7.1 < c15.1)) = true), ((decide (c7.1 < c15.1)) = true → (decide (c7.1 < c15.1)) = true)] (And.intro (id) (id)) ?_
      refine awp_cond (b := (cond (decide (c7.1 < c15.1)) (decide (x19 > 0)) false)) (by kernel_rfl) (fun hb20 => ?_) (fun hb20 => ?_)
      ·rw [if_pos hb20] at h
       obtain ⟨x21, hx21, h⟩ := ob h
       refine xr [4, 7, 23, 24, 28, 29] [.no, .no, .no, .no, .no, .list (c15.2 ++ ([(⟨c7.1, c15.1⟩ : S_api_ClPair)] : List S_api_ClPair)).length ((c15.2 ++ ([(⟨c7.1, c15.1⟩ : S_api_ClPair)] : List S_api_ClPair)).flatMap cel51)] [(4, .sl 2 1 0 (c15.2 ++ ([(⟨c7.1, c15.1⟩ : S_api_ClPair)] : List S_api_ClPair)).length), (7, vi c7.1), (23, .d (.agg (x4.map di0))), (24, vi c7.1), (28, .d (.agg (x13.map di0))), (29, vi c15.1)] [mc p_m, .data ((c15.2 ++ ([(⟨c7.1, c15.1⟩ : S_api_ClPair)] : List S_api_ClPair)).flatMap cel51), .vec [] x11] [AppendOk ((c15.2.flatMap cel51).map .d) c15.2.length ([(⟨c7.1, c15.1⟩ : S_api_ClPair)] : List S_api_ClPair).length (c15.2 ++ ([(⟨c7.1, c15.1⟩ : S_api_ClPair)] : List S_api_ClPair)).length 2 16 (([(⟨c7.1, c15.1⟩ : S_api_ClPair)] : List S_api_ClPair).flatMap cel51) ((c15.2 ++ ([(⟨c7.1, c15.1⟩ : S_api_ClPair)] : List S_api_ClPair)).flatMap cel51)] (appendOk cel51_len (need_of hx21)) ?_
       show awp ..
       refine x0 [4, 7, 23, 24, 28, 29] [] [(4, .sl 2 1 0 (c15.2 ++ ([(⟨c7.1, c15.1⟩ : S_api_ClPair)] : List S_api_ClPair)).length), (7, vi c7.1), (23, .d (.agg (x4.map di0))), (24, vi c7.1), (28, .d (.agg (x13.map di0))), (29, vi (w64 (c15.1 + 1)))] [mc p_m, .data ((c15.2 ++ ([(⟨c7.1, c15.1⟩ : S_api_ClPair)] : List S_api_ClPair)).flatMap cel51), .vec [] x11] ?_
       exact gn 3 [4, 7, 23, 24, 28, 29] (hrn16 ((w64 (c15.1 + 1)), (c15.2 ++ ([(⟨c7.1, c15.1⟩ : S_api_ClPair)] : List S_api_ClPair))) h)
      ·rw [if_neg (ntrue hb20)] at h
       refine awp_skip ?_
       show awp ..
       refine x0 [4, 7, 23, 24, 28, 29] [] [(4, .sl 2 1 0 c15.2.length), (7, vi c7.1), (23, .d (.agg (x4.map di0))), (24, vi c7.1), (28, .d (.agg (x13.map di0))), (29, vi (w64 (c15.1 + 1)))] [mc p_m, .data (c15.2.flatMap cel51), .vec [] x11] ?_
       exact gn 3 [4, 7, 23, 24, 28, 29] (hrn16 ((w64 (c15.1 + 1)), c15.2) h)
     ·rw [if_neg (ntrue hb17)] at h
      refine awp_exit ?_
      obtain rfl := Option.some.inj h
      exact gs [0, 1, 2] [4, 23, 24] OutQ.norm
    ·intro e T H hq
     cases o14 with
     | inl ro14 =>
      obtain ⟨rfl, rfl, rfl⟩ := hq
      rw [outK_inl] at h
      obtain rfl := Option.some.inj h
      exact gs [] [4, 5] OutQ.ret
     | inr so14 =>
      obtain ⟨rfl, rfl, rfl⟩ := hq
      rw [outK_inr] at h
      show awp ..
      refine x0 [4, 23, 24] [] [(4, .sl 2 1 0 so14.length), (23, .d (.agg (x4.map di0))), (24, vi (w64 (c7.1 + 1)))] [mc p_m, .data (so14.flatMap cel51), .vec [] x11] ?_
      exact gn 2 [4, 23, 24] (hrn8 ((w64 (c7.1 + 1)), so14) h)
   ·rw [if_neg (ntrue hb9)] at h
    refine awp_exit ?_
    obtain rfl := Option.some.inj h
    exact gs [0, 1] [4] OutQ.norm
  ·intro e T H hq
   cases o6 with
   | inl ro6 =>
    obtain ⟨rfl, rfl, rfl⟩ := hq
    rw [outK_inl] at h
    obtain rfl := Option.some.inj h
    exact gm
   | inr so6 =>
    obtain ⟨rfl, rfl, rfl⟩ := hq
    rw [outK_inr] at h
    show awp ..
    refine g0 [4, 5] [] [(4, .sl 2 1 0 so6.length), (5, vi 0)] [mc p_m, .data (so6.flatMap cel51)] ?_
    obtain rfl := Option.some.inj h
    refine gw 2 [4, 5] [(4, .sl 2 1 0 so6.length), (5, vi 0)] [mc p_m, .data (so6.flatMap cel51)] ?_
    refine awp_freeze 4 1 (so6.flatMap cel51) (.sl 2 1 0 so6.length) (.d (L51 so6)) _ _ (ps := [(so6.flatMap cel51).length = so6.length * 2]) (by kernel_rfl) (by kernel_rfl) (by kernel_rfl) (flatMap_len cel51 2 cel51_len so6) rfl rfl ?_
    refine gw 2 [4, 5] [(4, .d (L51 so6)), (5, vi 0)] [mc p_m, .data (([] : List S_api_ClPair).flatMap cel51)] ?_
    exact awp_ret gm
end Go.Proofs.Ytpkhbbboedoldaa
