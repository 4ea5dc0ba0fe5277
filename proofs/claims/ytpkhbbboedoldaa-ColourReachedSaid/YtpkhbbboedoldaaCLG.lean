/- That functions of the seat compute this. Printed by a program of mine. -/
import Derived.Test.YtpkhbbboedoldaaS
import Derived.Test.YtpkhbbboedoldaaCQ
import Derived.Test.YtpkhbbboedoldaaDLG
namespace Go.Proofs.Ytpkhbbboedoldaa
open Go Go.Sx
set_option maxRecDepth 100000
set_option linter.unusedVariables false
theorem ct39 {fuel : Nat}  {p_m : S_api_ClMap} {res : Bool} (h : F39 fuel p_m = some res) : PCall Try.prog 39 [(ma p_m)] (vb res) := by
 refine PCall.of_awp tt_ok (N := 14) Try.func39 rfl (by kernel_rfl) rfl (Nat.le_of_ble_eq_true rfl) rfl ?_
 unfold F39 at h
 refine g0 [1] [] [(1, .ref 0 0)] [mc p_m] ?_
 obtain ⟨x1, hx1, h⟩ := ob h
 refine gr [5] [.no, .call [(ma p_m)] (.tup [vi x1.1, vi x1.2.1, vi x1.2.2])] [(5, vi x1.2.2)] [mc p_m] [PCall Try.prog 18 [(ma p_m)] (.tup [vi x1.1, vi x1.2.1, vi x1.2.2])] (ct18 hx1) ?_
 refine g0 [2] [] [(2, vb (x1.2.2 == 0))] [mc p_m] ?_
 obtain rfl := Option.some.inj h
 refine gw 1 [2] [(2, vb (x1.2.2 == 0))] [mc p_m] ?_
 exact awp_ret gm
theorem ct44  {l : (List Int)} {p_n : Int} {res : Int} (h : F44 l p_n = some res) : PCall Try.prog 44 [(L65 l), (di p_n)] (vi res) := by
 refine PCall.of_awp tt_ok (N := 16) Try.func44 rfl (by kernel_rfl) rfl (Nat.le_of_ble_eq_true rfl) rfl ?_
 unfold F44 at h
 refine g0 [0, 1] [] [(0, .d (L65 l)), (1, vi p_n)] [] ?_
 refine awp_seq (g0 [0, 1, 7] [] [(0, .d (L65 l)), (1, vi p_n), (7, vb ((l.length : Int) == 0))] [] ?_)
 refine awp_cond (b := ((l.length : Int) == 0)) (by kernel_rfl) (fun hb1 => ?_) (fun hb1 => ?_)
 ·rw [if_pos hb1] at h
  refine g0 [4] [] [(4, vi 0)] [] ?_
  obtain rfl := Option.some.inj h
  refine gw 0 [4] [(4, vi 0)] [] ?_
  exact awp_ret gm
 ·rw [if_neg (ntrue hb1)] at h
  refine awp_skip ?_
  show awp ..
  obtain ⟨x2, hx2, h⟩ := ob h
  obtain ⟨x3, hx3, h⟩ := ob h
  refine gr [4] [.no, .no, .no, .no, .no, .cells (cel65 x3)] [(4, vi (IntKind.i64.wrap x3))] [] [((l.length : Int) ≠ 0), IX65 l (p_n.tmod (l.length : Int)) x3] (And.intro ((need_of hx2 : (l.length : Int) ≠ 0)) (idxOk cel65_len hx3)) ?_
  obtain rfl := Option.some.inj h
  refine gw 0 [4] [(4, vi (IntKind.i64.wrap x3))] [] ?_
  exact awp_ret gm
theorem ct43  {p_s : S_api_Span} {p_n : Int} {res : Int} (h : F43 p_s p_n = some res) : PCall Try.prog 43 [(.agg [(di p_s.Lo), (di p_s.Hi)]), (di p_n)] (vi res) := by
 refine PCall.of_awp tt_ok (N := 16) Try.func43 rfl (by kernel_rfl) rfl (Nat.le_of_ble_eq_true rfl) rfl ?_
 unfold F43 at h
 refine g0 [1, 2] [] [(1, vi p_n), (2, .ref 0 0)] [.cells [vi p_s.Lo, vi p_s.Hi]] ?_
 obtain ⟨x1, hx1, h⟩ := ob h
 refine awp_sdraw tt_ok mixed (ks := [4]) (hs := []) 10 [4, 6, 14, 15] [(4, vi (w64 (p_s.Lo + (p_n.tmod (w64 ((w64 (p_s.Hi - p_s.Lo)) + 1))))))] [.cells [vi p_s.Lo, vi p_s.Hi]] [((w64 ((w64 (p_s.Hi - p_s.Lo)) + 1)) ≠ 0)] (by kernel_rfl) ((need_of hx1 : (w64 ((w64 (p_s.Hi - p_s.Lo)) + 1)) ≠ 0)) ?_
 obtain rfl := Option.some.inj h
 refine gw 1 [4] [(4, vi (w64 (p_s.Lo + (p_n.tmod (w64 ((w64 (p_s.Hi - p_s.Lo)) + 1))))))] [.cells [vi p_s.Lo, vi p_s.Hi]] ?_
 exact awp_ret gm
theorem ct40 {fuel : Nat}  {p_m : S_api_ClMap} {p_x : (List Int)} {res : (List Int)} (h : F40 fuel p_m p_x = some res) : PCall Try.prog 40 [(ma p_m), (L65 p_x)] (.d (L3 res)) := by
 refine PCall.of_awp tt_ok (N := 56) Try.func40 rfl (by kernel_rfl) rfl (Nat.le_of_ble_eq_true rfl) rfl ?_
 unfold F40 at h
 refine g0 [1, 2] [] [(1, .d (L65 p_x)), (2, .ref 0 0)] [mc p_m] ?_
 refine g0 [1, 2, 5] [] [(1, .d (L65 p_x)), (2, .ref 0 0), (5, .d dnil)] [mc p_m] ?_
 refine awp_seq (g0 [1, 2, 5, 6] [] [(1, .d (L65 p_x)), (2, .ref 0 0), (5, .d dnil), (6, vi 0)] [mc p_m] ?_)
 refine awp_nil 5 1 (by kernel_rfl) ?_
 refine awp_eq (T' := [(5, .sl 1 1 0 ([] : List Int).length), (1, .d (L65 p_x)), (2, .ref 0 0), (6, vi 0)]) (H' := [mc p_m, .data (([] : List Int).flatMap cel3)]) (by kernel_rfl) (by kernel_rfl) ?_
 refine gw 2 [1, 2, 5, 6] [(1, .d (L65 p_x)), (2, .ref 0 0), (5, .sl 1 1 0 ([] : List Int).length), (6, vi 0)] [mc p_m, .data (([] : List Int).flatMap cel3)] ?_
 obtain ⟨o2, ho2, h⟩ := ob h
 refine awp_cut1 (OutQ (fun (ro2 : (List Int)) => [(4, .d (L3 ro2))]) (fun (ro2 : (List Int)) => []) (fun (so2 : (List Int)) => [(5, .sl 1 1 0 so2.length)]) (fun (so2 : (List Int)) => [mc p_m, .data (so2.flatMap cel3)]) o2) ?_ ?_
 ·clear h
  have h := ho2
  clear ho2
  refine awp_selQ (gw 2 [1, 2, 5, 6] [(1, .d (L65 p_x)), (2, .ref 0 0), (5, .sl 1 1 0 ([] : List Int).length), (6, vi 0)] [mc p_m, .data (([] : List Int).flatMap cel3)] ?_)
  refine awp_block (awp_loop (n := fuel) ?_)
  refine awpN_ind (fun n (c3 : Int × (List Int)) => F40L1 p_m p_x n c3) o2 (fun (c3 : Int × (List Int)) => [(1, .d (L65 p_x)), (2, .ref 0 0), (5, .sl 1 1 0 c3.2.length), (6, vi c3.1)]) (fun (c3 : Int × (List Int)) => [mc p_m, .data (c3.2.flatMap cel3)]) (fun _ => rfl) ?_ fuel (0, ([] : List Int)) h
  clear h
  intro n4 c3 h hrn4
  change F40L1 p_m p_x (n4 + 1) c3 = some o2 at h
  rw [F40L1] at h
  refine awp_seq (g0 [1, 2, 5, 6, 12] [] [(1, .d (L65 p_x)), (2, .ref 0 0), (5, .sl 1 1 0 c3.2.length), (6, vi c3.1), (12, vb (decide (c3.1 < (p_m.Borders.length : Int))))] [mc p_m, .data (c3.2.flatMap cel3)] ?_)
  refine awp_cond (b := (decide (c3.1 < (p_m.Borders.length : Int)))) (by kernel_rfl) (fun hb5 => ?_) (fun hb5 => ?_)
  ·rw [if_pos hb5] at h
   refine awp_skip ?_
   show awp ..
   refine awp_seq (awp_block ?_)
   obtain ⟨x6, hx6, h⟩ := ob h
   refine gr [1, 2, 5, 6, 7] [.no, .no, .no, .cells (cel60 x6)] [(1, .d (L65 p_x)), (2, .ref 0 0), (5, .sl 1 1 0 c3.2.length), (6, vi c3.1), (7, .ref 2 0)] [mc p_m, .data (c3.2.flatMap cel3), .cells [vi x6.Lo, vi x6.Hi]] [IX60 p_m.Borders c3.1 x6] (idxOk cel60_len hx6) ?_
   refine awp_seq ?_
   obtain ⟨x7, hx7, h⟩ := ob h
   refine awp_sdraw tt_ok mixed (ks := [1, 2, 5, 6, 7, 34]) (hs := [.no, .no, .no, .no, .no, .no, .no, .vals (([(di x7)] : List D).map .d)]) 13 [1, 2, 5, 6, 7, 22, 30, 32, 33, 34] [(1, .d (L65 p_x)), (2, .ref 0 0), (5, .sl 1 1 0 c3.2.length), (6, vi c3.1), (7, .ref 2 0), (34, vb (cond (decide (c3.1 > 0)) (decide ((w64 (x7 + p_m.Step)) ≤ x6.Hi)) false))] [mc p_m, .data (c3.2.flatMap cel3), .cells [vi x6.Lo, vi x6.Hi]] [((decide (c3.1 > 0)) = true → (decide (c3.1 > 0)) = true), ((decide (c3.1 > 0)) = true → (decide (c3.1 > 0)) = true), ((decide (c3.1 > 0)) = true → (decide (c3.1 > 0)) = true), ((decide (c3.1 > 0)) = true → (0 ≤ (w64 (c3.1 - 1)) ∧ (w64 (c3.1 - 1)) < (c3.2.length : Int))), ((decide (c3.1 > 0)) = true → (decide (c3.1 > 0)) = true), ((decide (c3.1 > 0)) = true → LoadOk ((c3.2.flatMap cel3).map .d) (0 + (w64 (c3.1 - 1)).toNat * 1) 1 (([(di x7)] : List D).map .d)), ((decide (c3.1 > 0)) = true → (decide (c3.1 > 0)) = true), ((decide (c3.1 > 0)) = true → (decide (c3.1 > 0)) = true), ((decide (c3.1 > 0)) = true → (decide (c3.1 > 0)) = true), ((decide (c3.1 > 0)) = true → (decide (c3.1 > 0)) = true), ((decide (c3.1 > 0)) = true → (decide (c3.1 > 0)) = true), ((decide (c3.1 > 0)) = true → (decide (c3.1 > 0)) = true), ((decide (c3.1 > 0)) = true → (decide (c3.1 > 0)) = true)] (by kernel_rfl) (And.intro (id) (And.intro (id) (And.intro (id) (And.intro ((fun hg => idx_bounds (optG_of hx7 hg))) (And.intro (id) (And.intro ((fun hg => loadOk (j := 0) (es := ([(di x7)] : List D)) cel3_len (optG_of hx7 hg) rfl rfl rfl (Nat.le_of_ble_eq_true rfl))) (And.intro (id) (And.intro (id) (And.intro (id) (And.intro (id) (And.intro (id) (And.intro (id) (id))))))))))))) ?_
   refine awp_cond (b := (cond (decide (c3.1 > 0)) (decide ((w64 (x7 + p_m.Step)) ≤ x6.Hi)) false)) (by kernel_rfl) (fun hb8 => ?_) (fun hb8 => ?_)
   ·rw [if_pos hb8] at h
    obtain ⟨x9, hx9, h⟩ := ob h
    refine awp_draw (T' := [(1, .d (L65 p_x)), (2, .ref 0 0), (5, .sl 1 1 0 c3.2.length), (6, vi c3.1), (7, .ref 2 0)]) (H' := [mc p_m, .data (c3.2.flatMap cel3), .cells [vi (if (w64 (x9 + p_m.Step)) > x6.Lo then (w64 (x9 + p_m.Step)) else x6.Lo), vi x6.Hi]]) (ps := [(0 ≤ (w64 (c3.1 - 1)) ∧ (w64 (c3.1 - 1)) < (c3.2.length : Int)), LoadOk ((c3.2.flatMap cel3).map .d) (0 + (w64 (c3.1 - 1)).toNat * 1) 1 (([(di x9)] : List D).map .d)]) tt_ok mixed (ks := [1, 2, 5, 6, 7]) (hs := [.no, .no, .no, .no, .no, .no, .vals (([(di x9)] : List D).map .d)]) (m := 10) (mid := [1, 2, 5, 6, 7, 36, 44, 45, 46]) (by kernel_rfl) (And.intro (idx_bounds hx9) (loadOk (j := 0) (es := ([(di x9)] : List D)) cel3_len hx9 rfl rfl rfl (Nat.le_of_ble_eq_true rfl))) ?_
    show awp ..
    obtain ⟨x10, hx10, h⟩ := ob h
    obtain ⟨x11, hx11, h⟩ := ob h
    obtain ⟨x12, hx12, h⟩ := ob h
    refine awp_draw (T' := [(1, .d (L65 p_x)), (2, .ref 0 0), (5, .sl 1 1 0 (c3.2 ++ ([x11] : List Int)).length), (6, vi c3.1)]) (H' := [mc p_m, .data ((c3.2 ++ ([x11] : List Int)).flatMap cel3), .cells [vi (if (w64 (x9 + p_m.Step)) > x6.Lo then (w64 (x9 + p_m.Step)) else x6.Lo), vi x6.Hi]]) (ps := [PCall Try.prog 44 [(L65 p_x), (di c3.1)] (vi x10), PCall Try.prog 43 [(.agg [(di (if (w64 (x9 + p_m.Step)) > x6.Lo then (w64 (x9 + p_m.Step)) else x6.Lo)), (di x6.Hi)]), (di x10)] (vi x11), AppendOk ((c3.2.flatMap cel3).map .d) c3.2.length ([x11] : List Int).length (c3.2 ++ ([x11] : List Int)).length 1 8 (([x11] : List Int).flatMap cel3) ((c3.2 ++ ([x11] : List Int)).flatMap cel3)]) tt_ok mixed (ks := [1, 2, 5, 6]) (hs := [.no, .no, .no, .no, .call [(L65 p_x), (di c3.1)] (vi x10), .call [(.agg [(di (if (w64 (x9 + p_m.Step)) > x6.Lo then (w64 (x9 + p_m.Step)) else x6.Lo)), (di x6.Hi)]), (di x10)] (vi x11), .no, .list (c3.2 ++ ([x11] : List Int)).length ((c3.2 ++ ([x11] : List Int)).flatMap cel3)]) (m := 7) (mid := [1, 2, 5, 6, 47, 53, 54]) (by kernel_rfl) (And.intro (ct44 hx10) (And.intro (ct43 hx11) (appendOk cel3_len (need_of hx12)))) ?_
    show awp ..
    refine x0 [1, 2, 5, 6] [] [(1, .d (L65 p_x)), (2, .ref 0 0), (5, .sl 1 1 0 (c3.2 ++ ([x11] : List Int)).length), (6, vi (w64 (c3.1 + 1)))] [mc p_m, .data ((c3.2 ++ ([x11] : List Int)).flatMap cel3), .cells [vi (if (w64 (x9 + p_m.Step)) > x6.Lo then (w64 (x9 + p_m.Step)) else x6.Lo), vi x6.Hi]] ?_
    exact gn 2 [1, 2, 5, 6] (hrn4 ((w64 (c3.1 + 1)), (c3.2 ++ ([x11] : List Int))) h)
   ·rw [if_neg (ntrue hb8)] at h
    refine awp_skip ?_
    show awp ..
    obtain ⟨x13, hx13, h⟩ := ob h
    obtain ⟨x14, hx14, h⟩ := ob h
    obtain ⟨x15, hx15, h⟩ := ob h
    refine awp_draw (T' := [(1, .d (L65 p_x)), (2, .ref 0 0), (5, .sl 1 1 0 (c3.2 ++ ([x14] : List Int)).length), (6, vi c3.1)]) (H' := [mc p_m, .data ((c3.2 ++ ([x14] : List Int)).flatMap cel3), .cells [vi x6.Lo, vi x6.Hi]]) (ps := [PCall Try.prog 44 [(L65 p_x), (di c3.1)] (vi x13), PCall Try.prog 43 [(.agg [(di x6.Lo), (di x6.Hi)]), (di x13)] (vi x14), AppendOk ((c3.2.flatMap cel3).map .d) c3.2.length ([x14] : List Int).length (c3.2 ++ ([x14] : List Int)).length 1 8 (([x14] : List Int).flatMap cel3) ((c3.2 ++ ([x14] : List Int)).flatMap cel3)]) tt_ok mixed (ks := [1, 2, 5, 6]) (hs := [.no, .no, .no, .no, .call [(L65 p_x), (di c3.1)] (vi x13), .call [(.agg [(di x6.Lo), (di x6.Hi)]), (di x13)] (vi x14), .no, .list (c3.2 ++ ([x14] : List Int)).length ((c3.2 ++ ([x14] : List Int)).flatMap cel3)]) (m := 7) (mid := [1, 2, 5, 6, 47, 53, 54]) (by kernel_rfl) (And.intro (ct44 hx13) (And.intro (ct43 hx14) (appendOk cel3_len (need_of hx15)))) ?_
    show awp ..
    refine x0 [1, 2, 5, 6] [] [(1, .d (L65 p_x)), (2, .ref 0 0), (5, .sl 1 1 0 (c3.2 ++ ([x14] : List Int)).length), (6, vi (w64 (c3.1 + 1)))] [mc p_m, .data ((c3.2 ++ ([x14] : List Int)).flatMap cel3), .cells [vi x6.Lo, vi x6.Hi]] ?_
    exact gn 2 [1, 2, 5, 6] (hrn4 ((w64 (c3.1 + 1)), (c3.2 ++ ([x14] : List Int))) h)
  ·rw [if_neg (ntrue hb5)] at h
   refine awp_exit ?_
   obtain rfl := Option.some.inj h
   exact gs [0, 1] [5] OutQ.norm
 ·intro e T H hq
  cases o2 with
  | inl ro2 =>
   obtain ⟨rfl, rfl, rfl⟩ := hq
   rw [outK_inl] at h
   obtain rfl := Option.some.inj h
   exact gm
  | inr so2 =>
   obtain ⟨rfl, rfl, rfl⟩ := hq
   rw [outK_inr] at h
   show awp ..
   refine g0 [4] [] [(4, .sl 1 1 0 so2.length)] [mc p_m, .data (so2.flatMap cel3)] ?_
   obtain rfl := Option.some.inj h
   refine gw 2 [4] [(4, .sl 1 1 0 so2.length)] [mc p_m, .data (so2.flatMap cel3)] ?_
   refine awp_freeze 4 1 (so2.flatMap cel3) (.sl 1 1 0 so2.length) (.d (L3 so2)) _ _ (ps := [(so2.flatMap cel3).length = so2.length * 1]) (by kernel_rfl) (by kernel_rfl) (by kernel_rfl) (flatMap_len cel3 1 cel3_len so2) rfl rfl ?_
   refine gw 2 [4] [(4, .d (L3 so2))] [mc p_m, .data (([] : List Int).flatMap cel3)] ?_
   exact awp_ret gm
theorem ct41 {fuel : Nat}  {p_m : S_api_ClMap} {legend : (List Int)} {res : Bool} (h : F41 fuel p_m legend = some res) : PCall Try.prog 41 [(ma p_m), (L3 legend)] (vb res) := by
 refine PCall.of_awp tt_ok (N := 15) Try.func41 rfl (by kernel_rfl) rfl (Nat.le_of_ble_eq_true rfl) rfl ?_
 unfold F41 at h
 refine g0 [1, 2] [] [(1, .d (L3 legend)), (2, .ref 0 0)] [mc p_m] ?_
 obtain ⟨x1, hx1, h⟩ := ob h
 refine gr [6] [.no, .no, .call [(ma p_m), (L3 legend)] (.tup [vi x1.1, vi x1.2])] [(6, vi x1.2)] [mc p_m] [PCall Try.prog 20 [(ma p_m), (L3 legend)] (.tup [vi x1.1, vi x1.2])] (ct20 hx1) ?_
 refine g0 [4] [] [(4, vb (x1.2 == 0))] [mc p_m] ?_
 obtain rfl := Option.some.inj h
 refine gw 1 [4] [(4, vb (x1.2 == 0))] [mc p_m] ?_
 exact awp_ret gm
end Go.Proofs.Ytpkhbbboedoldaa
