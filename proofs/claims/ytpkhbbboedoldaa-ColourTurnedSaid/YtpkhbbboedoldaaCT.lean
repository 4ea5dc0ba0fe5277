/- That functions of the seat compute this. Printed by a program of mine. -/
import Derived.Test.YtpkhbbboedoldaaS
import Derived.Test.YtpkhbbboedoldaaCA
import Derived.Test.YtpkhbbboedoldaaCHS
import Derived.Test.YtpkhbbboedoldaaCQ
import Derived.Test.YtpkhbbboedoldaaCW
import Derived.Test.YtpkhbbboedoldaaDT
namespace Go.Proofs.Ytpkhbbboedoldaa
open Go Go.Sx
set_option maxRecDepth 100000
set_option linter.unusedVariables false
theorem ct39 {fuel : Nat}  {p_m : S_api_ClMap} {res : Bool} (h : F39 fuel p_m = some res) : PCall Try.prog 39 [(ma p_m)] (vb res) := by
 refine PCall.of_awp tt_ok (N := 14) Try.func39 rfl (by kernel_rfl) rfl (Nat.le_of_ble_eq_true rfl) rfl ?_
 unfold F39 at h
 refine g0 [1] [] [(1, .ref 0 0)] [mc p_m] ?_
 obtain ⟨x1, hx1, h⟩ := ob h
 refine gr [5] [.no, .call [(ma p_m)] (.tup [vi x1.1, vi x1.2.1, vi x1.2.2])] [(5, vi x1.2.2)] [mc p_m] [PCall Try.prog 18 [(ma p_m)] (.tup [vi x1.1, vi x1.2.1, vi x1.2.2])] (ct18 hx1) ?_
 refine g0 [2] [] [(2, vb (x1.2.2 == 0))] [mc p_m] ?_
 obtain rfl := Option.some.inj h
 refine gw 1 [2] [(2, vb (x1.2.2 == 0))] [mc p_m] ?_
 exact awp_ret gm
theorem ct44  {l : (List Int)} {p_n : Int} {res : Int} (h : F44 l p_n = some res) : PCall Try.prog 44 [(L65 l), (di p_n)] (vi res) := by
 refine PCall.of_awp tt_ok (N := 16) Try.func44 rfl (by kernel_rfl) rfl (Nat.le_of_ble_eq_true rfl) rfl ?_
 unfold F44 at h
 refine g0 [0, 1] [] [(0, .d (L65 l)), (1, vi p_n)] [] ?_
 refine awp_seq (g0 [0, 1, 7] [] [(0, .d (L65 l)), (1, vi p_n), (7, vb ((l.length : Int) == 0))] [] ?_)
 refine awp_cond (b := ((l.length : Int) == 0)) (by kernel_rfl) (fun hb1 => ?_) (fun hb1 => ?_)
 ·rw [if_pos hb1] at h
  refine g0 [4] [] [(4, vi 0)] [] ?_
  obtain rfl := Option.some.inj h
  refine gw 0 [4] [(4, vi 0)] [] ?_
  exact awp_ret gm
 ·rw [if_neg (ntrue hb1)] at h
  refine awp_skip ?_
  show awp ..
  obtain ⟨x2, hx2, h⟩ := ob h
  obtain ⟨x3, hx3, h⟩ := ob h
  refine gr [4] [.no, .no, .no, .no, .no, .cells (cel65 x3)] [(4, vi (IntKind.i64.wrap x3))] [] [((l.length : Int) ≠ 0), IX65 l (p_n.tmod (l.length : Int)) x3] (And.intro ((need_of hx2 : (l.length : Int) ≠ 0)) (idxOk cel65_len hx3)) ?_
  obtain rfl := Option.some.inj h
  refine gw 0 [4] [(4, vi (IntKind.i64.wrap x3))] [] ?_
  exact awp_ret gm
theorem ct43  {p_s : S_api_Span} {p_n : Int} {res : Int} (h : F43 p_s p_n = some res) : PCall Try.prog 43 [(.agg [(di p_s.Lo), (di p_s.Hi)]), (di p_n)] (vi res) := by
 refine PCall.of_awp tt_ok (N := 16) Try.func43 rfl (by kernel_rfl) rfl (Nat.le_of_ble_eq_true rfl) rfl ?_
 unfold F43 at h
 refine g0 [1, 2] [] [(1, vi p_n), (2, .ref 0 0)] [.cells [vi p_s.Lo, vi p_s.Hi]] ?_
 obtain ⟨x1, hx1, h⟩ := ob h
 refine awp_sdraw tt_ok mixed (ks := [4]) (hs := []) 10 [4, 6, 14, 15] [(4, vi (w64 (p_s.Lo + (p_n.tmod (w64 ((w64 (p_s.Hi - p_s.Lo)) + 1))))))] [.cells [vi p_s.Lo, vi p_s.Hi]] [((w64 ((w64 (p_s.Hi - p_s.Lo)) + 1)) ≠ 0)] (by kernel_rfl) ((need_of hx1 : (w64 ((w64 (p_s.Hi - p_s.Lo)) + 1)) ≠ 0)) ?_
 obtain rfl := Option.some.inj h
 refine gw 1 [4] [(4, vi (w64 (p_s.Lo + (p_n.tmod (w64 ((w64 (p_s.Hi - p_s.Lo)) + 1))))))] [.cells [vi p_s.Lo, vi p_s.Hi]] ?_
 exact awp_ret gm
theorem ct40 {fuel : Nat}  {p_m : S_api_ClMap} {p_x : (List Int)} {res : (List Int)} (h : F40 fuel p_m p_x = some res) : PCall Try.prog 40 [(ma p_m), (L65 p_x)] (.d (L3 res)) := by
 refine PCall.of_awp tt_ok (N := 56) Try.func40 rfl (by kernel_rfl) rfl (Nat.le_of_ble_eq_true rfl) rfl ?_
 unfold F40 at h
 refine g0 [1, 2] [] [(1, .d (L65 p_x)), (2, .ref 0 0)] [mc p_m] ?_
 refine g0 [1, 2, 5] [] [(1, .d (L65 p_x)), (2, .ref 0 0), (5, .d dnil)] [mc p_m] ?_
 refine awp_seq (g0 [1, 2, 5, 6] [] [(1, .d (L65 p_x)), (2, .ref 0 0), (5, .d dnil), (6, vi 0)] [mc p_m] ?_)
 refine awp_nil 5 1 (by kernel_rfl) ?_
 refine awp_eq (T' := [(5, .sl 1 1 0 ([] : List Int).length), (1, .d (L65 p_x)), (2, .ref 0 0), (6, vi 0)]) (H' := [mc p_m, .data (([] : List Int).flatMap cel3)]) (by kernel_rfl) (by kernel_rfl) ?_
 refine gw 2 [1, 2, 5, 6] [(1, .d (L65 p_x)), (2, .ref 0 0), (5, .sl 1 1 0 ([] : List Int).length), (6, vi 0)] [mc p_m, .data (([] : List Int).flatMap cel3)] ?_
 obtain ⟨o2, ho2, h⟩ := ob h
 refine awp_cut1 (OutQ (fun (ro2 : (List Int)) => [(4, .d (L3 ro2))]) (fun (ro2 : (List Int)) => []) (fun (so2 : (List Int)) => [(5, .sl 1 1 0 so2.length)]) (fun (so2 : (List Int)) => [mc p_m, .data (so2.flatMap cel3)]) o2) ?_ ?_
 ·clear h
  have h := ho2
  clear ho2
  refine awp_selQ (gw 2 [1, 2, 5, 6] [(1, .d (L65 p_x)), (2, .ref 0 0), (5, .sl 1 1 0 ([] : List Int).length), (6, vi 0)] [mc p_m, .data (([] : List Int).flatMap cel3)] ?_)
  refine awp_block (awp_loop (n := fuel) ?_)
  refine awpN_ind (fun n (c3 : Int × (List Int)) => F40L1 p_m p_x n c3) o2 (fun (c3 : Int × (List Int)) => [(1, .d (L65 p_x)), (2, .ref 0 0), (5, .sl 1 1 0 c3.2.length), (6, vi c3.1)]) (fun (c3 : Int × (List Int)) => [mc p_m, .data (c3.2.flatMap cel3)]) (fun _ => rfl) ?_ fuel (0, ([] : List Int)) h
  clear h
  intro n4 c3 h hrn4
  change F40L1 p_m p_x (n4 + 1) c3 = some o2 at h
  rw [F40L1] at h
  refine awp_seq (g0 [1, 2, 5, 6, 12] [] [(1, .d (L65 p_x)), (2, .ref 0 0), (5, .sl 1 1 0 c3.2.length), (6, vi c3.1), (12, vb (decide (c3.1 < (p_m.Borders.length : Int))))] [mc p_m, .data (c3.2.flatMap cel3)] ?_)
  refine awp_cond (b := (decide (c3.1 < (p_m.Borders.length : Int)))) (by kernel_rfl) (fun hb5 => ?_) (fun hb5 => ?_)
  ·rw [if_pos hb5] at h
   refine awp_skip ?_
   show awp ..
   refine awp_seq (awp_block ?_)
   obtain ⟨x6, hx6, h⟩ := ob h
   refine gr [1, 2, 5, 6, 7] [.no, .no, .no, .cells (cel60 x6)] [(1, .d (L65 p_x)), (2, .ref 0 0), (5, .sl 1 1 0 c3.2.length), (6, vi c3.1), (7, .ref 2 0)] [mc p_m, .data (c3.2.flatMap cel3), .cells [vi x6.Lo, vi x6.Hi]] [IX60 p_m.Borders c3.1 x6] (idxOk cel60_len hx6) ?_
   refine awp_seq ?_
   obtain ⟨x7, hx7, h⟩ := ob h
   refine awp_sdraw tt_ok mixed (ks := [1, 2, 5, 6, 7, 34]) (hs := [.no, .no, .no, .no, .no, .no, .no, .vals (([(di x7)] : List D).map .d)]) 13 [1, 2, 5, 6, 7, 22, 30, 32, 33, 34] [(1, .d (L65 p_x)), (2, .ref 0 0), (5, .sl 1 1 0 c3.2.length), (6, vi c3.1), (7, .ref 2 0), (34, vb (cond (decide (c3.1 > 0)) (decide ((w64 (x7 + p_m.Step)) ≤ x6.Hi)) false))] [mc p_m, .data (c3.2.flatMap cel3), .cells [vi x6.Lo, vi x6.Hi]] [((decide (c3.1 > 0)) = true → (decide (c3.1 > 0)) = true), ((decide (c3.1 > 0)) = true → (decide (c3.1 > 0)) = true), ((decide (c3.1 > 0)) = true → (decide (c3.1 > 0)) = true), ((decide (c3.1 > 0)) = true → (0 ≤ (w64 (c3.1 - 1)) ∧ (w64 (c3.1 - 1)) < (c3.2.length : Int))), ((decide (c3.1 > 0)) = true → (decide (c3.1 > 0)) = true), ((decide (c3.1 > 0)) = true → LoadOk ((c3.2.flatMap cel3).map .d) (0 + (w64 (c3.1 - 1)).toNat * 1) 1 (([(di x7)] : List D).map .d)), ((decide (c3.1 > 0)) = true → (decide (c3.1 > 0)) = true), ((decide (c3.1 > 0)) = true → (decide (c3.1 > 0)) = true), ((decide (c3.1 > 0)) = true → (decide (c3.1 > 0)) = true), ((decide (c3.1 > 0)) = true → (decide (c3.1 > 0)) = true), ((decide (c3.1 > 0)) = true → (decide (c3.1 > 0)) = true), ((decide (c3.1 > 0)) = true → (decide (c3.1 > 0)) = true), ((decide (c3.1 > 0)) = true → (decide (c3.1 > 0)) = true)] (by kernel_rfl) (And.intro (id) (And.intro (id) (And.intro (id) (And.intro ((fun hg => idx_bounds (optG_of hx7 hg))) (And.intro (id) (And.intro ((fun hg => loadOk (j := 0) (es := ([(di x7)] : List D)) cel3_len (optG_of hx7 hg) rfl rfl rfl (Nat.le_of_ble_eq_true rfl))) (And.intro (id) (And.intro (id) (And.intro (id) (And.intro (id) (And.intro (id) (And.intro (id) (id))))))))))))) ?_
   refine awp_cond (b := (cond (decide (c3.1 > 0)) (decide ((w64 (x7 + p_m.Step)) ≤ x6.Hi)) false)) (by kernel_rfl) (fun hb8 => ?_) (fun hb8 => ?_)
   ·rw [if_pos hb8] at h
    obtain ⟨x9, hx9, h⟩ := ob h
    refine awp_draw (T' := [(1, .d (L65 p_x)), (2, .ref 0 0), (5, .sl 1 1 0 c3.2.length), (6, vi c3.1), (7, .ref 2 0)]) (H' := [mc p_m, .data (c3.2.flatMap cel3), .cells [vi (if (w64 (x9 + p_m.Step)) > x6.Lo then (w64 (x9 + p_m.Step)) else x6.Lo), vi x6.Hi]]) (ps := [(0 ≤ (w64 (c3.1 - 1)) ∧ (w64 (c3.1 - 1)) < (c3.2.length : Int)), LoadOk ((c3.2.flatMap cel3).map .d) (0 + (w64 (c3.1 - 1)).toNat * 1) 1 (([(di x9)] : List D).map .d)]) tt_ok mixed (ks := [1, 2, 5, 6, 7]) (hs := [.no, .no, .no, .no, .no, .no, .vals (([(di x9)] : List D).map .d)]) (m := 10) (mid := [1, 2, 5, 6, 7, 36, 44, 45, 46]) (by kernel_rfl) (And.intro (idx_bounds hx9) (loadOk (j := 0) (es := ([(di x9)] : List D)) cel3_len hx9 rfl rfl rfl (Nat.le_of_ble_eq_true rfl))) ?_
    show awp ..
    obtain ⟨x10, hx10, h⟩ := ob h
    obtain ⟨x11, hx11, h⟩ := ob h
    obtain ⟨x12, hx12, h⟩ := ob h
    refine awp_draw (T' := [(1, .d (L65 p_x)), (2, .ref 0 0), (5, .sl 1 1 0 (c3.2 ++ ([x11] : List Int)).length), (6, vi c3.1)]) (H' := [mc p_m, .data ((c3.2 ++ ([x11] : List Int)).flatMap cel3), .cells [vi (if (w64 (x9 + p_m.Step)) > x6.Lo then (w64 (x9 + p_m.Step)) else x6.Lo), vi x6.Hi]]) (ps := [PCall Try.prog 44 [(L65 p_x), (di c3.1)] (vi x10), PCall Try.prog 43 [(.agg [(di (if (w64 (x9 + p_m.Step)) > x6.Lo then (w64 (x9 + p_m.Step)) else x6.Lo)), (di x6.Hi)]), (di x10)] (vi x11), AppendOk ((c3.2.flatMap cel3).map .d) c3.2.length ([x11] : List Int).length (c3.2 ++ ([x11] : List Int)).length 1 8 (([x11] : List Int).flatMap cel3) ((c3.2 ++ ([x11] : List Int)).flatMap cel3)]) tt_ok mixed (ks := [1, 2, 5, 6]) (hs := [.no, .no, .no, .no, .call [(L65 p_x), (di c3.1)] (vi x10), .call [(.agg [(di (if (w64 (x9 + p_m.Step)) > x6.Lo then (w64 (x9 + p_m.Step)) else x6.Lo)), (di x6.Hi)]), (di x10)] (vi x11), .no, .list (c3.2 ++ ([x11] : List Int)).length ((c3.2 ++ ([x11] : List Int)).flatMap cel3)]) (m := 7) (mid := [1, 2, 5, 6, 47, 53, 54]) (by kernel_rfl) (And.intro (ct44 hx10) (And.intro (ct43 hx11) (appendOk cel3_len (need_of hx12)))) ?_
    show awp ..
    refine x0 [1, 2, 5, 6] [] [(1, .d (L65 p_x)), (2, .ref 0 0), (5, .sl 1 1 0 (c3.2 ++ ([x11] : List Int)).length), (6, vi (w64 (c3.1 + 1)))] [mc p_m, .data ((c3.2 ++ ([x11] : List Int)).flatMap cel3), .cells [vi (if (w64 (x9 + p_m.Step)) > x6.Lo then (w64 (x9 + p_m.Step)) else x6.Lo), vi x6.Hi]] ?_
    exact gn 2 [1, 2, 5, 6] (hrn4 ((w64 (c3.1 + 1)), (c3.2 ++ ([x11] : List Int))) h)
   ·rw [if_neg (ntrue hb8)] at h
    refine awp_skip ?_
    show awp ..
    obtain ⟨x13, hx13, h⟩ := ob h
    obtain ⟨x14, hx14, h⟩ := ob h
    obtain ⟨x15, hx15, h⟩ := ob h
    refine awp_draw (T' := [(1, .d (L65 p_x)), (2, .ref 0 0), (5, .sl 1 1 0 (c3.2 ++ ([x14] : List Int)).length), (6, vi c3.1)]) (H' := [mc p_m, .data ((c3.2 ++ ([x14] : List Int)).flatMap cel3), .cells [vi x6.Lo, vi x6.Hi]]) (ps := [PCall Try.prog 44 [(L65 p_x), (di c3.1)] (vi x13), PCall Try.prog 43 [(.agg [(di x6.Lo), (di x6.Hi)]), (di x13)] (vi x14), AppendOk ((c3.2.flatMap cel3).map .d) c3.2.length ([x14] : List Int).length (c3.2 ++ ([x14] : List Int)).length 1 8 (([x14] : List Int).flatMap cel3) ((c3.2 ++ ([x14] : List Int)).flatMap cel3)]) tt_ok mixed (ks := [1, 2, 5, 6]) (hs := [.no, .no, .no, .no, .call [(L65 p_x), (di c3.1)] (vi x13), .call [(.agg [(di x6.Lo), (di x6.Hi)]), (di x13)] (vi x14), .no, .list (c3.2 ++ ([x14] : List Int)).length ((c3.2 ++ ([x14] : List Int)).flatMap cel3)]) (m := 7) (mid := [1, 2, 5, 6, 47, 53, 54]) (by kernel_rfl) (And.intro (ct44 hx13) (And.intro (ct43 hx14) (appendOk cel3_len (need_of hx15)))) ?_
    show awp ..
    refine x0 [1, 2, 5, 6] [] [(1, .d (L65 p_x)), (2, .ref 0 0), (5, .sl 1 1 0 (c3.2 ++ ([x14] : List Int)).length), (6, vi (w64 (c3.1 + 1)))] [mc p_m, .data ((c3.2 ++ ([x14] : List Int)).flatMap cel3), .cells [vi x6.Lo, vi x6.Hi]] ?_
    exact gn 2 [1, 2, 5, 6] (hrn4 ((w64 (c3.1 + 1)), (c3.2 ++ ([x14] : List Int))) h)
  ·rw [if_neg (ntrue hb5)] at h
   refine awp_exit ?_
   obtain rfl := Option.some.inj h
   exact gs [0, 1] [5] OutQ.norm
 ·intro e T H hq
  cases o2 with
  | inl ro2 =>
   obtain ⟨rfl, rfl, rfl⟩ := hq
   rw [outK_inl] at h
   obtain rfl := Option.some.inj h
   exact gm
  | inr so2 =>
   obtain ⟨rfl, rfl, rfl⟩ := hq
   rw [outK_inr] at h
   show awp ..
   refine g0 [4] [] [(4, .sl 1 1 0 so2.length)] [mc p_m, .data (so2.flatMap cel3)] ?_
   obtain rfl := Option.some.inj h
   refine gw 2 [4] [(4, .sl 1 1 0 so2.length)] [mc p_m, .data (so2.flatMap cel3)] ?_
   refine awp_freeze 4 1 (so2.flatMap cel3) (.sl 1 1 0 so2.length) (.d (L3 so2)) _ _ (ps := [(so2.flatMap cel3).length = so2.length * 1]) (by kernel_rfl) (by kernel_rfl) (by kernel_rfl) (flatMap_len cel3 1 cel3_len so2) rfl rfl ?_
   refine gw 2 [4] [(4, .d (L3 so2))] [mc p_m, .data (([] : List Int).flatMap cel3)] ?_
   exact awp_ret gm
theorem ct41 {fuel : Nat}  {p_m : S_api_ClMap} {legend : (List Int)} {res : Bool} (h : F41 fuel p_m legend = some res) : PCall Try.prog 41 [(ma p_m), (L3 legend)] (vb res) := by
 refine PCall.of_awp tt_ok (N := 15) Try.func41 rfl (by kernel_rfl) rfl (Nat.le_of_ble_eq_true rfl) rfl ?_
 unfold F41 at h
 refine g0 [1, 2] [] [(1, .d (L3 legend)), (2, .ref 0 0)] [mc p_m] ?_
 obtain ⟨x1, hx1, h⟩ := ob h
 refine gr [6] [.no, .no, .call [(ma p_m), (L3 legend)] (.tup [vi x1.1, vi x1.2])] [(6, vi x1.2)] [mc p_m] [PCall Try.prog 20 [(ma p_m), (L3 legend)] (.tup [vi x1.1, vi x1.2])] (ct20 hx1) ?_
 refine g0 [4] [] [(4, vb (x1.2 == 0))] [mc p_m] ?_
 obtain rfl := Option.some.inj h
 refine gw 1 [4] [(4, vb (x1.2 == 0))] [mc p_m] ?_
 exact awp_ret gm
theorem ct42 {fuel : Nat}  {legend : (List Int)} {high : Int} {res : Int} (h : F42 fuel legend high = some res) : PCall Try.prog 42 [(L3 legend), (di high)] (vi res) := by
 refine PCall.of_awp tt_ok (N := 22) Try.func42 rfl (by kernel_rfl) rfl (Nat.le_of_ble_eq_true rfl) rfl ?_
 unfold F42 at h
 refine g0 [0, 1] [] [(0, .d (L3 legend)), (1, vi high)] [] ?_
 refine g0 [0, 1, 5] [] [(0, .d (L3 legend)), (1, vi high), (5, vi 0)] [] ?_
 refine awp_seq (g0 [0, 1, 5, 6] [] [(0, .d (L3 legend)), (1, vi high), (5, vi 0), (6, vi 0)] [] ?_)
 obtain ⟨o1, ho1, h⟩ := ob h
 refine awp_cut1 (OutQ (fun (ro1 : Int) => [(4, vi ro1)]) (fun (ro1 : Int) => []) (fun (so1 : Int) => [(5, vi so1)]) (fun (so1 : Int) => []) o1) ?_ ?_
 ·clear h
  have h := ho1
  clear ho1
  refine awp_selQ (gw 0 [0, 1, 5, 6] [(0, .d (L3 legend)), (1, vi high), (5, vi 0), (6, vi 0)] [] ?_)
  refine awp_block (awp_loop (n := fuel) ?_)
  refine awpN_ind (fun n (c2 : Int × Int) => F42L1 legend high n c2) o1 (fun (c2 : Int × Int) => [(0, .d (L3 legend)), (1, vi high), (5, vi c2.1), (6, vi c2.2)]) (fun (c2 : Int × Int) => []) (fun _ => rfl) ?_ fuel (0, 0) h
  clear h
  intro n3 c2 h hrn3
  change F42L1 legend high (n3 + 1) c2 = some o1 at h
  rw [F42L1] at h
  refine awp_seq (g0 [0, 1, 5, 6, 10] [] [(0, .d (L3 legend)), (1, vi high), (5, vi c2.1), (6, vi c2.2), (10, vb (decide (c2.2 < (legend.length : Int))))] [] ?_)
  refine awp_cond (b := (decide (c2.2 < (legend.length : Int)))) (by kernel_rfl) (fun hb4 => ?_) (fun hb4 => ?_)
  ·rw [if_pos hb4] at h
   refine awp_skip ?_
   show awp ..
   refine awp_seq (awp_block ?_)
   obtain ⟨x5, hx5, h⟩ := ob h
   refine gr [0, 1, 5, 6, 18] [.no, .no, .cells (cel3 x5)] [(0, .d (L3 legend)), (1, vi high), (5, vi c2.1), (6, vi c2.2), (18, vb (decide (x5 ≤ high)))] [] [IX3 legend c2.2 x5] (idxOk cel3_len hx5) ?_
   refine awp_cond (b := (decide (x5 ≤ high))) (by kernel_rfl) (fun hb6 => ?_) (fun hb6 => ?_)
   ·rw [if_pos hb6] at h
    refine x0 [0, 1, 5, 6] [] [(0, .d (L3 legend)), (1, vi high), (5, vi (w64 (c2.1 + 1))), (6, vi c2.2)] [] ?_
    show awp ..
    refine x0 [0, 1, 5, 6] [] [(0, .d (L3 legend)), (1, vi high), (5, vi (w64 (c2.1 + 1))), (6, vi (w64 (c2.2 + 1)))] [] ?_
    exact gn 0 [0, 1, 5, 6] (hrn3 ((w64 (c2.1 + 1)), (w64 (c2.2 + 1))) h)
   ·rw [if_neg (ntrue hb6)] at h
    refine awp_skip ?_
    show awp ..
    refine x0 [0, 1, 5, 6] [] [(0, .d (L3 legend)), (1, vi high), (5, vi c2.1), (6, vi (w64 (c2.2 + 1)))] [] ?_
    exact gn 0 [0, 1, 5, 6] (hrn3 (c2.1, (w64 (c2.2 + 1))) h)
  ·rw [if_neg (ntrue hb4)] at h
   refine awp_exit ?_
   obtain rfl := Option.some.inj h
   exact gs [] [5] OutQ.norm
 ·intro e T H hq
  cases o1 with
  | inl ro1 =>
   obtain ⟨rfl, rfl, rfl⟩ := hq
   rw [outK_inl] at h
   obtain rfl := Option.some.inj h
   exact gm
  | inr so1 =>
   obtain ⟨rfl, rfl, rfl⟩ := hq
   rw [outK_inr] at h
   show awp ..
   refine g0 [4] [] [(4, vi so1)] [] ?_
   obtain rfl := Option.some.inj h
   refine gw 0 [4] [(4, vi so1)] [] ?_
   exact awp_ret gm
theorem ct45  {p_n : Int} {p_s : S_api_Span} {res : Bool} (h : F45 p_n p_s = some res) : PCall Try.prog 45 [(di p_n), (.agg [(di p_s.Lo), (di p_s.Hi)])] (vb res) := by
 refine PCall.of_awp tt_ok (N := 15) Try.func45 rfl (by kernel_rfl) rfl (Nat.le_of_ble_eq_true rfl) rfl ?_
 unfold F45 at h
 refine g0 [0, 3] [] [(0, vi p_n), (3, .ref 0 0)] [.cells [vi p_s.Lo, vi p_s.Hi]] ?_
 refine gr [4] [] [(4, vb (cond (decide (p_n ≥ p_s.Lo)) (decide (p_n ≤ p_s.Hi)) false))] [.cells [vi p_s.Lo, vi p_s.Hi]] [((decide (p_n ≥ p_s.Lo)) = true → (decide (p_n ≥ p_s.Lo)) = true), ((decide (p_n ≥ p_s.Lo)) = true → (decide (p_n ≥ p_s.Lo)) = true), ((decide (p_n ≥ p_s.Lo)) = true → (decide (p_n ≥ p_s.Lo)) = true), ((decide (p_n ≥ p_s.Lo)) = true → (decide (p_n ≥ p_s.Lo)) = true)] (And.intro (id) (And.intro (id) (And.intro (id) (id)))) ?_
 obtain rfl := Option.some.inj h
 refine gw 1 [4] [(4, vb (cond (decide (p_n ≥ p_s.Lo)) (decide (p_n ≤ p_s.Hi)) false))] [.cells [vi p_s.Lo, vi p_s.Hi]] ?_
 exact awp_ret gm
theorem ct7 {fuel : Nat}  {p_m : S_api_ClMap} {p_x : S_hachurelaw09qPast} {res : Bool} (h : F7 fuel p_m p_x = some res) : PCall Try.prog 7 [(ma p_m), (.agg [(L65 p_x.Legend), (L65 p_x.Truth)])] (vb res) := by
 refine PCall.of_awp tt_ok (N := 194) Try.func7 rfl (by kernel_rfl) rfl (Nat.le_of_ble_eq_true rfl) rfl ?_
 unfold F7 at h
 refine g0 [2, 3] [] [(2, .ref 0 0), (3, .ref 1 0)] [mc p_m, .cells [.d (L65 p_x.Legend), .d (L65 p_x.Truth)]] ?_
 refine awp_seq ?_
 obtain ⟨x1, hx1, h⟩ := ob h
 refine gr [2, 3, 25] [.no, .call [(ma p_m)] (vb x1)] [(2, .ref 0 0), (3, .ref 1 0), (25, vb (!x1))] [mc p_m, .cells [.d (L65 p_x.Legend), .d (L65 p_x.Truth)]] [PCall Try.prog 39 [(ma p_m)] (vb x1)] (ct39 hx1) ?_
 refine awp_cond (b := (!x1)) (by kernel_rfl) (fun hb2 => ?_) (fun hb2 => ?_)
 ·rw [if_pos hb2] at h
  obtain ⟨x3, hx3, h⟩ := ob h
  refine gr [7] [.no, .call [(ma p_m)] (.tup [.d (L3 x3.1), vi x3.2.1, vi x3.2.2])] [(7, vi x3.2.2)] [mc p_m, .cells [.d (L65 p_x.Legend), .d (L65 p_x.Truth)]] [PCall Try.prog 35 [(ma p_m)] (.tup [.d (L3 x3.1), vi x3.2.1, vi x3.2.2])] (ct35 hx3) ?_
  obtain ⟨x4, hx4, h⟩ := ob h
  refine gr [4] [.no, .no, .no, .call [] (vb x4)] [(4, vb (cond (x3.2.2 != 0) x4 false))] [mc p_m, .cells [.d (L65 p_x.Legend), .d (L65 p_x.Truth)]] [((x3.2.2 != 0) = true → PCall Try.prog 30 [] (vb x4)), ((x3.2.2 != 0) = true → (x3.2.2 != 0) = true)] (And.intro ((fun hg => ct30 (optG_of hx4 hg))) (id)) ?_
  obtain rfl := Option.some.inj h
  refine gw 2 [4] [(4, vb (cond (x3.2.2 != 0) x4 false))] [mc p_m, .cells [.d (L65 p_x.Legend), .d (L65 p_x.Truth)]] ?_
  exact awp_ret gm
 ·rw [if_neg (ntrue hb2)] at h
  refine awp_skip ?_
  show awp ..
  obtain ⟨x5, hx5, h⟩ := ob h
  refine gr [2, 3, 8] [.no, .no, .no, .call [(ma p_m), (L65 p_x.Legend)] (.d (L3 x5))] [(2, .ref 0 0), (3, .ref 1 0), (8, .d (L3 x5))] [mc p_m, .cells [.d (L65 p_x.Legend), .d (L65 p_x.Truth)]] [PCall Try.prog 40 [(ma p_m), (L65 p_x.Legend)] (.d (L3 x5))] (ct40 hx5) ?_
  obtain ⟨x6, hx6, h⟩ := ob h
  refine gr [2, 3, 8, 9, 10] [.no, .no, .call [(ma p_m), (L3 x5)] (.tup [.d (L60 x6.1), vi x6.2])] [(2, .ref 0 0), (3, .ref 1 0), (8, .d (L3 x5)), (9, .d (L60 x6.1)), (10, vi x6.2)] [mc p_m, .cells [.d (L65 p_x.Legend), .d (L65 p_x.Truth)]] [PCall Try.prog 21 [(ma p_m), (L3 x5)] (.tup [.d (L60 x6.1), vi x6.2])] (ct21 hx6) ?_
  obtain ⟨x7, hx7, h⟩ := ob h
  refine gr [2, 3, 8, 9, 10, 11, 12] [.no, .no, .call [(ma p_m), (L3 x5)] (.tup [.d (L3 x7.1), vi x7.2])] [(2, .ref 0 0), (3, .ref 1 0), (8, .d (L3 x5)), (9, .d (L60 x6.1)), (10, vi x6.2), (11, .d (L3 x7.1)), (12, vi x7.2)] [mc p_m, .cells [.d (L65 p_x.Legend), .d (L65 p_x.Truth)]] [PCall Try.prog 24 [(ma p_m), (L3 x5)] (.tup [.d (L3 x7.1), vi x7.2])] (ct24 hx7) ?_
  obtain ⟨x8, hx8, h⟩ := ob h
  refine gr [2, 3, 8, 9, 10, 11, 12, 13, 14] [.no, .no, .call [(ma p_m), (L3 x5)] (.tup [.d (L51 x8.1), vi x8.2])] [(2, .ref 0 0), (3, .ref 1 0), (8, .d (L3 x5)), (9, .d (L60 x6.1)), (10, vi x6.2), (11, .d (L3 x7.1)), (12, vi x7.2), (13, .d (L51 x8.1)), (14, vi x8.2)] [mc p_m, .cells [.d (L65 p_x.Legend), .d (L65 p_x.Truth)]] [PCall Try.prog 27 [(ma p_m), (L3 x5)] (.tup [.d (L51 x8.1), vi x8.2])] (ct27 hx8) ?_
  refine awp_seq ?_
  obtain ⟨x9, hx9, h⟩ := ob h
  refine gr [2, 3, 8, 9, 10, 11, 12, 13, 14, 62] [.no, .no, .call [(ma p_m), (L3 x5)] (vb x9)] [(2, .ref 0 0), (3, .ref 1 0), (8, .d (L3 x5)), (9, .d (L60 x6.1)), (10, vi x6.2), (11, .d (L3 x7.1)), (12, vi x7.2), (13, .d (L51 x8.1)), (14, vi x8.2), (62, vb (!x9))] [mc p_m, .cells [.d (L65 p_x.Legend), .d (L65 p_x.Truth)]] [PCall Try.prog 41 [(ma p_m), (L3 x5)] (vb x9)] (ct41 hx9) ?_
  refine awp_cond (b := (!x9)) (by kernel_rfl) (fun hb10 => ?_) (fun hb10 => ?_)
  ·rw [if_pos hb10] at h
   obtain ⟨x11, hx11, h⟩ := ob h
   refine gr [4] [.no, .no, .no, .no, .no, .no, .no, .no, .no, .no, .no, .no, .no, .call [] (vb x11)] [(4, vb (cond (cond (cond (x6.2 != 0) (x7.2 == x6.2) false) (x8.2 == x6.2) false) x11 false))] [mc p_m, .cells [.d (L65 p_x.Legend), .d (L65 p_x.Truth)]] [((x6.2 != 0) = true → (x6.2 != 0) = true), ((x6.2 != 0) = true → (x6.2 != 0) = true), ((x6.2 != 0) = true → (x6.2 != 0) = true), ((cond (x6.2 != 0) (x7.2 == x6.2) false) = true → (cond (x6.2 != 0) (x7.2 == x6.2) false) = true), ((cond (x6.2 != 0) (x7.2 == x6.2) false) = true → (cond (x6.2 != 0) (x7.2 == x6.2) false) = true), ((cond (x6.2 != 0) (x7.2 == x6.2) false) = true → (cond (x6.2 != 0) (x7.2 == x6.2) false) = true), ((cond (cond (x6.2 != 0) (x7.2 == x6.2) false) (x8.2 == x6.2) false) = true → PCall Try.prog 30 [] (vb x11)), ((cond (cond (x6.2 != 0) (x7.2 == x6.2) false) (x8.2 == x6.2) false) = true → (cond (cond (x6.2 != 0) (x7.2 == x6.2) false) (x8.2 == x6.2) false) = true)] (And.intro (id) (And.intro (id) (And.intro (id) (And.intro (id) (And.intro (id) (And.intro (id) (And.intro ((fun hg => ct30 (optG_of hx11 hg))) (id)))))))) ?_
   obtain rfl := Option.some.inj h
   refine gw 2 [4] [(4, vb (cond (cond (cond (x6.2 != 0) (x7.2 == x6.2) false) (x8.2 == x6.2) false) x11 false))] [mc p_m, .cells [.d (L65 p_x.Legend), .d (L65 p_x.Truth)]] ?_
   exact awp_ret gm
  ·rw [if_neg (ntrue hb10)] at h
   refine awp_skip ?_
   show awp ..
   refine awp_seq (gr [2, 3, 8, 9, 11, 13, 95] [] [(2, .ref 0 0), (3, .ref 1 0), (8, .d (L3 x5)), (9, .d (L60 x6.1)), (11, .d (L3 x7.1)), (13, .d (L51 x8.1)), (95, vb (cond (cond (cond (x6.2 != 0) true (x7.2 != 0)) true (x8.2 != 0)) true ((x6.1.length : Int) != (p_m.Heights.length : Int))))] [mc p_m, .cells [.d (L65 p_x.Legend), .d (L65 p_x.Truth)]] [((!(x6.2 != 0)) = true → (!(x6.2 != 0)) = true), ((x6.2 != 0) = false → (!(x6.2 != 0)) = true), ((!(cond (x6.2 != 0) true (x7.2 != 0))) = true → (!(cond (x6.2 != 0) true (x7.2 != 0))) = true), ((cond (x6.2 != 0) true (x7.2 != 0)) = false → (!(cond (x6.2 != 0) true (x7.2 != 0))) = true), ((!(cond (cond (x6.2 != 0) true (x7.2 != 0)) true (x8.2 != 0))) = true → (!(cond (cond (x6.2 != 0) true (x7.2 != 0)) true (x8.2 != 0))) = true), ((!(cond (cond (x6.2 != 0) true (x7.2 != 0)) true (x8.2 != 0))) = true → (!(cond (cond (x6.2 != 0) true (x7.2 != 0)) true (x8.2 != 0))) = true), ((!(cond (cond (x6.2 != 0) true (x7.2 != 0)) true (x8.2 != 0))) = true → (!(cond (cond (x6.2 != 0) true (x7.2 != 0)) true (x8.2 != 0))) = true), ((!(cond (cond (x6.2 != 0) true (x7.2 != 0)) true (x8.2 != 0))) = true → (!(cond (cond (x6.2 != 0) true (x7.2 != 0)) true (x8.2 != 0))) = true), ((!(cond (cond (x6.2 != 0) true (x7.2 != 0)) true (x8.2 != 0))) = true → (!(cond (cond (x6.2 != 0) true (x7.2 != 0)) true (x8.2 != 0))) = true), ((cond (cond (x6.2 != 0) true (x7.2 != 0)) true (x8.2 != 0)) = false → (!(cond (cond (x6.2 != 0) true (x7.2 != 0)) true (x8.2 != 0))) = true)] (And.intro (id) (And.intro (not_of) (And.intro (id) (And.intro (not_of) (And.intro (id) (And.intro (id) (And.intro (id) (And.intro (id) (And.intro (id) (not_of)))))))))) ?_)
   refine awp_cond (b := (cond (cond (cond (x6.2 != 0) true (x7.2 != 0)) true (x8.2 != 0)) true ((x6.1.length : Int) != (p_m.Heights.length : Int)))) (by kernel_rfl) (fun hb12 => ?_) (fun hb12 => ?_)
   ·rw [if_pos hb12] at h
    refine g0 [4] [] [(4, vb false)] [mc p_m, .cells [.d (L65 p_x.Legend), .d (L65 p_x.Truth)]] ?_
    obtain rfl := Option.some.inj h
    refine gw 2 [4] [(4, vb false)] [mc p_m, .cells [.d (L65 p_x.Legend), .d (L65 p_x.Truth)]] ?_
    exact awp_ret gm
   ·rw [if_neg (ntrue hb12)] at h
    refine awp_skip ?_
    show awp ..
    refine g0 [2, 3, 8, 9, 11, 13, 15] [] [(2, .ref 0 0), (3, .ref 1 0), (8, .d (L3 x5)), (9, .d (L60 x6.1)), (11, .d (L3 x7.1)), (13, .d (L51 x8.1)), (15, .d dnil)] [mc p_m, .cells [.d (L65 p_x.Legend), .d (L65 p_x.Truth)]] ?_
    refine awp_seq (g0 [2, 3, 8, 9, 11, 13, 15, 16] [] [(2, .ref 0 0), (3, .ref 1 0), (8, .d (L3 x5)), (9, .d (L60 x6.1)), (11, .d (L3 x7.1)), (13, .d (L51 x8.1)), (15, .d dnil), (16, vi 0)] [mc p_m, .cells [.d (L65 p_x.Legend), .d (L65 p_x.Truth)]] ?_)
    refine awp_nil 15 1 (by kernel_rfl) ?_
    refine awp_eq (T' := [(15, .sl 1 2 0 ([] : List Int).length), (2, .ref 0 0), (3, .ref 1 0), (8, .d (L3 x5)), (9, .d (L60 x6.1)), (11, .d (L3 x7.1)), (13, .d (L51 x8.1)), (16, vi 0)]) (H' := [mc p_m, .cells [.d (L65 p_x.Legend), .d (L65 p_x.Truth)], .data (([] : List Int).flatMap cel3)]) (by kernel_rfl) (by kernel_rfl) ?_
    refine gw 3 [2, 3, 8, 9, 11, 13, 15, 16] [(2, .ref 0 0), (3, .ref 1 0), (8, .d (L3 x5)), (9, .d (L60 x6.1)), (11, .d (L3 x7.1)), (13, .d (L51 x8.1)), (15, .sl 1 2 0 ([] : List Int).length), (16, vi 0)] [mc p_m, .cells [.d (L65 p_x.Legend), .d (L65 p_x.Truth)], .data (([] : List Int).flatMap cel3)] ?_
    obtain ⟨o14, ho14, h⟩ := ob h
    refine awp_cut1 (OutQ (fun (ro14 : Bool) => [(4, vb ro14)]) (fun (ro14 : Bool) => []) (fun (so14 : (List Int)) => [(2, .ref 0 0), (13, .d (L51 x8.1)), (15, .sl 1 2 0 so14.length)]) (fun (so14 : (List Int)) => [mc p_m, .cells [.d (L65 p_x.Legend), .d (L65 p_x.Truth)], .data (so14.flatMap cel3)]) o14) ?_ ?_
    ·clear h
     have h := ho14
     clear ho14
     refine awp_selQ (gw 3 [2, 3, 8, 9, 11, 13, 15, 16] [(2, .ref 0 0), (3, .ref 1 0), (8, .d (L3 x5)), (9, .d (L60 x6.1)), (11, .d (L3 x7.1)), (13, .d (L51 x8.1)), (15, .sl 1 2 0 ([] : List Int).length), (16, vi 0)] [mc p_m, .cells [.d (L65 p_x.Legend), .d (L65 p_x.Truth)], .data (([] : List Int).flatMap cel3)] ?_)
     refine awp_block (awp_loop (n := fuel) ?_)
     refine awpN_ind (fun n (c15 : Int × (List Int)) => F7L1 fuel p_m p_x x5 x6 x7 n c15) o14 (fun (c15 : Int × (List Int)) => [(2, .ref 0 0), (3, .ref 1 0), (8, .d (L3 x5)), (9, .d (L60 x6.1)), (11, .d (L3 x7.1)), (13, .d (L51 x8.1)), (15, .sl 1 2 0 c15.2.length), (16, vi c15.1)]) (fun (c15 : Int × (List Int)) => [mc p_m, .cells [.d (L65 p_x.Legend), .d (L65 p_x.Truth)], .data (c15.2.flatMap cel3)]) (fun _ => rfl) ?_ fuel (0, ([] : List Int)) h
     clear h
     intro n16 c15 h hrn16
     change F7L1 fuel p_m p_x x5 x6 x7 (n16 + 1) c15 = some o14 at h
     rw [F7L1] at h
     refine awp_seq (g0 [2, 3, 8, 9, 11, 13, 15, 16, 99] [] [(2, .ref 0 0), (3, .ref 1 0), (8, .d (L3 x5)), (9, .d (L60 x6.1)), (11, .d (L3 x7.1)), (13, .d (L51 x8.1)), (15, .sl 1 2 0 c15.2.length), (16, vi c15.1), (99, vb (decide (c15.1 < (x6.1.length : Int))))] [mc p_m, .cells [.d (L65 p_x.Legend), .d (L65 p_x.Truth)], .data (c15.2.flatMap cel3)] ?_)
     refine awp_cond (b := (decide (c15.1 < (x6.1.length : Int)))) (by kernel_rfl) (fun hb17 => ?_) (fun hb17 => ?_)
     ·rw [if_pos hb17] at h
      refine awp_skip ?_
      show awp ..
      refine awp_seq (awp_block ?_)
      obtain ⟨x18, hx18, h⟩ := ob h
      obtain ⟨x19, hx19, h⟩ := ob h
      obtain ⟨x20, hx20, h⟩ := ob h
      obtain ⟨x21, hx21, h⟩ := ob h
      refine awp_sdraw tt_ok mixed (ks := [2, 3, 8, 9, 11, 13, 15, 16, 17]) (hs := [.no, .no, .no, .no, .cells (cel60 x18), .no, .no, .no, .no, .call [(L65 p_x.Truth), (di c15.1)] (vi x19), .call [(.agg [(di x18.Lo), (di x18.Hi)]), (di x19)] (vi x20), .call [(L3 x5), (di x20)] (vi x21)]) 11 [2, 3, 8, 9, 11, 13, 15, 16, 17, 102, 112, 113] [(2, .ref 0 0), (3, .ref 1 0), (8, .d (L3 x5)), (9, .d (L60 x6.1)), (11, .d (L3 x7.1)), (13, .d (L51 x8.1)), (15, .sl 1 2 0 c15.2.length), (16, vi c15.1), (17, vi x21)] [mc p_m, .cells [.d (L65 p_x.Legend), .d (L65 p_x.Truth)], .data (c15.2.flatMap cel3)] [IX60 p_m.Heights c15.1 x18, PCall Try.prog 44 [(L65 p_x.Truth), (di c15.1)] (vi x19), PCall Try.prog 43 [(.agg [(di x18.Lo), (di x18.Hi)]), (di x19)] (vi x20), PCall Try.prog 42 [(L3 x5), (di x20)] (vi x21)] (by kernel_rfl) (And.intro (idxOk cel60_len hx18) (And.intro (ct44 hx19) (And.intro (ct43 hx20) (ct42 hx21)))) ?_
      refine awp_seq ?_
      obtain ⟨x22, hx22, h⟩ := ob h
      obtain ⟨x23, hx23, h⟩ := ob h
      obtain ⟨x24, hx24, h⟩ := ob h
      obtain ⟨x25, hx25, h⟩ := ob h
      obtain ⟨x26, hx26, h⟩ := ob h
      refine awp_sdraw tt_ok mixed (ks := [2, 3, 8, 9, 11, 13, 15, 16, 17, 137]) (hs := [.no, .no, .no, .cells (cel60 x22), .no, .call [(di x21), (.agg [(di x22.Lo), (di x22.Hi)])] (vb x23), .no, .no, .no, .no, .cells (cel60 x24), .no, .no, .no, .no, .cells (cel60 x25), .no, .no, .no, .no, .no, .call [(L3 x7.1), (di c15.1)] (vb x26)]) 22 [2, 3, 8, 9, 11, 13, 15, 16, 17, 121, 132, 135, 136, 137] [(2, .ref 0 0), (3, .ref 1 0), (8, .d (L3 x5)), (9, .d (L60 x6.1)), (11, .d (L3 x7.1)), (13, .d (L51 x8.1)), (15, .sl 1 2 0 c15.2.length), (16, vi c15.1), (17, vi x21), (137, vb (cond (!x23) true ((x24.Lo == x25.Hi) == x26)))] [mc p_m, .cells [.d (L65 p_x.Legend), .d (L65 p_x.Truth)], .data (c15.2.flatMap cel3)] [IX60 x6.1 c15.1 x22, PCall Try.prog 45 [(di x21), (.agg [(di x22.Lo), (di x22.Hi)])] (vb x23), ((!(!x23)) = true → (!(!x23)) = true), ((!(!x23)) = true → (!(!x23)) = true), ((!(!x23)) = true → IX60 x6.1 c15.1 x24), ((!(!x23)) = true → (!(!x23)) = true), ((!(!x23)) = true → (!(!x23)) = true), ((!(!x23)) = true → (!(!x23)) = true), ((!(!x23)) = true → (!(!x23)) = true), ((!(!x23)) = true → IX60 x6.1 c15.1 x25), ((!(!x23)) = true → (!(!x23)) = true), ((!(!x23)) = true → (!(!x23)) = true), ((!(!x23)) = true → (!(!x23)) = true), ((!(!x23)) = true → (!(!x23)) = true), ((!(!x23)) = true → (!(!x23)) = true), ((!(!x23)) = true → (!(!x23)) = true), ((!(!x23)) = true → PCall Try.prog 46 [(L3 x7.1), (di c15.1)] (vb x26)), ((!(!x23)) = true → (!(!x23)) = true), ((!(!x23)) = true → (!(!x23)) = true), ((!x23) = false → (!(!x23)) = true)] (by kernel_rfl) (And.intro (idxOk cel60_len hx22) (And.intro (ct45 hx23) (And.intro (id) (And.intro (id) (And.intro ((fun hg => idxOk cel60_len (optG_of hx24 hg))) (And.intro (id) (And.intro (id) (And.intro (id) (And.intro (id) (And.intro ((fun hg => idxOk cel60_len (optG_of hx25 hg))) (And.intro (id) (And.intro (id) (And.intro (id) (And.intro (id) (And.intro (id) (And.intro (id) (And.intro ((fun hg => ct46 (optG_of hx26 hg))) (And.intro (id) (And.intro (id) (not_of)))))))))))))))))))) ?_
      refine awp_cond (b := (cond (!x23) true ((x24.Lo == x25.Hi) == x26))) (by kernel_rfl) (fun hb27 => ?_) (fun hb27 => ?_)
      ·rw [if_pos hb27] at h
       refine g0 [4] [] [(4, vb false)] [mc p_m, .cells [.d (L65 p_x.Legend), .d (L65 p_x.Truth)], .data (c15.2.flatMap cel3)] ?_
       obtain rfl := Option.some.inj h
       refine gw 3 [4] [(4, vb false)] [mc p_m, .cells [.d (L65 p_x.Legend), .d (L65 p_x.Truth)], .data (c15.2.flatMap cel3)] ?_
       exact awp_ret (gs [] [4] OutQ.ret)
      ·rw [if_neg (ntrue hb27)] at h
       refine awp_skip ?_
       show awp ..
       obtain ⟨x28, hx28, h⟩ := ob h
       refine xr [2, 3, 8, 9, 11, 13, 15, 16] [.no, .no, .no, .list (c15.2 ++ ([x21] : List Int)).length ((c15.2 ++ ([x21] : List Int)).flatMap cel3)] [(2, .ref 0 0), (3, .ref 1 0), (8, .d (L3 x5)), (9, .d (L60 x6.1)), (11, .d (L3 x7.1)), (13, .d (L51 x8.1)), (15, .sl 1 2 0 (c15.2 ++ ([x21] : List Int)).length), (16, vi c15.1)] [mc p_m, .cells [.d (L65 p_x.Legend), .d (L65 p_x.Truth)], .data ((c15.2 ++ ([x21] : List Int)).flatMap cel3)] [AppendOk ((c15.2.flatMap cel3).map .d) c15.2.length ([x21] : List Int).length (c15.2 ++ ([x21] : List Int)).length 1 8 (([x21] : List Int).flatMap cel3) ((c15.2 ++ ([x21] : List Int)).flatMap cel3)] (appendOk cel3_len (need_of hx28)) ?_
       show awp ..
       refine x0 [2, 3, 8, 9, 11, 13, 15, 16] [] [(2, .ref 0 0), (3, .ref 1 0), (8, .d (L3 x5)), (9, .d (L60 x6.1)), (11, .d (L3 x7.1)), (13, .d (L51 x8.1)), (15, .sl 1 2 0 (c15.2 ++ ([x21] : List Int)).length), (16, vi (w64 (c15.1 + 1)))] [mc p_m, .cells [.d (L65 p_x.Legend), .d (L65 p_x.Truth)], .data ((c15.2 ++ ([x21] : List Int)).flatMap cel3)] ?_
       exact gn 3 [2, 3, 8, 9, 11, 13, 15, 16] (hrn16 ((w64 (c15.1 + 1)), (c15.2 ++ ([x21] : List Int))) h)
     ·rw [if_neg (ntrue hb17)] at h
      refine awp_exit ?_
      obtain rfl := Option.some.inj h
      exact gs [0, 1, 2] [2, 13, 15] OutQ.norm
    ·intro e T H hq
     cases o14 with
     | inl ro14 =>
      obtain ⟨rfl, rfl, rfl⟩ := hq
      rw [outK_inl] at h
      obtain rfl := Option.some.inj h
      exact gm
     | inr so14 =>
      obtain ⟨rfl, rfl, rfl⟩ := hq
      rw [outK_inr] at h
      show awp ..
      refine awp_seq (g0 [2, 13, 15, 18] [] [(2, .ref 0 0), (13, .d (L51 x8.1)), (15, .sl 1 2 0 so14.length), (18, vi 0)] [mc p_m, .cells [.d (L65 p_x.Legend), .d (L65 p_x.Truth)], .data (so14.flatMap cel3)] ?_)
      obtain ⟨o29, ho29, h⟩ := ob h
      refine awp_cut1 (OutQ (fun (ro29 : Bool) => [(4, vb ro29)]) (fun (ro29 : Bool) => []) (fun (so29 : Unit) => []) (fun (so29 : Unit) => [mc p_m, .cells [.d (L65 p_x.Legend), .d (L65 p_x.Truth)], .data (so14.flatMap cel3)]) o29) ?_ ?_
      ·clear h
       have h := ho29
       clear ho29
       refine awp_selQ (gw 3 [2, 13, 15, 18] [(2, .ref 0 0), (13, .d (L51 x8.1)), (15, .sl 1 2 0 so14.length), (18, vi 0)] [mc p_m, .cells [.d (L65 p_x.Legend), .d (L65 p_x.Truth)], .data (so14.flatMap cel3)] ?_)
       refine awp_block (awp_loop (n := fuel) ?_)
       refine awpN_ind (fun n (c30 : Int) => F7L2 fuel p_m x8 so14 n c30) o29 (fun (c30 : Int) => [(2, .ref 0 0), (13, .d (L51 x8.1)), (15, .sl 1 2 0 so14.length), (18, vi c30)]) (fun (c30 : Int) => [mc p_m, .cells [.d (L65 p_x.Legend), .d (L65 p_x.Truth)], .data (so14.flatMap cel3)]) (fun _ => rfl) ?_ fuel 0 h
       clear h
       intro n31 c30 h hrn31
       change F7L2 fuel p_m x8 so14 (n31 + 1) c30 = some o29 at h
       rw [F7L2] at h
       refine awp_seq (g0 [2, 13, 15, 18, 146] [] [(2, .ref 0 0), (13, .d (L51 x8.1)), (15, .sl 1 2 0 so14.length), (18, vi c30), (146, vb (decide (c30 < (p_m.Sides.length : Int))))] [mc p_m, .cells [.d (L65 p_x.Legend), .d (L65 p_x.Truth)], .data (so14.flatMap cel3)] ?_)
       refine awp_cond (b := (decide (c30 < (p_m.Sides.length : Int)))) (by kernel_rfl) (fun hb32 => ?_) (fun hb32 => ?_)
       ·rw [if_pos hb32] at h
        refine awp_skip ?_
        show awp ..
        refine awp_seq (awp_block ?_)
        obtain ⟨x33, hx33, h⟩ := ob h
        obtain ⟨x34, hx34, h⟩ := ob h
        obtain ⟨x35, hx35, h⟩ := ob h
        obtain ⟨x36, hx36, h⟩ := ob h
        refine awp_sdraw tt_ok mixed (ks := [2, 13, 15, 18, 19, 20]) (hs := [.no, .no, .no, .no, .cells (cel51 x33), .no, .no, .no, .vals (([(di x34)] : List D).map .d), .no, .no, .no, .no, .cells (cel51 x35), .no, .no, .no, .vals (([(di x36)] : List D).map .d)]) 19 [2, 13, 15, 18, 19, 20, 166] [(2, .ref 0 0), (13, .d (L51 x8.1)), (15, .sl 1 2 0 so14.length), (18, vi c30), (19, vi x34), (20, vi x36)] [mc p_m, .cells [.d (L65 p_x.Legend), .d (L65 p_x.Truth)], .data (so14.flatMap cel3)] [IX51 p_m.Sides c30 x33, (0 ≤ x33.A ∧ x33.A < (so14.length : Int)), LoadOk ((so14.flatMap cel3).map .d) (0 + x33.A.toNat * 1) 1 (([(di x34)] : List D).map .d), IX51 p_m.Sides c30 x35, (0 ≤ x35.B ∧ x35.B < (so14.length : Int)), LoadOk ((so14.flatMap cel3).map .d) (0 + x35.B.toNat * 1) 1 (([(di x36)] : List D).map .d)] (by kernel_rfl) (And.intro (idxOk cel51_len hx33) (And.intro (idx_bounds hx34) (And.intro (loadOk (j := 0) (es := ([(di x34)] : List D)) cel3_len hx34 rfl rfl rfl (Nat.le_of_ble_eq_true rfl)) (And.intro (idxOk cel51_len hx35) (And.intro (idx_bounds hx36) (loadOk (j := 0) (es := ([(di x36)] : List D)) cel3_len hx36 rfl rfl rfl (Nat.le_of_ble_eq_true rfl))))))) ?_
        refine g0 [2, 13, 15, 18, 19, 20, 21] [] [(2, .ref 0 0), (13, .d (L51 x8.1)), (15, .sl 1 2 0 so14.length), (18, vi c30), (19, vi x34), (20, vi x36), (21, vb (x34 == x36))] [mc p_m, .cells [.d (L65 p_x.Legend), .d (L65 p_x.Truth)], .data (so14.flatMap cel3)] ?_
        refine awp_seq (g0 [2, 13, 15, 18, 19, 20, 21, 22] [] [(2, .ref 0 0), (13, .d (L51 x8.1)), (15, .sl 1 2 0 so14.length), (18, vi c30), (19, vi x34), (20, vi x36), (21, vb (x34 == x36)), (22, vi 0)] [mc p_m, .cells [.d (L65 p_x.Legend), .d (L65 p_x.Truth)], .data (so14.flatMap cel3)] ?_)
        obtain ⟨o37, ho37, h⟩ := ob h
        refine awp_cut1 (OutQ (fun (ro37 : Bool) => [(4, vb ro37)]) (fun (ro37 : Bool) => []) (fun (so37 : Bool) => [(2, .ref 0 0), (13, .d (L51 x8.1)), (15, .sl 1 2 0 so14.length), (18, vi c30), (21, vb so37)]) (fun (so37 : Bool) => [mc p_m, .cells [.d (L65 p_x.Legend), .d (L65 p_x.Truth)], .data (so14.flatMap cel3)]) o37) ?_ ?_
        ·clear h
         have h := ho37
         clear ho37
         refine awp_selQ (gw 3 [2, 13, 15, 18, 19, 20, 21, 22] [(2, .ref 0 0), (13, .d (L51 x8.1)), (15, .sl 1 2 0 so14.length), (18, vi c30), (19, vi x34), (20, vi x36), (21, vb (x34 == x36)), (22, vi 0)] [mc p_m, .cells [.d (L65 p_x.Legend), .d (L65 p_x.Truth)], .data (so14.flatMap cel3)] ?_)
         refine awp_block (awp_loop (n := fuel) ?_)
         refine awpN_ind (fun n (c38 : Bool × Int) => F7L3 x8 x34 x36 n c38) o37 (fun (c38 : Bool × Int) => [(2, .ref 0 0), (13, .d (L51 x8.1)), (15, .sl 1 2 0 so14.length), (18, vi c30), (19, vi x34), (20, vi x36), (21, vb c38.1), (22, vi c38.2)]) (fun (c38 : Bool × Int) => [mc p_m, .cells [.d (L65 p_x.Legend), .d (L65 p_x.Truth)], .data (so14.flatMap cel3)]) (fun _ => rfl) ?_ fuel ((x34 == x36), 0) h
         clear h
         intro n39 c38 h hrn39
         change F7L3 x8 x34 x36 (n39 + 1) c38 = some o37 at h
         rw [F7L3] at h
         refine awp_seq (g0 [2, 13, 15, 18, 19, 20, 21, 22, 173] [] [(2, .ref 0 0), (13, .d (L51 x8.1)), (15, .sl 1 2 0 so14.length), (18, vi c30), (19, vi x34), (20, vi x36), (21, vb c38.1), (22, vi c38.2), (173, vb (decide (c38.2 < (x8.1.length : Int))))] [mc p_m, .cells [.d (L65 p_x.Legend), .d (L65 p_x.Truth)], .data (so14.flatMap cel3)] ?_)
         refine awp_cond (b := (decide (c38.2 < (x8.1.length : Int)))) (by kernel_rfl) (fun hb40 => ?_) (fun hb40 => ?_)
         ·rw [if_pos hb40] at h
          refine awp_skip ?_
          show awp ..
          refine awp_seq (awp_block ?_)
          obtain ⟨x41, hx41, h⟩ := ob h
          obtain ⟨x42, hx42, h⟩ := ob h
          refine awp_draw (T' := [(2, .ref 0 0), (13, .d (L51 x8.1)), (15, .sl 1 2 0 so14.length), (18, vi c30), (19, vi x34), (20, vi x36), (21, vb (cond c38.1 true ((x41.A == x42.A) && (x41.B == x42.B)))), (22, vi c38.2)]) (H' := [mc p_m, .cells [.d (L65 p_x.Legend), .d (L65 p_x.Truth)], .data (so14.flatMap cel3)]) (ps := [((!c38.1) = true → (!c38.1) = true), ((!c38.1) = true → (!c38.1) = true), ((!c38.1) = true → IX51 x8.1 c38.2 x41), ((!c38.1) = true → (!c38.1) = true), ((!c38.1) = true → (!c38.1) = true), ((!c38.1) = true → (!c38.1) = true), ((!c38.1) = true → (!c38.1) = true), ((!c38.1) = true → (!c38.1) = true), ((!c38.1) = true → (!c38.1) = true), ((!c38.1) = true → (!c38.1) = true), ((!c38.1) = true → PCall Try.prog 38 [(di (if x36 < x34 then x36 else x34)), (di (if x36 > x34 then x36 else x34))] (.d (.agg [(di x42.A), (di x42.B)]))), ((!c38.1) = true → (!c38.1) = true), ((!c38.1) = true → (!c38.1) = true), (c38.1 = false → (!c38.1) = true)]) tt_ok mixed (ks := [2, 13, 15, 18, 19, 20, 21, 22]) (hs := [.no, .no, .no, .no, .cells (cel51 x41), .no, .no, .no, .no, .no, .no, .no, .call [(di (if x36 < x34 then x36 else x34)), (di (if x36 > x34 then x36 else x34))] (.d (.agg [(di x42.A), (di x42.B)]))]) (m := 13) (mid := [2, 13, 15, 18, 19, 20, 21, 22, 177, 181, 188, 189, 190]) (by kernel_rfl) (And.intro (id) (And.intro (id) (And.intro ((fun hg => idxOk cel51_len (optG_of hx41 hg))) (And.intro (id) (And.intro (id) (And.intro (id) (And.intro (id) (And.intro (id) (And.intro (id) (And.intro (id) (And.intro ((fun hg => ct38 (optG_of hx42 hg))) (And.intro (id) (And.intro (id) (not_of)))))))))))))) ?_
          show awp ..
          refine x0 [2, 13, 15, 18, 19, 20, 21, 22] [] [(2, .ref 0 0), (13, .d (L51 x8.1)), (15, .sl 1 2 0 so14.length), (18, vi c30), (19, vi x34), (20, vi x36), (21, vb (cond c38.1 true ((x41.A == x42.A) && (x41.B == x42.B)))), (22, vi (w64 (c38.2 + 1)))] [mc p_m, .cells [.d (L65 p_x.Legend), .d (L65 p_x.Truth)], .data (so14.flatMap cel3)] ?_
          exact gn 3 [2, 13, 15, 18, 19, 20, 21, 22] (hrn39 ((cond c38.1 true ((x41.A == x42.A) && (x41.B == x42.B))), (w64 (c38.2 + 1))) h)
         ·rw [if_neg (ntrue hb40)] at h
          refine awp_exit ?_
          obtain rfl := Option.some.inj h
          exact gs [0, 1, 2] [2, 13, 15, 18, 21] OutQ.norm
        ·intro e T H hq
         cases o37 with
         | inl ro37 =>
          obtain ⟨rfl, rfl, rfl⟩ := hq
          rw [outK_inl] at h
          obtain rfl := Option.some.inj h
          exact gs [] [4] OutQ.ret
         | inr so37 =>
          obtain ⟨rfl, rfl, rfl⟩ := hq
          rw [outK_inr] at h
          show awp ..
          refine g0 [2, 13, 15, 18, 192] [] [(2, .ref 0 0), (13, .d (L51 x8.1)), (15, .sl 1 2 0 so14.length), (18, vi c30), (192, vb (!so37))] [mc p_m, .cells [.d (L65 p_x.Legend), .d (L65 p_x.Truth)], .data (so14.flatMap cel3)] ?_
          refine awp_cond (b := (!so37)) (by kernel_rfl) (fun hb43 => ?_) (fun hb43 => ?_)
          ·rw [if_pos hb43] at h
           refine g0 [4] [] [(4, vb false)] [mc p_m, .cells [.d (L65 p_x.Legend), .d (L65 p_x.Truth)], .data (so14.flatMap cel3)] ?_
           obtain rfl := Option.some.inj h
           refine gw 3 [4] [(4, vb false)] [mc p_m, .cells [.d (L65 p_x.Legend), .d (L65 p_x.Truth)], .data (so14.flatMap cel3)] ?_
           exact awp_ret (gs [] [4] OutQ.ret)
          ·rw [if_neg (ntrue hb43)] at h
           refine awp_skip ?_
           show awp ..
           refine x0 [2, 13, 15, 18] [] [(2, .ref 0 0), (13, .d (L51 x8.1)), (15, .sl 1 2 0 so14.length), (18, vi (w64 (c30 + 1)))] [mc p_m, .cells [.d (L65 p_x.Legend), .d (L65 p_x.Truth)], .data (so14.flatMap cel3)] ?_
           exact gn 3 [2, 13, 15, 18] (hrn31 (w64 (c30 + 1)) h)
       ·rw [if_neg (ntrue hb32)] at h
        refine awp_exit ?_
        obtain rfl := Option.some.inj h
        exact gs [0, 1, 2] [] OutQ.norm
      ·intro e T H hq
       cases o29 with
       | inl ro29 =>
        obtain ⟨rfl, rfl, rfl⟩ := hq
        rw [outK_inl] at h
        obtain rfl := Option.some.inj h
        exact gm
       | inr so29 =>
        obtain ⟨rfl, rfl, rfl⟩ := hq
        rw [outK_inr] at h
        show awp ..
        obtain ⟨x44, hx44, h⟩ := ob h
        refine gr [4] [.call [] (vb x44)] [(4, vb x44)] [mc p_m, .cells [.d (L65 p_x.Legend), .d (L65 p_x.Truth)], .data (so14.flatMap cel3)] [PCall Try.prog 30 [] (vb x44)] (ct30 hx44) ?_
        obtain rfl := Option.some.inj h
        refine gw 3 [4] [(4, vb x44)] [mc p_m, .cells [.d (L65 p_x.Legend), .d (L65 p_x.Truth)], .data (so14.flatMap cel3)] ?_
        exact awp_ret gm
end Go.Proofs.Ytpkhbbboedoldaa
