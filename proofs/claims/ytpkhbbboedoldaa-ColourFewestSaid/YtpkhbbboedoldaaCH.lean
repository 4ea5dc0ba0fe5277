/- That functions of the seat compute this. Printed by a program of mine. -/
import Derived.Test.YtpkhbbboedoldaaS
import Derived.Test.YtpkhbbboedoldaaCQ
import Derived.Test.YtpkhbbboedoldaaDH
namespace Go.Proofs.Ytpkhbbboedoldaa
open Go Go.Sx
set_option maxRecDepth 100000
set_option linter.unusedVariables false
theorem ct83 {fuel : Nat}  {legend : (List Int)} {high : Int} {res : Int} (h : F83 fuel legend high = some res) : PCall Try.prog 83 [(L3 legend), (di high)] (vi res) := by
 refine PCall.of_awp tt_ok (N := 21) Try.func83 rfl (by kernel_rfl) rfl (Nat.le_of_ble_eq_true rfl) rfl ?_
 unfold F83 at h
 refine g0 [0, 1] [] [(0, .d (L3 legend)), (1, vi high)] [] ?_
 refine g0 [0, 1, 5] [] [(0, .d (L3 legend)), (1, vi high), (5, vi 0)] [] ?_
 refine awp_seq ?_
 obtain ⟨o1, ho1, h⟩ := ob h
 refine awp_cut1 (OutQ (fun (ro1 : Int) => [(4, vi ro1)]) (fun (ro1 : Int) => []) (fun (so1 : Int) => [(5, vi so1)]) (fun (so1 : Int) => []) o1) ?_ ?_
 ·clear h
  have h := ho1
  clear ho1
  refine awp_selQ (gw 0 [0, 1, 5] [(0, .d (L3 legend)), (1, vi high), (5, vi 0)] [] ?_)
  refine awp_block (awp_loop (n := fuel) ?_)
  refine awpN_ind (fun n (c2 : Int) => F83L1 legend high n c2) o1 (fun (c2 : Int) => [(0, .d (L3 legend)), (1, vi high), (5, vi c2)]) (fun (c2 : Int) => []) (fun _ => rfl) ?_ fuel 0 h
  clear h
  intro n3 c2 h hrn3
  change F83L1 legend high (n3 + 1) c2 = some o1 at h
  rw [F83L1] at h
  refine awp_seq ?_
  obtain ⟨x4, hx4, h⟩ := ob h
  refine gr [0, 1, 5, 17] [.no, .no, .no, .no, .no, .no, .no, .cells (cel3 x4)] [(0, .d (L3 legend)), (1, vi high), (5, vi c2), (17, vb (cond (decide (c2 < (legend.length : Int))) (decide (x4 ≤ high)) false))] [] [((decide (c2 < (legend.length : Int))) = true → (decide (c2 < (legend.length : Int))) = true), ((decide (c2 < (legend.length : Int))) = true → (decide (c2 < (legend.length : Int))) = true), ((decide (c2 < (legend.length : Int))) = true → IX3 legend c2 x4), ((decide (c2 < (legend.length : Int))) = true → (decide (c2 < (legend.length : Int))) = true), ((decide (c2 < (legend.length : Int))) = true → (decide (c2 < (legend.length : Int))) = true), ((decide (c2 < (legend.length : Int))) = true → (decide (c2 < (legend.length : Int))) = true), ((decide (c2 < (legend.length : Int))) = true → (decide (c2 < (legend.length : Int))) = true)] (And.intro (id) (And.intro (id) (And.intro ((fun hg => idxOk cel3_len (optG_of hx4 hg))) (And.intro (id) (And.intro (id) (And.intro (id) (id))))))) ?_
  refine awp_cond (b := (cond (decide (c2 < (legend.length : Int))) (decide (x4 ≤ high)) false)) (by kernel_rfl) (fun hb5 => ?_) (fun hb5 => ?_)
  ·rw [if_pos hb5] at h
   refine awp_skip ?_
   show awp ..
   refine awp_block (x0 [0, 1, 5] [] [(0, .d (L3 legend)), (1, vi high), (5, vi (w64 (c2 + 1)))] [] ?_)
   exact gn 0 [0, 1, 5] (hrn3 (w64 (c2 + 1)) h)
  ·rw [if_neg (ntrue hb5)] at h
   refine awp_exit ?_
   obtain rfl := Option.some.inj h
   exact gs [] [5] OutQ.norm
 ·intro e T H hq
  cases o1 with
  | inl ro1 =>
   obtain ⟨rfl, rfl, rfl⟩ := hq
   rw [outK_inl] at h
   obtain rfl := Option.some.inj h
   exact gm
  | inr so1 =>
   obtain ⟨rfl, rfl, rfl⟩ := hq
   rw [outK_inr] at h
   show awp ..
   refine g0 [4] [] [(4, vi so1)] [] ?_
   obtain rfl := Option.some.inj h
   refine gw 0 [4] [(4, vi so1)] [] ?_
   exact awp_ret gm
theorem ct65 {fuel : Nat}  {p_m : S_api_ClMap} {legend : (List Int)} {res : (List S_api_Span)} (h : F65 fuel p_m legend = some res) : PCall Try.prog 65 [(ma p_m), (L3 legend)] (.d (L60 res)) := by
 refine PCall.of_awp tt_ok (N := 35) Try.func65 rfl (by kernel_rfl) rfl (Nat.le_of_ble_eq_true rfl) rfl ?_
 unfold F65 at h
 refine g0 [1, 2] [] [(1, .d (L3 legend)), (2, .ref 0 0)] [mc p_m] ?_
 refine g0 [1, 2, 5] [] [(1, .d (L3 legend)), (2, .ref 0 0), (5, .d dnil)] [mc p_m] ?_
 refine awp_seq (g0 [1, 2, 5, 6] [] [(1, .d (L3 legend)), (2, .ref 0 0), (5, .d dnil), (6, vi 0)] [mc p_m] ?_)
 refine awp_nil 5 2 (by kernel_rfl) ?_
 refine awp_eq (T' := [(5, .sl 2 1 0 ([] : List S_api_Span).length), (1, .d (L3 legend)), (2, .ref 0 0), (6, vi 0)]) (H' := [mc p_m, .data (([] : List S_api_Span).flatMap cel60)]) (by kernel_rfl) (by kernel_rfl) ?_
 refine gw 2 [1, 2, 5, 6] [(1, .d (L3 legend)), (2, .ref 0 0), (5, .sl 2 1 0 ([] : List S_api_Span).length), (6, vi 0)] [mc p_m, .data (([] : List S_api_Span).flatMap cel60)] ?_
 obtain ⟨o2, ho2, h⟩ := ob h
 refine awp_cut1 (OutQ (fun (ro2 : (List S_api_Span)) => [(4, .d (L60 ro2))]) (fun (ro2 : (List S_api_Span)) => []) (fun (so2 : (List S_api_Span)) => [(5, .sl 2 1 0 so2.length)]) (fun (so2 : (List S_api_Span)) => [mc p_m, .data (so2.flatMap cel60)]) o2) ?_ ?_
 ·clear h
  have h := ho2
  clear ho2
  refine awp_selQ (gw 2 [1, 2, 5, 6] [(1, .d (L3 legend)), (2, .ref 0 0), (5, .sl 2 1 0 ([] : List S_api_Span).length), (6, vi 0)] [mc p_m, .data (([] : List S_api_Span).flatMap cel60)] ?_)
  refine awp_block (awp_loop (n := fuel) ?_)
  refine awpN_ind (fun n (c3 : Int × (List S_api_Span)) => F65L1 fuel p_m legend n c3) o2 (fun (c3 : Int × (List S_api_Span)) => [(1, .d (L3 legend)), (2, .ref 0 0), (5, .sl 2 1 0 c3.2.length), (6, vi c3.1)]) (fun (c3 : Int × (List S_api_Span)) => [mc p_m, .data (c3.2.flatMap cel60)]) (fun _ => rfl) ?_ fuel (0, ([] : List S_api_Span)) h
  clear h
  intro n4 c3 h hrn4
  change F65L1 fuel p_m legend (n4 + 1) c3 = some o2 at h
  rw [F65L1] at h
  refine awp_seq (g0 [1, 2, 5, 6, 11] [] [(1, .d (L3 legend)), (2, .ref 0 0), (5, .sl 2 1 0 c3.2.length), (6, vi c3.1), (11, vb (decide (c3.1 < (p_m.Heights.length : Int))))] [mc p_m, .data (c3.2.flatMap cel60)] ?_)
  refine awp_cond (b := (decide (c3.1 < (p_m.Heights.length : Int)))) (by kernel_rfl) (fun hb5 => ?_) (fun hb5 => ?_)
  ·rw [if_pos hb5] at h
   refine awp_skip ?_
   show awp ..
   refine awp_seq (awp_block ?_)
   obtain ⟨x6, hx6, h⟩ := ob h
   obtain ⟨x7, hx7, h⟩ := ob h
   obtain ⟨x8, hx8, h⟩ := ob h
   obtain ⟨x9, hx9, h⟩ := ob h
   obtain ⟨x10, hx10, h⟩ := ob h
   refine awp_draw (T' := [(1, .d (L3 legend)), (2, .ref 0 0), (5, .sl 2 1 0 (c3.2 ++ ([(⟨x7, x9⟩ : S_api_Span)] : List S_api_Span)).length), (6, vi c3.1)]) (H' := [mc p_m, .data ((c3.2 ++ ([(⟨x7, x9⟩ : S_api_Span)] : List S_api_Span)).flatMap cel60)]) (ps := [IX60 p_m.Heights c3.1 x6, PCall Try.prog 83 [(L3 legend), (di x6.Lo)] (vi x7), IX60 p_m.Heights c3.1 x8, PCall Try.prog 83 [(L3 legend), (di x8.Hi)] (vi x9), AppendOk ((c3.2.flatMap cel60).map .d) c3.2.length ([(⟨x7, x9⟩ : S_api_Span)] : List S_api_Span).length (c3.2 ++ ([(⟨x7, x9⟩ : S_api_Span)] : List S_api_Span)).length 2 16 (([(⟨x7, x9⟩ : S_api_Span)] : List S_api_Span).flatMap cel60) ((c3.2 ++ ([(⟨x7, x9⟩ : S_api_Span)] : List S_api_Span)).flatMap cel60)]) tt_ok mixed (ks := [1, 2, 5, 6]) (hs := [.no, .no, .no, .no, .no, .cells (cel60 x6), .no, .no, .call [(L3 legend), (di x6.Lo)] (vi x7), .no, .no, .no, .no, .cells (cel60 x8), .no, .no, .call [(L3 legend), (di x8.Hi)] (vi x9), .no, .no, .list (c3.2 ++ ([(⟨x7, x9⟩ : S_api_Span)] : List S_api_Span)).length ((c3.2 ++ ([(⟨x7, x9⟩ : S_api_Span)] : List S_api_Span)).flatMap cel60)]) (m := 19) (mid := [1, 2, 5, 6, 14, 32, 33]) (by kernel_rfl) (And.intro (idxOk cel60_len hx6) (And.intro (ct83 hx7) (And.intro (idxOk cel60_len hx8) (And.intro (ct83 hx9) (appendOk cel60_len (need_of hx10)))))) ?_
   show awp ..
   refine x0 [1, 2, 5, 6] [] [(1, .d (L3 legend)), (2, .ref 0 0), (5, .sl 2 1 0 (c3.2 ++ ([(⟨x7, x9⟩ : S_api_Span)] : List S_api_Span)).length), (6, vi (w64 (c3.1 + 1)))] [mc p_m, .data ((c3.2 ++ ([(⟨x7, x9⟩ : S_api_Span)] : List S_api_Span)).flatMap cel60)] ?_
   exact gn 2 [1, 2, 5, 6] (hrn4 ((w64 (c3.1 + 1)), (c3.2 ++ ([(⟨x7, x9⟩ : S_api_Span)] : List S_api_Span))) h)
  ·rw [if_neg (ntrue hb5)] at h
   refine awp_exit ?_
   obtain rfl := Option.some.inj h
   exact gs [0, 1] [5] OutQ.norm
 ·intro e T H hq
  cases o2 with
  | inl ro2 =>
   obtain ⟨rfl, rfl, rfl⟩ := hq
   rw [outK_inl] at h
   obtain rfl := Option.some.inj h
   exact gm
  | inr so2 =>
   obtain ⟨rfl, rfl, rfl⟩ := hq
   rw [outK_inr] at h
   show awp ..
   refine g0 [4] [] [(4, .sl 2 1 0 so2.length)] [mc p_m, .data (so2.flatMap cel60)] ?_
   obtain rfl := Option.some.inj h
   refine gw 2 [4] [(4, .sl 2 1 0 so2.length)] [mc p_m, .data (so2.flatMap cel60)] ?_
   refine awp_freeze 4 1 (so2.flatMap cel60) (.sl 2 1 0 so2.length) (.d (L60 so2)) _ _ (ps := [(so2.flatMap cel60).length = so2.length * 2]) (by kernel_rfl) (by kernel_rfl) (by kernel_rfl) (flatMap_len cel60 2 cel60_len so2) rfl rfl ?_
   refine gw 2 [4] [(4, .d (L60 so2))] [mc p_m, .data (([] : List S_api_Span).flatMap cel60)] ?_
   exact awp_ret gm
theorem ct84  {all : (List S_api_Span)} {side : S_api_ClPair} {p_a : Int} {p_b : Int} {res : Bool} (h : F84 all side p_a p_b = some res) : PCall Try.prog 84 [(L60 all), (.agg [(di side.A), (di side.B)]), (di p_a), (di p_b)] (vb res) := by
 refine PCall.of_awp tt_ok (N := 51) Try.func84 rfl (by kernel_rfl) rfl (Nat.le_of_ble_eq_true rfl) rfl ?_
 unfold F84 at h
 refine g0 [0, 2, 3, 5] [] [(0, .d (L60 all)), (2, vi p_a), (3, vi p_b), (5, .ref 0 0)] [.cells [vi side.A, vi side.B]] ?_
 refine awp_res [.cells [vi side.A, vi side.B], .data []] (by kernel_rfl) ?_
 refine awp_res [.cells [vi side.A, vi side.B], .data [], .data []] (by kernel_rfl) ?_
 obtain ⟨x1, hx1, h⟩ := ob h
 obtain ⟨x2, hx2, h⟩ := ob h
 refine awp_seq (awp_any (T' := [(2, vi p_a), (3, vi p_b), (9, .ref 1 0), (10, .ref 2 0)]) (H' := [.cells [vi side.A, vi side.B], .cells [vi x1.Lo, vi x1.Hi], .cells [vi x2.Lo, vi x2.Hi]]) (ps := [IX60 all side.A x1, IX60 all side.B x2]) tt_ok mixed (ks := [2, 3, 9, 10]) (hs := [.no, .no, .no, .cells (cel60 x1), .no, .no, .no, .no, .cells (cel60 x2), .no, .res 1, .res 2]) (m := 13) (mid := [2, 3, 9, 10, 20]) (by kernel_rfl) (And.intro (idxOk cel60_len hx1) (idxOk cel60_len hx2)) ?_)
 show awp ..
 obtain ⟨x3, hx3, h⟩ := ob h
 obtain ⟨x4, hx4, h⟩ := ob h
 obtain ⟨x5, hx5, h⟩ := ob h
 obtain ⟨x6, hx6, h⟩ := ob h
 refine gr [8] [.no, .no, .no, .no, .no, .call [(di p_a), (di x1.Lo), (di x1.Hi)] (vb x3), .no, .no, .no, .no, .no, .no, .call [(di p_b), (di x2.Lo), (di x2.Hi)] (vb x4), .no, .no, .no, .no, .no, .no, .no, .call [(di p_b), (di x1.Lo), (di x1.Hi)] (vb x5), .no, .no, .no, .no, .no, .no, .call [(di p_a), (di x2.Lo), (di x2.Hi)] (vb x6), .own] [(8, vb (cond (cond x3 x4 false) true (cond x5 x6 false)))] [.cells [vi side.A, vi side.B], .cells [vi x1.Lo, vi x1.Hi], .cells [vi x2.Lo, vi x2.Hi]] [PCall Try.prog 61 [(di p_a), (di x1.Lo), (di x1.Hi)] (vb x3), (x3 = true → x3 = true), (x3 = true → x3 = true), (x3 = true → x3 = true), (x3 = true → x3 = true), (x3 = true → x3 = true), (x3 = true → PCall Try.prog 61 [(di p_b), (di x2.Lo), (di x2.Hi)] (vb x4)), (x3 = true → x3 = true), ((!(cond x3 x4 false)) = true → (!(cond x3 x4 false)) = true), ((!(cond x3 x4 false)) = true → (!(cond x3 x4 false)) = true), ((!(cond x3 x4 false)) = true → (!(cond x3 x4 false)) = true), ((!(cond x3 x4 false)) = true → (!(cond x3 x4 false)) = true), ((!(cond x3 x4 false)) = true → (!(cond x3 x4 false)) = true), ((!(cond x3 x4 false)) = true → PCall Try.prog 61 [(di p_b), (di x1.Lo), (di x1.Hi)] (vb x5)), ((!(cond x3 x4 false)) = true → (!(cond x3 x4 false)) = true), (((!(cond x3 x4 false)) && x5) = true → ((!(cond x3 x4 false)) && x5) = true), (((!(cond x3 x4 false)) && x5) = true → ((!(cond x3 x4 false)) && x5) = true), (((!(cond x3 x4 false)) && x5) = true → ((!(cond x3 x4 false)) && x5) = true), (((!(cond x3 x4 false)) && x5) = true → ((!(cond x3 x4 false)) && x5) = true), (((!(cond x3 x4 false)) && x5) = true → ((!(cond x3 x4 false)) && x5) = true), (((!(cond x3 x4 false)) && x5) = true → PCall Try.prog 61 [(di p_a), (di x2.Lo), (di x2.Hi)] (vb x6)), ((!(cond x3 x4 false)) = true → (!(cond x3 x4 false)) = true), ((!(cond x3 x4 false)) = true → x5 = true → ((!(cond x3 x4 false)) && x5) = true), ((cond x3 x4 false) = false → (!(cond x3 x4 false)) = true)] (And.intro (ct61 hx3) (And.intro (id) (And.intro (id) (And.intro (id) (And.intro (id) (And.intro (id) (And.intro ((fun hg => ct61 (optG_of hx4 hg))) (And.intro (id) (And.intro (id) (And.intro (id) (And.intro (id) (And.intro (id) (And.intro (id) (And.intro ((fun hg => ct61 (optG_of hx5 hg))) (And.intro (id) (And.intro (id) (And.intro (id) (And.intro (id) (And.intro (id) (And.intro (id) (And.intro ((fun hg => ct61 (optG_of hx6 hg))) (And.intro (id) (And.intro ((fun hg h1 => by first | exact hg | exact h1 | (rw [hg, h1]; rfl) | (simp only [hg, h1, Bool.not_true, Bool.not_false, Bool.and_self, Bool.true_and, Bool.and_true]; done) | (simp only [Bool.and_eq_true] at hg; simp only [hg, h1, Bool.not_true, Bool.not_false, Bool.and_self, Bool.true_and, Bool.and_true]; done) | simp_all)) (not_of)))))))))))))))))))))))) ?_
 obtain rfl := Option.some.inj h
 refine gw 3 [8] [(8, vb (cond (cond x3 x4 false) true (cond x5 x6 false)))] [.cells [vi side.A, vi side.B], .cells [vi x1.Lo, vi x1.Hi], .cells [vi x2.Lo, vi x2.Hi]] ?_
 exact awp_ret gm
theorem ct67 {fuel : Nat}  {p_m : S_api_ClMap} {legend : (List Int)} {res : (List S_api_ClPair)} (h : F67 fuel p_m legend = some res) : PCall Try.prog 67 [(ma p_m), (L3 legend)] (.d (L51 res)) := by
 refine PCall.of_awp tt_ok (N := 55) Try.func67 rfl (by kernel_rfl) rfl (Nat.le_of_ble_eq_true rfl) rfl ?_
 unfold F67 at h
 refine g0 [1, 2] [] [(1, .d (L3 legend)), (2, .ref 0 0)] [mc p_m] ?_
 refine g0 [1, 2, 5] [] [(1, .d (L3 legend)), (2, .ref 0 0), (5, .d dnil)] [mc p_m] ?_
 obtain ⟨x1, hx1, h⟩ := ob h
 refine gr [1, 2, 5, 6] [.no, .no, .call [(ma p_m), (L3 legend)] (.d (L60 x1))] [(1, .d (L3 legend)), (2, .ref 0 0), (5, .d dnil), (6, .d (L60 x1))] [mc p_m] [PCall Try.prog 65 [(ma p_m), (L3 legend)] (.d (L60 x1))] (ct65 hx1) ?_
 refine awp_seq (g0 [1, 2, 5, 6, 7] [] [(1, .d (L3 legend)), (2, .ref 0 0), (5, .d dnil), (6, .d (L60 x1)), (7, vi 0)] [mc p_m] ?_)
 refine awp_nil 5 2 (by kernel_rfl) ?_
 refine awp_eq (T' := [(5, .sl 2 1 0 ([] : List S_api_ClPair).length), (1, .d (L3 legend)), (2, .ref 0 0), (6, .d (L60 x1)), (7, vi 0)]) (H' := [mc p_m, .data (([] : List S_api_ClPair).flatMap cel51)]) (by kernel_rfl) (by kernel_rfl) ?_
 refine gw 2 [1, 2, 5, 6, 7] [(1, .d (L3 legend)), (2, .ref 0 0), (5, .sl 2 1 0 ([] : List S_api_ClPair).length), (6, .d (L60 x1)), (7, vi 0)] [mc p_m, .data (([] : List S_api_ClPair).flatMap cel51)] ?_
 obtain ⟨o3, ho3, h⟩ := ob h
 refine awp_cut1 (OutQ (fun (ro3 : (List S_api_ClPair)) => [(4, .d (L51 ro3))]) (fun (ro3 : (List S_api_ClPair)) => []) (fun (so3 : (List S_api_ClPair)) => [(5, .sl 2 1 0 so3.length)]) (fun (so3 : (List S_api_ClPair)) => [mc p_m, .data (so3.flatMap cel51)]) o3) ?_ ?_
 ·clear h
  have h := ho3
  clear ho3
  refine awp_selQ (gw 2 [1, 2, 5, 6, 7] [(1, .d (L3 legend)), (2, .ref 0 0), (5, .sl 2 1 0 ([] : List S_api_ClPair).length), (6, .d (L60 x1)), (7, vi 0)] [mc p_m, .data (([] : List S_api_ClPair).flatMap cel51)] ?_)
  refine awp_block (awp_loop (n := fuel) ?_)
  refine awpN_ind (fun n (c4 : Int × (List S_api_ClPair)) => F67L1 fuel p_m legend x1 n c4) o3 (fun (c4 : Int × (List S_api_ClPair)) => [(1, .d (L3 legend)), (2, .ref 0 0), (5, .sl 2 1 0 c4.2.length), (6, .d (L60 x1)), (7, vi c4.1)]) (fun (c4 : Int × (List S_api_ClPair)) => [mc p_m, .data (c4.2.flatMap cel51)]) (fun _ => rfl) ?_ fuel (0, ([] : List S_api_ClPair)) h
  clear h
  intro n5 c4 h hrn5
  change F67L1 fuel p_m legend x1 (n5 + 1) c4 = some o3 at h
  rw [F67L1] at h
  refine awp_seq (g0 [1, 2, 5, 6, 7, 17] [] [(1, .d (L3 legend)), (2, .ref 0 0), (5, .sl 2 1 0 c4.2.length), (6, .d (L60 x1)), (7, vi c4.1), (17, vb (decide (c4.1 ≤ (legend.length : Int))))] [mc p_m, .data (c4.2.flatMap cel51)] ?_)
  refine awp_cond (b := (decide (c4.1 ≤ (legend.length : Int)))) (by kernel_rfl) (fun hb6 => ?_) (fun hb6 => ?_)
  ·rw [if_pos hb6] at h
   refine awp_skip ?_
   show awp ..
   refine awp_seq (awp_block ?_)
   refine g0 [1, 2, 5, 6, 7, 8] [] [(1, .d (L3 legend)), (2, .ref 0 0), (5, .sl 2 1 0 c4.2.length), (6, .d (L60 x1)), (7, vi c4.1), (8, vi (w64 (c4.1 + 1)))] [mc p_m, .data (c4.2.flatMap cel51)] ?_
   obtain ⟨o7, ho7, h⟩ := ob h
   refine awp_cut1 (OutQ (fun (ro7 : (List S_api_ClPair)) => [(4, .d (L51 ro7))]) (fun (ro7 : (List S_api_ClPair)) => []) (fun (so7 : (List S_api_ClPair)) => [(1, .d (L3 legend)), (2, .ref 0 0), (5, .sl 2 1 0 so7.length), (6, .d (L60 x1)), (7, vi c4.1)]) (fun (so7 : (List S_api_ClPair)) => [mc p_m, .data (so7.flatMap cel51)]) o7) ?_ ?_
   ·clear h
    have h := ho7
    clear ho7
    refine awp_selQ (gw 2 [1, 2, 5, 6, 7, 8] [(1, .d (L3 legend)), (2, .ref 0 0), (5, .sl 2 1 0 c4.2.length), (6, .d (L60 x1)), (7, vi c4.1), (8, vi (w64 (c4.1 + 1)))] [mc p_m, .data (c4.2.flatMap cel51)] ?_)
    refine awp_block (awp_loop (n := fuel) ?_)
    refine awpN_ind (fun n (c8 : Int × (List S_api_ClPair)) => F67L2 fuel p_m legend x1 c4 n c8) o7 (fun (c8 : Int × (List S_api_ClPair)) => [(1, .d (L3 legend)), (2, .ref 0 0), (5, .sl 2 1 0 c8.2.length), (6, .d (L60 x1)), (7, vi c4.1), (8, vi c8.1)]) (fun (c8 : Int × (List S_api_ClPair)) => [mc p_m, .data (c8.2.flatMap cel51)]) (fun _ => rfl) ?_ fuel ((w64 (c4.1 + 1)), c4.2) h
    clear h
    intro n9 c8 h hrn9
    change F67L2 fuel p_m legend x1 c4 (n9 + 1) c8 = some o7 at h
    rw [F67L2] at h
    refine awp_seq (g0 [1, 2, 5, 6, 7, 8, 25] [] [(1, .d (L3 legend)), (2, .ref 0 0), (5, .sl 2 1 0 c8.2.length), (6, .d (L60 x1)), (7, vi c4.1), (8, vi c8.1), (25, vb (decide (c8.1 ≤ (legend.length : Int))))] [mc p_m, .data (c8.2.flatMap cel51)] ?_)
    refine awp_cond (b := (decide (c8.1 ≤ (legend.length : Int)))) (by kernel_rfl) (fun hb10 => ?_) (fun hb10 => ?_)
    ·rw [if_pos hb10] at h
     refine awp_skip ?_
     show awp ..
     refine awp_seq (awp_block ?_)
     refine g0 [1, 2, 5, 6, 7, 8, 9] [] [(1, .d (L3 legend)), (2, .ref 0 0), (5, .sl 2 1 0 c8.2.length), (6, .d (L60 x1)), (7, vi c4.1), (8, vi c8.1), (9, vb false)] [mc p_m, .data (c8.2.flatMap cel51)] ?_
     refine awp_seq (g0 [1, 2, 5, 6, 7, 8, 9, 10] [] [(1, .d (L3 legend)), (2, .ref 0 0), (5, .sl 2 1 0 c8.2.length), (6, .d (L60 x1)), (7, vi c4.1), (8, vi c8.1), (9, vb false), (10, vi 0)] [mc p_m, .data (c8.2.flatMap cel51)] ?_)
     obtain ⟨o11, ho11, h⟩ := ob h
     refine awp_cut1 (OutQ (fun (ro11 : (List S_api_ClPair)) => [(4, .d (L51 ro11))]) (fun (ro11 : (List S_api_ClPair)) => []) (fun (so11 : Bool) => [(1, .d (L3 legend)), (2, .ref 0 0), (5, .sl 2 1 0 c8.2.length), (6, .d (L60 x1)), (7, vi c4.1), (8, vi c8.1), (9, vb so11)]) (fun (so11 : Bool) => [mc p_m, .data (c8.2.flatMap cel51)]) o11) ?_ ?_
     ·clear h
      have h := ho11
      clear ho11
      refine awp_selQ (gw 2 [1, 2, 5, 6, 7, 8, 9, 10] [(1, .d (L3 legend)), (2, .ref 0 0), (5, .sl 2 1 0 c8.2.length), (6, .d (L60 x1)), (7, vi c4.1), (8, vi c8.1), (9, vb false), (10, vi 0)] [mc p_m, .data (c8.2.flatMap cel51)] ?_)
      refine awp_block (awp_loop (n := fuel) ?_)
      refine awpN_ind (fun n (c12 : Bool × Int) => F67L3 p_m x1 c4 c8 n c12) o11 (fun (c12 : Bool × Int) => [(1, .d (L3 legend)), (2, .ref 0 0), (5, .sl 2 1 0 c8.2.length), (6, .d (L60 x1)), (7, vi c4.1), (8, vi c8.1), (9, vb c12.1), (10, vi c12.2)]) (fun (c12 : Bool × Int) => [mc p_m, .data (c8.2.flatMap cel51)]) (fun _ => rfl) ?_ fuel (false, 0) h
      clear h
      intro n13 c12 h hrn13
      change F67L3 p_m x1 c4 c8 (n13 + 1) c12 = some o11 at h
      rw [F67L3] at h
      refine awp_seq (g0 [1, 2, 5, 6, 7, 8, 9, 10, 32] [] [(1, .d (L3 legend)), (2, .ref 0 0), (5, .sl 2 1 0 c8.2.length), (6, .d (L60 x1)), (7, vi c4.1), (8, vi c8.1), (9, vb c12.1), (10, vi c12.2), (32, vb (decide (c12.2 < (p_m.Sides.length : Int))))] [mc p_m, .data (c8.2.flatMap cel51)] ?_)
      refine awp_cond (b := (decide (c12.2 < (p_m.Sides.length : Int)))) (by kernel_rfl) (fun hb14 => ?_) (fun hb14 => ?_)
      ·rw [if_pos hb14] at h
       refine awp_skip ?_
       show awp ..
       refine awp_seq (awp_block ?_)
       obtain ⟨x15, hx15, h⟩ := ob h
       obtain ⟨x16, hx16, h⟩ := ob h
       refine xr [1, 2, 5, 6, 7, 8, 9, 10] [.no, .no, .no, .no, .no, .no, .cells (cel51 x15), .no, .no, .no, .call [(L60 x1), (.agg [(di x15.A), (di x15.B)]), (di c4.1), (di c8.1)] (vb x16)] [(1, .d (L3 legend)), (2, .ref 0 0), (5, .sl 2 1 0 c8.2.length), (6, .d (L60 x1)), (7, vi c4.1), (8, vi c8.1), (9, vb (cond c12.1 true x16)), (10, vi c12.2)] [mc p_m, .data (c8.2.flatMap cel51)] [((!c12.1) = true → (!c12.1) = true), ((!c12.1) = true → (!c12.1) = true), ((!c12.1) = true → (!c12.1) = true), ((!c12.1) = true → IX51 p_m.Sides c12.2 x15), ((!c12.1) = true → (!c12.1) = true), ((!c12.1) = true → (!c12.1) = true), ((!c12.1) = true → (!c12.1) = true), ((!c12.1) = true → (!c12.1) = true), ((!c12.1) = true → (!c12.1) = true), ((!c12.1) = true → PCall Try.prog 84 [(L60 x1), (.agg [(di x15.A), (di x15.B)]), (di c4.1), (di c8.1)] (vb x16)), (c12.1 = false → (!c12.1) = true)] (And.intro (id) (And.intro (id) (And.intro (id) (And.intro ((fun hg => idxOk cel51_len (optG_of hx15 hg))) (And.intro (id) (And.intro (id) (And.intro (id) (And.intro (id) (And.intro (id) (And.intro ((fun hg => ct84 (optG_of hx16 hg))) (not_of))))))))))) ?_
       show awp ..
       refine x0 [1, 2, 5, 6, 7, 8, 9, 10] [] [(1, .d (L3 legend)), (2, .ref 0 0), (5, .sl 2 1 0 c8.2.length), (6, .d (L60 x1)), (7, vi c4.1), (8, vi c8.1), (9, vb (cond c12.1 true x16)), (10, vi (w64 (c12.2 + 1)))] [mc p_m, .data (c8.2.flatMap cel51)] ?_
       exact gn 2 [1, 2, 5, 6, 7, 8, 9, 10] (hrn13 ((cond c12.1 true x16), (w64 (c12.2 + 1))) h)
      ·rw [if_neg (ntrue hb14)] at h
       refine awp_exit ?_
       obtain rfl := Option.some.inj h
       exact gs [0, 1] [1, 2, 5, 6, 7, 8, 9] OutQ.norm
     ·intro e T H hq
      cases o11 with
      | inl ro11 =>
       obtain ⟨rfl, rfl, rfl⟩ := hq
       rw [outK_inl] at h
       obtain rfl := Option.some.inj h
       exact gs [] [4] OutQ.ret
      | inr so11 =>
       obtain ⟨rfl, rfl, rfl⟩ := hq
       rw [outK_inr] at h
       show awp ..
       refine g0 [1, 2, 5, 6, 7, 8, 47] [] [(1, .d (L3 legend)), (2, .ref 0 0), (5, .sl 2 1 0 c8.2.length), (6, .d (L60 x1)), (7, vi c4.1), (8, vi c8.1), (47, vb so11)] [mc p_m, .data (c8.2.flatMap cel51)] ?_
       refine awp_cond (b := so11) (by kernel_rfl) (fun hb17 => ?_) (fun hb17 => ?_)
       ·rw [if_pos hb17] at h
        obtain ⟨x18, hx18, h⟩ := ob h
        refine xr [1, 2, 5, 6, 7, 8] [.no, .no, .no, .no, .no, .list (c8.2 ++ ([(⟨c4.1, c8.1⟩ : S_api_ClPair)] : List S_api_ClPair)).length ((c8.2 ++ ([(⟨c4.1, c8.1⟩ : S_api_ClPair)] : List S_api_ClPair)).flatMap cel51)] [(1, .d (L3 legend)), (2, .ref 0 0), (5, .sl 2 1 0 (c8.2 ++ ([(⟨c4.1, c8.1⟩ : S_api_ClPair)] : List S_api_ClPair)).length), (6, .d (L60 x1)), (7, vi c4.1), (8, vi c8.1)] [mc p_m, .data ((c8.2 ++ ([(⟨c4.1, c8.1⟩ : S_api_ClPair)] : List S_api_ClPair)).flatMap cel51)] [AppendOk ((c8.2.flatMap cel51).map .d) c8.2.length ([(⟨c4.1, c8.1⟩ : S_api_ClPair)] : List S_api_ClPair).length (c8.2 ++ ([(⟨c4.1, c8.1⟩ : S_api_ClPair)] : List S_api_ClPair)).length 2 16 (([(⟨c4.1, c8.1⟩ : S_api_ClPair)] : List S_api_ClPair).flatMap cel51) ((c8.2 ++ ([(⟨c4.1, c8.1⟩ : S_api_ClPair)] : List S_api_ClPair)).flatMap cel51)] (appendOk cel51_len (need_of hx18)) ?_
        show awp ..
        refine x0 [1, 2, 5, 6, 7, 8] [] [(1, .d (L3 legend)), (2, .ref 0 0), (5, .sl 2 1 0 (c8.2 ++ ([(⟨c4.1, c8.1⟩ : S_api_ClPair)] : List S_api_ClPair)).length), (6, .d (L60 x1)), (7, vi c4.1), (8, vi (w64 (c8.1 + 1)))] [mc p_m, .data ((c8.2 ++ ([(⟨c4.1, c8.1⟩ : S_api_ClPair)] : List S_api_ClPair)).flatMap cel51)] ?_
        exact gn 2 [1, 2, 5, 6, 7, 8] (hrn9 ((w64 (c8.1 + 1)), (c8.2 ++ ([(⟨c4.1, c8.1⟩ : S_api_ClPair)] : List S_api_ClPair))) h)
       ·rw [if_neg (ntrue hb17)] at h
        refine awp_skip ?_
        show awp ..
        refine x0 [1, 2, 5, 6, 7, 8] [] [(1, .d (L3 legend)), (2, .ref 0 0), (5, .sl 2 1 0 c8.2.length), (6, .d (L60 x1)), (7, vi c4.1), (8, vi (w64 (c8.1 + 1)))] [mc p_m, .data (c8.2.flatMap cel51)] ?_
        exact gn 2 [1, 2, 5, 6, 7, 8] (hrn9 ((w64 (c8.1 + 1)), c8.2) h)
    ·rw [if_neg (ntrue hb10)] at h
     refine awp_exit ?_
     obtain rfl := Option.some.inj h
     exact gs [0, 1] [1, 2, 5, 6, 7] OutQ.norm
   ·intro e T H hq
    cases o7 with
    | inl ro7 =>
     obtain ⟨rfl, rfl, rfl⟩ := hq
     rw [outK_inl] at h
     obtain rfl := Option.some.inj h
     exact gs [] [4] OutQ.ret
    | inr so7 =>
     obtain ⟨rfl, rfl, rfl⟩ := hq
     rw [outK_inr] at h
     show awp ..
     refine x0 [1, 2, 5, 6, 7] [] [(1, .d (L3 legend)), (2, .ref 0 0), (5, .sl 2 1 0 so7.length), (6, .d (L60 x1)), (7, vi (w64 (c4.1 + 1)))] [mc p_m, .data (so7.flatMap cel51)] ?_
     exact gn 2 [1, 2, 5, 6, 7] (hrn5 ((w64 (c4.1 + 1)), so7) h)
  ·rw [if_neg (ntrue hb6)] at h
   refine awp_exit ?_
   obtain rfl := Option.some.inj h
   exact gs [0, 1] [5] OutQ.norm
 ·intro e T H hq
  cases o3 with
  | inl ro3 =>
   obtain ⟨rfl, rfl, rfl⟩ := hq
   rw [outK_inl] at h
   obtain rfl := Option.some.inj h
   exact gm
  | inr so3 =>
   obtain ⟨rfl, rfl, rfl⟩ := hq
   rw [outK_inr] at h
   show awp ..
   refine g0 [4] [] [(4, .sl 2 1 0 so3.length)] [mc p_m, .data (so3.flatMap cel51)] ?_
   obtain rfl := Option.some.inj h
   refine gw 2 [4] [(4, .sl 2 1 0 so3.length)] [mc p_m, .data (so3.flatMap cel51)] ?_
   refine awp_freeze 4 1 (so3.flatMap cel51) (.sl 2 1 0 so3.length) (.d (L51 so3)) _ _ (ps := [(so3.flatMap cel51).length = so3.length * 2]) (by kernel_rfl) (by kernel_rfl) (by kernel_rfl) (flatMap_len cel51 2 cel51_len so3) rfl rfl ?_
   refine gw 2 [4] [(4, .d (L51 so3))] [mc p_m, .data (([] : List S_api_ClPair).flatMap cel51)] ?_
   exact awp_ret gm
end Go.Proofs.Ytpkhbbboedoldaa
