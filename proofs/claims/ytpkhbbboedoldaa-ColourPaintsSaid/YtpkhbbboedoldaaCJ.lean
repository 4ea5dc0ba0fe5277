/- That functions of the seat compute this. Printed by a program of mine. -/
import Derived.Test.YtpkhbbboedoldaaS
import Derived.Test.YtpkhbbboedoldaaCH
import Derived.Test.YtpkhbbboedoldaaCHS
import Derived.Test.YtpkhbbboedoldaaCM
import Derived.Test.YtpkhbbboedoldaaCP
import Derived.Test.YtpkhbbboedoldaaCQ
import Derived.Test.YtpkhbbboedoldaaCR
import Derived.Test.YtpkhbbboedoldaaCW
import Derived.Test.YtpkhbbboedoldaaDJ
namespace Go.Proofs.Ytpkhbbboedoldaa
open Go Go.Sx
set_option maxRecDepth 100000
set_option linter.unusedVariables false
theorem ct73 {fuel : Nat}  {p_m : S_api_ClMap} {legend : (List Int)} {inks : (List Int)} {res : Int} (h : F73 fuel p_m legend inks = some res) : PCall Try.prog 73 [(ma p_m), (L3 legend), (L3 inks)] (vi res) := by
 refine PCall.of_awp tt_ok (N := 46) Try.func73 rfl (by kernel_rfl) rfl (Nat.le_of_ble_eq_true rfl) rfl ?_
 unfold F73 at h
 refine g0 [1, 2, 3] [] [(1, .d (L3 legend)), (2, .d (L3 inks)), (3, .ref 0 0)] [mc p_m] ?_
 obtain ⟨x1, hx1, h⟩ := ob h
 refine gr [1, 2, 3, 8] [.no, .no, .call [(ma p_m), (L3 legend)] (.tup [vi x1.1, vi x1.2])] [(1, .d (L3 legend)), (2, .d (L3 inks)), (3, .ref 0 0), (8, vi x1.2)] [mc p_m] [PCall Try.prog 20 [(ma p_m), (L3 legend)] (.tup [vi x1.1, vi x1.2])] (ct20 hx1) ?_
 refine awp_seq (gr [2, 3, 8, 25] [] [(2, .d (L3 inks)), (3, .ref 0 0), (8, vi x1.2), (25, vb (cond (x1.2 == 0) ((inks.length : Int) != (w64 ((legend.length : Int) + 1))) false))] [mc p_m] [((x1.2 == 0) = true → (x1.2 == 0) = true), ((x1.2 == 0) = true → (x1.2 == 0) = true), ((x1.2 == 0) = true → (x1.2 == 0) = true), ((x1.2 == 0) = true → (x1.2 == 0) = true), ((x1.2 == 0) = true → (x1.2 == 0) = true), ((x1.2 == 0) = true → (x1.2 == 0) = true)] (And.intro (id) (And.intro (id) (And.intro (id) (And.intro (id) (And.intro (id) (id)))))) ?_)
 obtain ⟨o2, ho2, h⟩ := ob h
 refine awp_cut1 (OutQ (fun (ro2 : Int) => [(6, vi ro2)]) (fun (ro2 : Int) => []) (fun (so2 : Int) => [(2, .d (L3 inks)), (3, .ref 0 0), (8, vi so2)]) (fun (so2 : Int) => [mc p_m]) o2) ?_ ?_
 ·clear h
  have h := ho2
  clear ho2
  refine awp_selQ (awp_cond (b := (cond (x1.2 == 0) ((inks.length : Int) != (w64 ((legend.length : Int) + 1))) false)) (by kernel_rfl) (fun hb3 => ?_) (fun hb3 => ?_))
  ·rw [if_pos hb3] at h
   refine x0 [2, 3, 8] [] [(2, .d (L3 inks)), (3, .ref 0 0), (8, vi 3)] [mc p_m] ?_
   obtain rfl := Option.some.inj h
   exact gs [0] [2, 3, 8] OutQ.norm
  ·rw [if_neg (ntrue hb3)] at h
   refine awp_skip ?_
   obtain rfl := Option.some.inj h
   exact gs [0] [2, 3, 8] OutQ.norm
 ·intro e T H hq
  cases o2 with
  | inl ro2 =>
   obtain ⟨rfl, rfl, rfl⟩ := hq
   rw [outK_inl] at h
   obtain rfl := Option.some.inj h
   exact gm
  | inr so2 =>
   obtain ⟨rfl, rfl, rfl⟩ := hq
   rw [outK_inr] at h
   show awp ..
   refine awp_seq (g0 [2, 3, 8, 9] [] [(2, .d (L3 inks)), (3, .ref 0 0), (8, vi so2), (9, vi 0)] [mc p_m] ?_)
   obtain ⟨o4, ho4, h⟩ := ob h
   refine awp_cut1 (OutQ (fun (ro4 : Int) => [(6, vi ro4)]) (fun (ro4 : Int) => []) (fun (so4 : Int) => [(8, vi so4)]) (fun (so4 : Int) => [mc p_m]) o4) ?_ ?_
   ·clear h
    have h := ho4
    clear ho4
    refine awp_selQ (gw 1 [2, 3, 8, 9] [(2, .d (L3 inks)), (3, .ref 0 0), (8, vi so2), (9, vi 0)] [mc p_m] ?_)
    refine awp_block (awp_loop (n := fuel) ?_)
    refine awpN_ind (fun n (c5 : Int × Int) => F73L1 p_m inks n c5) o4 (fun (c5 : Int × Int) => [(2, .d (L3 inks)), (3, .ref 0 0), (8, vi c5.1), (9, vi c5.2)]) (fun (c5 : Int × Int) => [mc p_m]) (fun _ => rfl) ?_ fuel (so2, 0) h
    clear h
    intro n6 c5 h hrn6
    change F73L1 p_m inks (n6 + 1) c5 = some o4 at h
    rw [F73L1] at h
    refine awp_seq (gr [2, 3, 8, 9, 33] [] [(2, .d (L3 inks)), (3, .ref 0 0), (8, vi c5.1), (9, vi c5.2), (33, vb (cond (decide (c5.2 < (inks.length : Int))) (c5.1 == 0) false))] [mc p_m] [((decide (c5.2 < (inks.length : Int))) = true → (decide (c5.2 < (inks.length : Int))) = true), ((decide (c5.2 < (inks.length : Int))) = true → (decide (c5.2 < (inks.length : Int))) = true)] (And.intro (id) (id)) ?_)
    refine awp_cond (b := (cond (decide (c5.2 < (inks.length : Int))) (c5.1 == 0) false)) (by kernel_rfl) (fun hb7 => ?_) (fun hb7 => ?_)
    ·rw [if_pos hb7] at h
     refine awp_skip ?_
     show awp ..
     refine awp_seq (awp_block ?_)
     obtain ⟨x8, hx8, h⟩ := ob h
     obtain ⟨x9, hx9, h⟩ := ob h
     refine awp_sdraw tt_ok mixed (ks := [2, 3, 8, 9, 44]) (hs := [.no, .no, .cells (cel3 x8), .no, .no, .no, .no, .call [(di x8), (di 0), (di (w64 (p_m.Inks - 1)))] (vb x9)]) 7 [2, 3, 8, 9, 39, 42, 43, 44] [(2, .d (L3 inks)), (3, .ref 0 0), (8, vi c5.1), (9, vi c5.2), (44, vb (!x9))] [mc p_m] [IX3 inks c5.2 x8, PCall Try.prog 61 [(di x8), (di 0), (di (w64 (p_m.Inks - 1)))] (vb x9)] (by kernel_rfl) (And.intro (idxOk cel3_len hx8) (ct61 hx9)) ?_
     refine awp_cond (b := (!x9)) (by kernel_rfl) (fun hb10 => ?_) (fun hb10 => ?_)
     ·rw [if_pos hb10] at h
      refine x0 [2, 3, 8, 9] [] [(2, .d (L3 inks)), (3, .ref 0 0), (8, vi 4), (9, vi c5.2)] [mc p_m] ?_
      show awp ..
      refine x0 [2, 3, 8, 9] [] [(2, .d (L3 inks)), (3, .ref 0 0), (8, vi 4), (9, vi (w64 (c5.2 + 1)))] [mc p_m] ?_
      exact gn 1 [2, 3, 8, 9] (hrn6 (4, (w64 (c5.2 + 1))) h)
     ·rw [if_neg (ntrue hb10)] at h
      refine awp_skip ?_
      show awp ..
      refine x0 [2, 3, 8, 9] [] [(2, .d (L3 inks)), (3, .ref 0 0), (8, vi c5.1), (9, vi (w64 (c5.2 + 1)))] [mc p_m] ?_
      exact gn 1 [2, 3, 8, 9] (hrn6 (c5.1, (w64 (c5.2 + 1))) h)
    ·rw [if_neg (ntrue hb7)] at h
     refine awp_exit ?_
     obtain rfl := Option.some.inj h
     exact gs [0] [8] OutQ.norm
   ·intro e T H hq
    cases o4 with
    | inl ro4 =>
     obtain ⟨rfl, rfl, rfl⟩ := hq
     rw [outK_inl] at h
     obtain rfl := Option.some.inj h
     exact gm
    | inr so4 =>
     obtain ⟨rfl, rfl, rfl⟩ := hq
     rw [outK_inr] at h
     show awp ..
     refine g0 [6] [] [(6, vi so4)] [mc p_m] ?_
     obtain rfl := Option.some.inj h
     refine gw 1 [6] [(6, vi so4)] [mc p_m] ?_
     exact awp_ret gm
theorem ct74 {fuel : Nat}  {p_m : S_api_ClMap} {legend : (List Int)} {inks : (List Int)} {side : S_api_ClPair} {res : Bool} (h : F74 fuel p_m legend inks side = some res) : PCall Try.prog 74 [(ma p_m), (L3 legend), (L3 inks), (.agg [(di side.A), (di side.B)])] (vb res) := by
 refine PCall.of_awp tt_ok (N := 43) Try.func74 rfl (by kernel_rfl) rfl (Nat.le_of_ble_eq_true rfl) rfl ?_
 unfold F74 at h
 refine g0 [1, 2, 4, 7] [] [(1, .d (L3 legend)), (2, .d (L3 inks)), (4, .ref 0 0), (7, .ref 1 0)] [mc p_m, .cells [vi side.A, vi side.B]] ?_
 obtain ⟨x1, hx1, h⟩ := ob h
 refine gr [2, 4, 7, 9] [.no, .no, .call [(ma p_m), (L3 legend)] (.d (L60 x1))] [(2, .d (L3 inks)), (4, .ref 0 0), (7, .ref 1 0), (9, .d (L60 x1))] [mc p_m, .cells [vi side.A, vi side.B]] [PCall Try.prog 65 [(ma p_m), (L3 legend)] (.d (L60 x1))] (ct65 hx1) ?_
 refine awp_seq (g0 [2, 4, 7, 9, 10] [] [(2, .d (L3 inks)), (4, .ref 0 0), (7, .ref 1 0), (9, .d (L60 x1)), (10, vi 0)] [mc p_m, .cells [vi side.A, vi side.B]] ?_)
 obtain ⟨o2, ho2, h⟩ := ob h
 refine awp_cut1 (OutQ (fun (ro2 : Bool) => [(8, vb ro2)]) (fun (ro2 : Bool) => []) (fun (so2 : Unit) => []) (fun (so2 : Unit) => [mc p_m, .cells [vi side.A, vi side.B]]) o2) ?_ ?_
 ·clear h
  have h := ho2
  clear ho2
  refine awp_selQ (gw 2 [2, 4, 7, 9, 10] [(2, .d (L3 inks)), (4, .ref 0 0), (7, .ref 1 0), (9, .d (L60 x1)), (10, vi 0)] [mc p_m, .cells [vi side.A, vi side.B]] ?_)
  refine awp_block (awp_loop (n := fuel) ?_)
  refine awpN_ind (fun n (c3 : Int) => F74L1 fuel p_m inks side x1 n c3) o2 (fun (c3 : Int) => [(2, .d (L3 inks)), (4, .ref 0 0), (7, .ref 1 0), (9, .d (L60 x1)), (10, vi c3)]) (fun (c3 : Int) => [mc p_m, .cells [vi side.A, vi side.B]]) (fun _ => rfl) ?_ fuel 0 h
  clear h
  intro n4 c3 h hrn4
  change F74L1 fuel p_m inks side x1 (n4 + 1) c3 = some o2 at h
  rw [F74L1] at h
  refine awp_seq (g0 [2, 4, 7, 9, 10, 18] [] [(2, .d (L3 inks)), (4, .ref 0 0), (7, .ref 1 0), (9, .d (L60 x1)), (10, vi c3), (18, vb (decide (c3 < (inks.length : Int))))] [mc p_m, .cells [vi side.A, vi side.B]] ?_)
  refine awp_cond (b := (decide (c3 < (inks.length : Int)))) (by kernel_rfl) (fun hb5 => ?_) (fun hb5 => ?_)
  ·rw [if_pos hb5] at h
   refine awp_skip ?_
   show awp ..
   refine awp_seq (awp_block ?_)
   refine g0 [2, 4, 7, 9, 10, 11] [] [(2, .d (L3 inks)), (4, .ref 0 0), (7, .ref 1 0), (9, .d (L60 x1)), (10, vi c3), (11, vi 0)] [mc p_m, .cells [vi side.A, vi side.B]] ?_
   obtain ⟨o6, ho6, h⟩ := ob h
   refine awp_cut1 (OutQ (fun (ro6 : Bool) => [(8, vb ro6)]) (fun (ro6 : Bool) => []) (fun (so6 : Unit) => [(2, .d (L3 inks)), (4, .ref 0 0), (7, .ref 1 0), (9, .d (L60 x1)), (10, vi c3)]) (fun (so6 : Unit) => [mc p_m, .cells [vi side.A, vi side.B]]) o6) ?_ ?_
   ·clear h
    have h := ho6
    clear ho6
    refine awp_selQ (gw 2 [2, 4, 7, 9, 10, 11] [(2, .d (L3 inks)), (4, .ref 0 0), (7, .ref 1 0), (9, .d (L60 x1)), (10, vi c3), (11, vi 0)] [mc p_m, .cells [vi side.A, vi side.B]] ?_)
    refine awp_block (awp_loop (n := fuel) ?_)
    refine awpN_ind (fun n (c7 : Int) => F74L2 fuel p_m inks side x1 c3 n c7) o6 (fun (c7 : Int) => [(2, .d (L3 inks)), (4, .ref 0 0), (7, .ref 1 0), (9, .d (L60 x1)), (10, vi c3), (11, vi c7)]) (fun (c7 : Int) => [mc p_m, .cells [vi side.A, vi side.B]]) (fun _ => rfl) ?_ fuel 0 h
    clear h
    intro n8 c7 h hrn8
    change F74L2 fuel p_m inks side x1 c3 (n8 + 1) c7 = some o6 at h
    rw [F74L2] at h
    refine awp_seq (g0 [2, 4, 7, 9, 10, 11, 23] [] [(2, .d (L3 inks)), (4, .ref 0 0), (7, .ref 1 0), (9, .d (L60 x1)), (10, vi c3), (11, vi c7), (23, vb (decide (c7 < c3)))] [mc p_m, .cells [vi side.A, vi side.B]] ?_)
    refine awp_cond (b := (decide (c7 < c3))) (by kernel_rfl) (fun hb9 => ?_) (fun hb9 => ?_)
    ·rw [if_pos hb9] at h
     refine awp_skip ?_
     show awp ..
     refine awp_seq (awp_block ?_)
     obtain ⟨x10, hx10, h⟩ := ob h
     obtain ⟨x11, hx11, h⟩ := ob h
     obtain ⟨x12, hx12, h⟩ := ob h
     obtain ⟨x13, hx13, h⟩ := ob h
     refine awp_sdraw tt_ok mixed (ks := [2, 4, 7, 9, 10, 11, 42]) (hs := [.no, .no, .no, .cells (cel3 x10), .no, .no, .no, .cells (cel3 x11), .no, .call [(ma p_m), (di x10), (di x11)] (vb x12), .no, .no, .no, .no, .no, .call [(L60 x1), (.agg [(di side.A), (di side.B)]), (di c3), (di c7)] (vb x13)]) 15 [2, 4, 7, 9, 10, 11, 36, 37, 38, 39, 40, 41, 42] [(2, .d (L3 inks)), (4, .ref 0 0), (7, .ref 1 0), (9, .d (L60 x1)), (10, vi c3), (11, vi c7), (42, vb (cond x12 x13 false))] [mc p_m, .cells [vi side.A, vi side.B]] [IX3 inks c3 x10, IX3 inks c7 x11, PCall Try.prog 49 [(ma p_m), (di x10), (di x11)] (vb x12), (x12 = true → x12 = true), (x12 = true → x12 = true), (x12 = true → x12 = true), (x12 = true → x12 = true), (x12 = true → PCall Try.prog 84 [(L60 x1), (.agg [(di side.A), (di side.B)]), (di c3), (di c7)] (vb x13)), (x12 = true → x12 = true)] (by kernel_rfl) (And.intro (idxOk cel3_len hx10) (And.intro (idxOk cel3_len hx11) (And.intro (ct49 hx12) (And.intro (id) (And.intro (id) (And.intro (id) (And.intro (id) (And.intro ((fun hg => ct84 (optG_of hx13 hg))) (id))))))))) ?_
     refine awp_cond (b := (cond x12 x13 false)) (by kernel_rfl) (fun hb14 => ?_) (fun hb14 => ?_)
     ·rw [if_pos hb14] at h
      refine g0 [8] [] [(8, vb true)] [mc p_m, .cells [vi side.A, vi side.B]] ?_
      obtain rfl := Option.some.inj h
      refine gw 2 [8] [(8, vb true)] [mc p_m, .cells [vi side.A, vi side.B]] ?_
      exact awp_ret (gs [] [8] OutQ.ret)
     ·rw [if_neg (ntrue hb14)] at h
      refine awp_skip ?_
      show awp ..
      refine x0 [2, 4, 7, 9, 10, 11] [] [(2, .d (L3 inks)), (4, .ref 0 0), (7, .ref 1 0), (9, .d (L60 x1)), (10, vi c3), (11, vi (w64 (c7 + 1)))] [mc p_m, .cells [vi side.A, vi side.B]] ?_
      exact gn 2 [2, 4, 7, 9, 10, 11] (hrn8 (w64 (c7 + 1)) h)
    ·rw [if_neg (ntrue hb9)] at h
     refine awp_exit ?_
     obtain rfl := Option.some.inj h
     exact gs [0, 1] [2, 4, 7, 9, 10] OutQ.norm
   ·intro e T H hq
    cases o6 with
    | inl ro6 =>
     obtain ⟨rfl, rfl, rfl⟩ := hq
     rw [outK_inl] at h
     obtain rfl := Option.some.inj h
     exact gs [] [8] OutQ.ret
    | inr so6 =>
     obtain ⟨rfl, rfl, rfl⟩ := hq
     rw [outK_inr] at h
     show awp ..
     refine x0 [2, 4, 7, 9, 10] [] [(2, .d (L3 inks)), (4, .ref 0 0), (7, .ref 1 0), (9, .d (L60 x1)), (10, vi (w64 (c3 + 1)))] [mc p_m, .cells [vi side.A, vi side.B]] ?_
     exact gn 2 [2, 4, 7, 9, 10] (hrn4 (w64 (c3 + 1)) h)
  ·rw [if_neg (ntrue hb5)] at h
   refine awp_exit ?_
   obtain rfl := Option.some.inj h
   exact gs [0, 1] [] OutQ.norm
 ·intro e T H hq
  cases o2 with
  | inl ro2 =>
   obtain ⟨rfl, rfl, rfl⟩ := hq
   rw [outK_inl] at h
   obtain rfl := Option.some.inj h
   exact gm
  | inr so2 =>
   obtain ⟨rfl, rfl, rfl⟩ := hq
   rw [outK_inr] at h
   show awp ..
   refine g0 [8] [] [(8, vb false)] [mc p_m, .cells [vi side.A, vi side.B]] ?_
   obtain rfl := Option.some.inj h
   refine gw 2 [8] [(8, vb false)] [mc p_m, .cells [vi side.A, vi side.B]] ?_
   exact awp_ret gm
theorem ct34 {fuel : Nat}  {p_m : S_api_ClMap} {legend : (List Int)} {inks : (List Int)} {res : (List Int) × Int} (h : F34 fuel p_m legend inks = some res) : PCall Try.prog 34 [(ma p_m), (L3 legend), (L3 inks)] (.tup [.d (L3 res.1), vi res.2]) := by
 refine PCall.of_awp tt_ok (N := 39) Try.func34 rfl (by kernel_rfl) rfl (Nat.le_of_ble_eq_true rfl) rfl ?_
 unfold F34 at h
 refine g0 [1, 2, 3] [] [(1, .d (L3 legend)), (2, .d (L3 inks)), (3, .ref 0 0)] [mc p_m] ?_
 obtain ⟨x1, hx1, h⟩ := ob h
 refine gr [1, 2, 3, 8] [.no, .no, .no, .call [(ma p_m), (L3 legend), (L3 inks)] (vi x1)] [(1, .d (L3 legend)), (2, .d (L3 inks)), (3, .ref 0 0), (8, vi x1)] [mc p_m] [PCall Try.prog 73 [(ma p_m), (L3 legend), (L3 inks)] (vi x1)] (ct73 hx1) ?_
 refine awp_seq (g0 [1, 2, 3, 8, 16] [] [(1, .d (L3 legend)), (2, .d (L3 inks)), (3, .ref 0 0), (8, vi x1), (16, vb (x1 != 0))] [mc p_m] ?_)
 refine awp_cond (b := (x1 != 0)) (by kernel_rfl) (fun hb2 => ?_) (fun hb2 => ?_)
 ·rw [if_pos hb2] at h
  refine g0 [6, 7] [] [(6, .d dnil), (7, vi x1)] [mc p_m] ?_
  obtain rfl := Option.some.inj h
  refine gw 1 [6, 7] [(6, .d dnil), (7, vi x1)] [mc p_m] ?_
  refine awp_laxT 6 _ (L3 ([] : List Int)) _ (by kernel_rfl) (.nil (e := 1)) rfl ?_
  refine gw 1 [6, 7] [(6, .d (L3 ([] : List Int))), (7, vi x1)] [mc p_m] ?_
  exact awp_ret gm
 ·rw [if_neg (ntrue hb2)] at h
  refine awp_skip ?_
  show awp ..
  refine g0 [1, 2, 3, 9] [] [(1, .d (L3 legend)), (2, .d (L3 inks)), (3, .ref 0 0), (9, .d dnil)] [mc p_m] ?_
  refine awp_seq (g0 [1, 2, 3, 9, 10] [] [(1, .d (L3 legend)), (2, .d (L3 inks)), (3, .ref 0 0), (9, .d dnil), (10, vi 0)] [mc p_m] ?_)
  refine awp_nil 9 1 (by kernel_rfl) ?_
  refine awp_eq (T' := [(9, .sl 1 1 0 ([] : List Int).length), (1, .d (L3 legend)), (2, .d (L3 inks)), (3, .ref 0 0), (10, vi 0)]) (H' := [mc p_m, .data (([] : List Int).flatMap cel3)]) (by kernel_rfl) (by kernel_rfl) ?_
  refine gw 2 [1, 2, 3, 9, 10] [(1, .d (L3 legend)), (2, .d (L3 inks)), (3, .ref 0 0), (9, .sl 1 1 0 ([] : List Int).length), (10, vi 0)] [mc p_m, .data (([] : List Int).flatMap cel3)] ?_
  obtain ⟨o4, ho4, h⟩ := ob h
  refine awp_cut1 (OutQ (fun (ro4 : (List Int) × Int) => [(6, .d (L3 ro4.1)), (7, vi ro4.2)]) (fun (ro4 : (List Int) × Int) => []) (fun (so4 : (List Int)) => [(9, .sl 1 1 0 so4.length)]) (fun (so4 : (List Int)) => [mc p_m, .data (so4.flatMap cel3)]) o4) ?_ ?_
  ·clear h
   have h := ho4
   clear ho4
   refine awp_selQ (gw 2 [1, 2, 3, 9, 10] [(1, .d (L3 legend)), (2, .d (L3 inks)), (3, .ref 0 0), (9, .sl 1 1 0 ([] : List Int).length), (10, vi 0)] [mc p_m, .data (([] : List Int).flatMap cel3)] ?_)
   refine awp_block (awp_loop (n := fuel) ?_)
   refine awpN_ind (fun n (c5 : Int × (List Int)) => F34L1 fuel p_m legend inks n c5) o4 (fun (c5 : Int × (List Int)) => [(1, .d (L3 legend)), (2, .d (L3 inks)), (3, .ref 0 0), (9, .sl 1 1 0 c5.2.length), (10, vi c5.1)]) (fun (c5 : Int × (List Int)) => [mc p_m, .data (c5.2.flatMap cel3)]) (fun _ => rfl) ?_ fuel (0, ([] : List Int)) h
   clear h
   intro n6 c5 h hrn6
   change F34L1 fuel p_m legend inks (n6 + 1) c5 = some o4 at h
   rw [F34L1] at h
   refine awp_seq (g0 [1, 2, 3, 9, 10, 22] [] [(1, .d (L3 legend)), (2, .d (L3 inks)), (3, .ref 0 0), (9, .sl 1 1 0 c5.2.length), (10, vi c5.1), (22, vb (decide (c5.1 < (p_m.Sides.length : Int))))] [mc p_m, .data (c5.2.flatMap cel3)] ?_)
   refine awp_cond (b := (decide (c5.1 < (p_m.Sides.length : Int)))) (by kernel_rfl) (fun hb7 => ?_) (fun hb7 => ?_)
   ·rw [if_pos hb7] at h
    refine awp_skip ?_
    show awp ..
    refine awp_seq (awp_block ?_)
    obtain ⟨x8, hx8, h⟩ := ob h
    obtain ⟨x9, hx9, h⟩ := ob h
    refine awp_sdraw tt_ok mixed (ks := [1, 2, 3, 9, 10, 33]) (hs := [.no, .no, .no, .no, .no, .no, .cells (cel51 x8), .no, .call [(ma p_m), (L3 legend), (L3 inks), (.agg [(di x8.A), (di x8.B)])] (vb x9)]) 8 [1, 2, 3, 9, 10, 25, 26, 27, 32, 33] [(1, .d (L3 legend)), (2, .d (L3 inks)), (3, .ref 0 0), (9, .sl 1 1 0 c5.2.length), (10, vi c5.1), (33, vb x9)] [mc p_m, .data (c5.2.flatMap cel3)] [IX51 p_m.Sides c5.1 x8, PCall Try.prog 74 [(ma p_m), (L3 legend), (L3 inks), (.agg [(di x8.A), (di x8.B)])] (vb x9)] (by kernel_rfl) (And.intro (idxOk cel51_len hx8) (ct74 hx9)) ?_
    refine awp_cond (b := x9) (by kernel_rfl) (fun hb10 => ?_) (fun hb10 => ?_)
    ·rw [if_pos hb10] at h
     obtain ⟨x11, hx11, h⟩ := ob h
     refine xr [1, 2, 3, 9, 10] [.no, .no, .no, .list (c5.2 ++ ([c5.1] : List Int)).length ((c5.2 ++ ([c5.1] : List Int)).flatMap cel3)] [(1, .d (L3 legend)), (2, .d (L3 inks)), (3, .ref 0 0), (9, .sl 1 1 0 (c5.2 ++ ([c5.1] : List Int)).length), (10, vi c5.1)] [mc p_m, .data ((c5.2 ++ ([c5.1] : List Int)).flatMap cel3)] [AppendOk ((c5.2.flatMap cel3).map .d) c5.2.length ([c5.1] : List Int).length (c5.2 ++ ([c5.1] : List Int)).length 1 8 (([c5.1] : List Int).flatMap cel3) ((c5.2 ++ ([c5.1] : List Int)).flatMap cel3)] (appendOk cel3_len (need_of hx11)) ?_
     show awp ..
     refine x0 [1, 2, 3, 9, 10] [] [(1, .d (L3 legend)), (2, .d (L3 inks)), (3, .ref 0 0), (9, .sl 1 1 0 (c5.2 ++ ([c5.1] : List Int)).length), (10, vi (w64 (c5.1 + 1)))] [mc p_m, .data ((c5.2 ++ ([c5.1] : List Int)).flatMap cel3)] ?_
     exact gn 2 [1, 2, 3, 9, 10] (hrn6 ((w64 (c5.1 + 1)), (c5.2 ++ ([c5.1] : List Int))) h)
    ·rw [if_neg (ntrue hb10)] at h
     refine awp_skip ?_
     show awp ..
     refine x0 [1, 2, 3, 9, 10] [] [(1, .d (L3 legend)), (2, .d (L3 inks)), (3, .ref 0 0), (9, .sl 1 1 0 c5.2.length), (10, vi (w64 (c5.1 + 1)))] [mc p_m, .data (c5.2.flatMap cel3)] ?_
     exact gn 2 [1, 2, 3, 9, 10] (hrn6 ((w64 (c5.1 + 1)), c5.2) h)
   ·rw [if_neg (ntrue hb7)] at h
    refine awp_exit ?_
    obtain rfl := Option.some.inj h
    exact gs [0, 1] [9] OutQ.norm
  ·intro e T H hq
   cases o4 with
   | inl ro4 =>
    obtain ⟨rfl, rfl, rfl⟩ := hq
    rw [outK_inl] at h
    obtain rfl := Option.some.inj h
    exact gm
   | inr so4 =>
    obtain ⟨rfl, rfl, rfl⟩ := hq
    rw [outK_inr] at h
    show awp ..
    refine g0 [6, 7] [] [(6, .sl 1 1 0 so4.length), (7, vi 0)] [mc p_m, .data (so4.flatMap cel3)] ?_
    obtain rfl := Option.some.inj h
    refine gw 2 [6, 7] [(6, .sl 1 1 0 so4.length), (7, vi 0)] [mc p_m, .data (so4.flatMap cel3)] ?_
    refine awp_freeze 6 1 (so4.flatMap cel3) (.sl 1 1 0 so4.length) (.d (L3 so4)) _ _ (ps := [(so4.flatMap cel3).length = so4.length * 1]) (by kernel_rfl) (by kernel_rfl) (by kernel_rfl) (flatMap_len cel3 1 cel3_len so4) rfl rfl ?_
    refine gw 2 [6, 7] [(6, .d (L3 so4)), (7, vi 0)] [mc p_m, .data (([] : List Int).flatMap cel3)] ?_
    exact awp_ret gm
theorem ct4 {fuel : Nat}  {p_m : S_api_ClMap} {legend : (List Int)} {inks : (List Int)} {res : Bool} (h : F4 fuel p_m legend inks = some res) : PCall Try.prog 4 [(ma p_m), (L3 legend), (L3 inks)] (vb res) := by
 refine PCall.of_awp tt_ok (N := 66) Try.func4 rfl (by kernel_rfl) rfl (Nat.le_of_ble_eq_true rfl) rfl ?_
 unfold F4 at h
 refine g0 [1, 2, 3] [] [(1, .d (L3 legend)), (2, .d (L3 inks)), (3, .ref 0 0)] [mc p_m] ?_
 obtain ⟨x1, hx1, h⟩ := ob h
 refine gr [1, 2, 3, 7, 8, 9] [.no, .no, .call [(ma p_m), (L3 legend)] (.tup [.d (L3 x1.1), vi x1.2.1, vi x1.2.2])] [(1, .d (L3 legend)), (2, .d (L3 inks)), (3, .ref 0 0), (7, .d (L3 x1.1)), (8, vi x1.2.1), (9, vi x1.2.2)] [mc p_m] [PCall Try.prog 31 [(ma p_m), (L3 legend)] (.tup [.d (L3 x1.1), vi x1.2.1, vi x1.2.2])] (ct31 hx1) ?_
 obtain ⟨x2, hx2, h⟩ := ob h
 refine gr [1, 2, 3, 7, 8, 9, 10, 11, 12] [.no, .no, .call [(ma p_m), (L3 legend)] (.tup [.d (L3 x2.1), vi x2.2.1, vi x2.2.2])] [(1, .d (L3 legend)), (2, .d (L3 inks)), (3, .ref 0 0), (7, .d (L3 x1.1)), (8, vi x1.2.1), (9, vi x1.2.2), (10, .d (L3 x2.1)), (11, vi x2.2.1), (12, vi x2.2.2)] [mc p_m] [PCall Try.prog 32 [(ma p_m), (L3 legend)] (.tup [.d (L3 x2.1), vi x2.2.1, vi x2.2.2])] (ct32 hx2) ?_
 refine awp_seq ?_
 obtain ⟨x3, hx3, h⟩ := ob h
 refine gr [1, 2, 3, 40] [.no, .no, .call [(L3 x1.1), (L3 x2.1)] (vb x3)] [(1, .d (L3 legend)), (2, .d (L3 inks)), (3, .ref 0 0), (40, vb (cond (cond (!x3) true (x1.2.1 != x2.2.1)) true (x1.2.2 != x2.2.2)))] [mc p_m] [PCall Try.prog 26 [(L3 x1.1), (L3 x2.1)] (vb x3), ((!(!x3)) = true → (!(!x3)) = true), ((!(!x3)) = true → (!(!x3)) = true), ((!x3) = false → (!(!x3)) = true), ((!(cond (!x3) true (x1.2.1 != x2.2.1))) = true → (!(cond (!x3) true (x1.2.1 != x2.2.1))) = true), ((!(cond (!x3) true (x1.2.1 != x2.2.1))) = true → (!(cond (!x3) true (x1.2.1 != x2.2.1))) = true), ((cond (!x3) true (x1.2.1 != x2.2.1)) = false → (!(cond (!x3) true (x1.2.1 != x2.2.1))) = true)] (And.intro (ct26 hx3) (And.intro (id) (And.intro (id) (And.intro (not_of) (And.intro (id) (And.intro (id) (not_of))))))) ?_
 refine awp_cond (b := (cond (cond (!x3) true (x1.2.1 != x2.2.1)) true (x1.2.2 != x2.2.2))) (by kernel_rfl) (fun hb4 => ?_) (fun hb4 => ?_)
 ·rw [if_pos hb4] at h
  refine g0 [6] [] [(6, vb false)] [mc p_m] ?_
  obtain rfl := Option.some.inj h
  refine gw 1 [6] [(6, vb false)] [mc p_m] ?_
  exact awp_ret gm
 ·rw [if_neg (ntrue hb4)] at h
  refine awp_skip ?_
  show awp ..
  obtain ⟨x5, hx5, h⟩ := ob h
  refine gr [1, 2, 3, 7, 9] [.no, .no, .no, .call [(ma p_m), (L3 legend), (L3 inks)] (.tup [.d (L3 x5.1), vi x5.2])] [(1, .d (L3 legend)), (2, .d (L3 inks)), (3, .ref 0 0), (7, .d (L3 x5.1)), (9, vi x5.2)] [mc p_m] [PCall Try.prog 33 [(ma p_m), (L3 legend), (L3 inks)] (.tup [.d (L3 x5.1), vi x5.2])] (ct33 hx5) ?_
  obtain ⟨x6, hx6, h⟩ := ob h
  refine gr [7, 9, 10, 12] [.no, .no, .no, .call [(ma p_m), (L3 legend), (L3 inks)] (.tup [.d (L3 x6.1), vi x6.2])] [(7, .d (L3 x5.1)), (9, vi x5.2), (10, .d (L3 x6.1)), (12, vi x6.2)] [mc p_m] [PCall Try.prog 34 [(ma p_m), (L3 legend), (L3 inks)] (.tup [.d (L3 x6.1), vi x6.2])] (ct34 hx6) ?_
  obtain ⟨x7, hx7, h⟩ := ob h
  obtain ⟨x8, hx8, h⟩ := ob h
  refine gr [6] [.no, .no, .call [(L3 x5.1), (L3 x6.1)] (vb x7), .no, .no, .no, .no, .no, .no, .call [] (vb x8)] [(6, vb (cond (cond x7 (x5.2 == x6.2) false) x8 false))] [mc p_m] [PCall Try.prog 26 [(L3 x5.1), (L3 x6.1)] (vb x7), (x7 = true → x7 = true), (x7 = true → x7 = true), (x7 = true → x7 = true), ((cond x7 (x5.2 == x6.2) false) = true → PCall Try.prog 30 [] (vb x8)), ((cond x7 (x5.2 == x6.2) false) = true → (cond x7 (x5.2 == x6.2) false) = true)] (And.intro (ct26 hx7) (And.intro (id) (And.intro (id) (And.intro (id) (And.intro ((fun hg => ct30 (optG_of hx8 hg))) (id)))))) ?_
  obtain rfl := Option.some.inj h
  refine gw 1 [6] [(6, vb (cond (cond x7 (x5.2 == x6.2) false) x8 false))] [mc p_m] ?_
  exact awp_ret gm
end Go.Proofs.Ytpkhbbboedoldaa
