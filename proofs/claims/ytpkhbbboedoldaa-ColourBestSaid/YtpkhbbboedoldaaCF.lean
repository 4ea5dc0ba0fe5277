/- That functions of the seat compute this. Printed by a program of mine. -/
import Derived.Test.YtpkhbbboedoldaaS
import Derived.Test.YtpkhbbboedoldaaCQ
import Derived.Test.YtpkhbbboedoldaaCW
import Derived.Test.YtpkhbbboedoldaaDF
namespace Go.Proofs.Ytpkhbbboedoldaa
open Go Go.Sx
set_option maxRecDepth 100000
set_option linter.unusedVariables false
theorem ct93  {p_s : S_api_Span} {border : Int} {res : Bool} (h : F93 p_s border = some res) : PCall Try.prog 93 [(.agg [(di p_s.Lo), (di p_s.Hi)]), (di border)] (vb res) := by
 refine PCall.of_awp tt_ok (N := 15) Try.func93 rfl (by kernel_rfl) rfl (Nat.le_of_ble_eq_true rfl) rfl ?_
 unfold F93 at h
 refine g0 [1, 2] [] [(1, vi border), (2, .ref 0 0)] [.cells [vi p_s.Lo, vi p_s.Hi]] ?_
 refine gr [4] [] [(4, vb (cond (decide (border > p_s.Lo)) (decide (border ≤ p_s.Hi)) false))] [.cells [vi p_s.Lo, vi p_s.Hi]] [((decide (border > p_s.Lo)) = true → (decide (border > p_s.Lo)) = true), ((decide (border > p_s.Lo)) = true → (decide (border > p_s.Lo)) = true), ((decide (border > p_s.Lo)) = true → (decide (border > p_s.Lo)) = true), ((decide (border > p_s.Lo)) = true → (decide (border > p_s.Lo)) = true)] (And.intro (id) (And.intro (id) (And.intro (id) (id)))) ?_
 obtain rfl := Option.some.inj h
 refine gw 1 [4] [(4, vb (cond (decide (border > p_s.Lo)) (decide (border ≤ p_s.Hi)) false))] [.cells [vi p_s.Lo, vi p_s.Hi]] ?_
 exact awp_ret gm
theorem ct89 {fuel : Nat}  {p_m : S_api_ClMap} {before : Int} {border : Int} {res : Int} (h : F89 fuel p_m before border = some res) : PCall Try.prog 89 [(ma p_m), (di before), (di border)] (vi res) := by
 refine PCall.of_awp tt_ok (N := 40) Try.func89 rfl (by kernel_rfl) rfl (Nat.le_of_ble_eq_true rfl) rfl ?_
 unfold F89 at h
 refine g0 [1, 2, 3] [] [(1, vi before), (2, vi border), (3, .ref 0 0)] [mc p_m] ?_
 refine g0 [1, 2, 3, 7] [] [(1, vi before), (2, vi border), (3, .ref 0 0), (7, vi 0)] [mc p_m] ?_
 refine awp_seq (g0 [1, 2, 3, 7, 8] [] [(1, vi before), (2, vi border), (3, .ref 0 0), (7, vi 0), (8, vi 0)] [mc p_m] ?_)
 obtain ⟨o1, ho1, h⟩ := ob h
 refine awp_cut1 (OutQ (fun (ro1 : Int) => [(6, vi ro1)]) (fun (ro1 : Int) => []) (fun (so1 : Int) => [(7, vi so1)]) (fun (so1 : Int) => [mc p_m]) o1) ?_ ?_
 ·clear h
  have h := ho1
  clear ho1
  refine awp_selQ (gw 1 [1, 2, 3, 7, 8] [(1, vi before), (2, vi border), (3, .ref 0 0), (7, vi 0), (8, vi 0)] [mc p_m] ?_)
  refine awp_block (awp_loop (n := fuel) ?_)
  refine awpN_ind (fun n (c2 : Int × Int) => F89L1 p_m before border n c2) o1 (fun (c2 : Int × Int) => [(1, vi before), (2, vi border), (3, .ref 0 0), (7, vi c2.1), (8, vi c2.2)]) (fun (c2 : Int × Int) => [mc p_m]) (fun _ => rfl) ?_ fuel (0, 0) h
  clear h
  intro n3 c2 h hrn3
  change F89L1 p_m before border (n3 + 1) c2 = some o1 at h
  rw [F89L1] at h
  refine awp_seq (g0 [1, 2, 3, 7, 8, 13] [] [(1, vi before), (2, vi border), (3, .ref 0 0), (7, vi c2.1), (8, vi c2.2), (13, vb (decide (c2.2 < (p_m.Heights.length : Int))))] [mc p_m] ?_)
  refine awp_cond (b := (decide (c2.2 < (p_m.Heights.length : Int)))) (by kernel_rfl) (fun hb4 => ?_) (fun hb4 => ?_)
  ·rw [if_pos hb4] at h
   refine awp_skip ?_
   show awp ..
   refine awp_seq (awp_block ?_)
   obtain ⟨x5, hx5, h⟩ := ob h
   obtain ⟨x6, hx6, h⟩ := ob h
   obtain ⟨x7, hx7, h⟩ := ob h
   obtain ⟨x8, hx8, h⟩ := ob h
   refine gr [1, 2, 3, 7, 8, 36] [.no, .no, .no, .cells (cel60 x5), .no, .no, .call [(.agg [(di x5.Lo), (di x5.Hi)]), (di border)] (vb x6), .no, .no, .no, .no, .no, .no, .no, .cells (cel60 x7), .no, .no, .call [(.agg [(di x7.Lo), (di x7.Hi)]), (di before)] (vb x8), .no, .own] [(1, vi before), (2, vi border), (3, .ref 0 0), (7, vi c2.1), (8, vi c2.2), (36, vb (cond x6 (cond (decide (before < 0)) true (!x8)) false))] [mc p_m] [IX60 p_m.Heights c2.2 x5, PCall Try.prog 93 [(.agg [(di x5.Lo), (di x5.Hi)]), (di border)] (vb x6), (x6 = true → x6 = true), (x6 = true → x6 = true), ((x6 && (!(decide (before < 0)))) = true → (x6 && (!(decide (before < 0)))) = true), ((x6 && (!(decide (before < 0)))) = true → (x6 && (!(decide (before < 0)))) = true), ((x6 && (!(decide (before < 0)))) = true → (x6 && (!(decide (before < 0)))) = true), ((x6 && (!(decide (before < 0)))) = true → IX60 p_m.Heights c2.2 x7), ((x6 && (!(decide (before < 0)))) = true → (x6 && (!(decide (before < 0)))) = true), ((x6 && (!(decide (before < 0)))) = true → (x6 && (!(decide (before < 0)))) = true), ((x6 && (!(decide (before < 0)))) = true → (x6 && (!(decide (before < 0)))) = true), ((x6 && (!(decide (before < 0)))) = true → PCall Try.prog 93 [(.agg [(di x7.Lo), (di x7.Hi)]), (di before)] (vb x8)), ((x6 && (!(decide (before < 0)))) = true → (x6 && (!(decide (before < 0)))) = true), (x6 = true → x6 = true), (x6 = true → (decide (before < 0)) = false → (x6 && (!(decide (before < 0)))) = true), (x6 = true → x6 = true)] (And.intro (idxOk cel60_len hx5) (And.intro (ct93 hx6) (And.intro (id) (And.intro (id) (And.intro (id) (And.intro (id) (And.intro (id) (And.intro ((fun hg => idxOk cel60_len (optG_of hx7 hg))) (And.intro (id) (And.intro (id) (And.intro (id) (And.intro ((fun hg => ct93 (optG_of hx8 hg))) (And.intro (id) (And.intro (id) (And.intro ((fun hg h1 => by first | exact hg | exact h1 | (rw [hg, h1]; rfl) | (simp only [hg, h1, Bool.not_true, Bool.not_false, Bool.and_self, Bool.true_and, Bool.and_true]; done) | (simp only [Bool.and_eq_true] at hg; simp only [hg, h1, Bool.not_true, Bool.not_false, Bool.and_self, Bool.true_and, Bool.and_true]; done) | simp_all)) (id)))))))))))))))) ?_
   refine awp_cond (b := (cond x6 (cond (decide (before < 0)) true (!x8)) false)) (by kernel_rfl) (fun hb9 => ?_) (fun hb9 => ?_)
   ·rw [if_pos hb9] at h
    refine x0 [1, 2, 3, 7, 8] [] [(1, vi before), (2, vi border), (3, .ref 0 0), (7, vi (w64 (c2.1 + 1))), (8, vi c2.2)] [mc p_m] ?_
    show awp ..
    refine x0 [1, 2, 3, 7, 8] [] [(1, vi before), (2, vi border), (3, .ref 0 0), (7, vi (w64 (c2.1 + 1))), (8, vi (w64 (c2.2 + 1)))] [mc p_m] ?_
    exact gn 1 [1, 2, 3, 7, 8] (hrn3 ((w64 (c2.1 + 1)), (w64 (c2.2 + 1))) h)
   ·rw [if_neg (ntrue hb9)] at h
    refine awp_skip ?_
    show awp ..
    refine x0 [1, 2, 3, 7, 8] [] [(1, vi before), (2, vi border), (3, .ref 0 0), (7, vi c2.1), (8, vi (w64 (c2.2 + 1)))] [mc p_m] ?_
    exact gn 1 [1, 2, 3, 7, 8] (hrn3 (c2.1, (w64 (c2.2 + 1))) h)
  ·rw [if_neg (ntrue hb4)] at h
   refine awp_exit ?_
   obtain rfl := Option.some.inj h
   exact gs [0] [7] OutQ.norm
 ·intro e T H hq
  cases o1 with
  | inl ro1 =>
   obtain ⟨rfl, rfl, rfl⟩ := hq
   rw [outK_inl] at h
   obtain rfl := Option.some.inj h
   exact gm
  | inr so1 =>
   obtain ⟨rfl, rfl, rfl⟩ := hq
   rw [outK_inr] at h
   show awp ..
   refine g0 [6] [] [(6, vi so1)] [mc p_m] ?_
   obtain rfl := Option.some.inj h
   refine gw 1 [6] [(6, vi so1)] [mc p_m] ?_
   exact awp_ret gm
theorem ct77v1 {fuel : Nat}  {p_m : S_api_ClMap} {at_ : Int} {border : Int} {next : (List S_hachureref09qRest)} {res : S_hachureref09qRest} (h : F77v1 fuel p_m at_ border next = some res) : PCall Try.prog 77 [(ma p_m), (di at_), (di border), (L118 next)] (.d (.agg [(db res.Is), (L3 res.Legend), (di res.Many)])) := by
 refine PCall.of_awp tt_ok (N := 83) Try.func77 rfl (by kernel_rfl) rfl (Nat.le_of_ble_eq_true rfl) rfl ?_
 unfold F77v1 at h
 refine g0 [1, 2, 3, 4, 8] [] [(1, vi at_), (2, vi border), (3, .d (L118 next)), (4, .ref 0 0), (8, .ref 1 0)] [mc p_m, .cells [vb false, .d dnil, vi 0]] ?_
 refine awp_seq (g0 [1, 2, 3, 4, 8, 18] [] [(1, vi at_), (2, vi border), (3, .d (L118 next)), (4, .ref 0 0), (8, .ref 1 0), (18, vb (at_ == (w64 ((p_m.Borders.length : Int) - 1))))] [mc p_m, .cells [vb false, .d dnil, vi 0]] ?_)
 refine awp_cond (b := (at_ == (w64 ((p_m.Borders.length : Int) - 1)))) (by kernel_rfl) (fun hb1 => ?_) (fun hb1 => ?_)
 ·rw [if_pos hb1] at h
  refine gr [8] [.cells [(db true), (L3 ([] : List Int)), (di 0)]] [(8, .ref 1 0)] [mc p_m, .cells [vb true, .d (L3 ([] : List Int)), vi 0]] [LeDs [(db true), dnil, (di 0)] [(db true), (L3 ([] : List Int)), (di 0)]] ((.cons (.rfl) (.cons (.nil (e := 1)) (.cons (.rfl) (.nil))))) ?_
  obtain rfl := Option.some.inj h
  refine gw 2 [8] [(8, .ref 1 0)] [mc p_m, .cells [vb true, .d (L3 ([] : List Int)), vi 0]] ?_
  exact awp_ret gm
 ·rw [if_neg (ntrue hb1)] at h
  refine awp_skip ?_
  show awp ..
  refine g0 [1, 2, 3, 4, 8, 9] [] [(1, vi at_), (2, vi border), (3, .d (L118 next)), (4, .ref 0 0), (8, .ref 1 0), (9, .ref 2 0)] [mc p_m, .cells [vb false, .d dnil, vi 0], .cells [vb false, .d dnil, vi 0]] ?_
  refine awp_seq (g0 [1, 2, 3, 4, 8, 9, 10] [] [(1, vi at_), (2, vi border), (3, .d (L118 next)), (4, .ref 0 0), (8, .ref 1 0), (9, .ref 2 0), (10, vi 0)] [mc p_m, .cells [vb false, .d dnil, vi 0], .cells [vb false, .d dnil, vi 0]] ?_)
  refine awp_laxC 2 1 _ (L3 ([] : List Int)) [vb false, .d dnil, vi 0] [mc p_m, .cells [vb false, .d dnil, vi 0], .cells [vb false, .d (L3 ([] : List Int)), vi 0]] (by kernel_rfl) (by kernel_rfl) (.nil (e := 1)) (by kernel_rfl) ?_
  refine gw 3 [1, 2, 3, 4, 8, 9, 10] [(1, vi at_), (2, vi border), (3, .d (L118 next)), (4, .ref 0 0), (8, .ref 1 0), (9, .ref 2 0), (10, vi 0)] [mc p_m, .cells [vb false, .d dnil, vi 0], .cells [vb false, .d (L3 ([] : List Int)), vi 0]] ?_
  obtain ⟨o3, ho3, h⟩ := ob h
  refine awp_cut1 (OutQ (fun (ro3 : S_hachureref09qRest) => [(8, .ref 0 0)]) (fun (ro3 : S_hachureref09qRest) => [.cells [vb ro3.Is, .d (L3 ro3.Legend), vi ro3.Many]]) (fun (so3 : Bool × (List Int) × Int) => [(8, .ref 1 0), (9, .ref 2 0)]) (fun (so3 : Bool × (List Int) × Int) => [mc p_m, .cells [vb false, .d dnil, vi 0], .cells [vb so3.1, .d (L3 so3.2.1), vi so3.2.2]]) o3) ?_ ?_
  ·clear h
   have h := ho3
   clear ho3
   refine awp_selQ (gw 3 [1, 2, 3, 4, 8, 9, 10] [(1, vi at_), (2, vi border), (3, .d (L118 next)), (4, .ref 0 0), (8, .ref 1 0), (9, .ref 2 0), (10, vi 0)] [mc p_m, .cells [vb false, .d dnil, vi 0], .cells [vb false, .d (L3 ([] : List Int)), vi 0]] ?_)
   refine awp_block (awp_loop (n := fuel) ?_)
   refine awpN_ind (fun n (c4 : Int × Bool × (List Int) × Int) => F77v1L1 fuel p_m at_ border next n c4) o3 (fun (c4 : Int × Bool × (List Int) × Int) => [(1, vi at_), (2, vi border), (3, .d (L118 next)), (4, .ref 0 0), (8, .ref 1 0), (9, .ref 2 0), (10, vi c4.1)]) (fun (c4 : Int × Bool × (List Int) × Int) => [mc p_m, .cells [vb false, .d dnil, vi 0], .cells [vb c4.2.1, .d (L3 c4.2.2.1), vi c4.2.2.2]]) (fun _ => rfl) ?_ fuel (0, false, ([] : List Int), 0) h
   clear h
   intro n5 c4 h hrn5
   change F77v1L1 fuel p_m at_ border next (n5 + 1) c4 = some o3 at h
   rw [F77v1L1] at h
   refine awp_seq (g0 [1, 2, 3, 4, 8, 9, 10, 23] [] [(1, vi at_), (2, vi border), (3, .d (L118 next)), (4, .ref 0 0), (8, .ref 1 0), (9, .ref 2 0), (10, vi c4.1), (23, vb (decide (c4.1 < (next.length : Int))))] [mc p_m, .cells [vb false, .d dnil, vi 0], .cells [vb c4.2.1, .d (L3 c4.2.2.1), vi c4.2.2.2]] ?_)
   refine awp_cond (b := (decide (c4.1 < (next.length : Int)))) (by kernel_rfl) (fun hb6 => ?_) (fun hb6 => ?_)
   ·rw [if_pos hb6] at h
    refine awp_skip ?_
    show awp ..
    refine awp_seq (awp_block ?_)
    obtain ⟨x7, hx7, h⟩ := ob h
    refine gr [1, 2, 3, 4, 8, 9, 10, 11] [.no, .no, .no, .no, .cells (cel60 x7)] [(1, vi at_), (2, vi border), (3, .d (L118 next)), (4, .ref 0 0), (8, .ref 1 0), (9, .ref 2 0), (10, vi c4.1), (11, vi (w64 (x7.Lo + c4.1)))] [mc p_m, .cells [vb false, .d dnil, vi 0], .cells [vb c4.2.1, .d (L3 c4.2.2.1), vi c4.2.2.2]] [IX60 p_m.Borders (w64 (at_ + 1)) x7] (idxOk cel60_len hx7) ?_
    refine awp_seq ?_
    obtain ⟨x8, hx8, h⟩ := ob h
    refine gr [1, 2, 3, 4, 8, 9, 10, 11, 52] [.no, .no, .cells (cel118 x8), .no, .no, .no, .no, .no, .no, .no, .no, .no, .no, .no, .no, .no, .own] [(1, vi at_), (2, vi border), (3, .d (L118 next)), (4, .ref 0 0), (8, .ref 1 0), (9, .ref 2 0), (10, vi c4.1), (11, vi (w64 (x7.Lo + c4.1))), (52, vb (cond (!x8.Is) true (cond (decide (border ≥ 0)) (decide ((w64 (x7.Lo + c4.1)) < (w64 (border + p_m.Step)))) false)))] [mc p_m, .cells [vb false, .d dnil, vi 0], .cells [vb c4.2.1, .d (L3 c4.2.2.1), vi c4.2.2.2]] [IX118 next c4.1 x8, ((!(!x8.Is)) = true → (!(!x8.Is)) = true), ((!(!x8.Is)) = true → (!(!x8.Is)) = true), (((!(!x8.Is)) && (decide (border ≥ 0))) = true → ((!(!x8.Is)) && (decide (border ≥ 0))) = true), (((!(!x8.Is)) && (decide (border ≥ 0))) = true → ((!(!x8.Is)) && (decide (border ≥ 0))) = true), (((!(!x8.Is)) && (decide (border ≥ 0))) = true → ((!(!x8.Is)) && (decide (border ≥ 0))) = true), (((!(!x8.Is)) && (decide (border ≥ 0))) = true → ((!(!x8.Is)) && (decide (border ≥ 0))) = true), (((!(!x8.Is)) && (decide (border ≥ 0))) = true → ((!(!x8.Is)) && (decide (border ≥ 0))) = true), ((!(!x8.Is)) = true → (!(!x8.Is)) = true), ((!(!x8.Is)) = true → (decide (border ≥ 0)) = true → ((!(!x8.Is)) && (decide (border ≥ 0))) = true), ((!x8.Is) = false → (!(!x8.Is)) = true)] (And.intro (idxOk cel118_len hx8) (And.intro (id) (And.intro (id) (And.intro (id) (And.intro (id) (And.intro (id) (And.intro (id) (And.intro (id) (And.intro (id) (And.intro ((fun hg h1 => by first | exact hg | exact h1 | (rw [hg, h1]; rfl) | (simp only [hg, h1, Bool.not_true, Bool.not_false, Bool.and_self, Bool.true_and, Bool.and_true]; done) | (simp only [Bool.and_eq_true] at hg; simp only [hg, h1, Bool.not_true, Bool.not_false, Bool.and_self, Bool.true_and, Bool.and_true]; done) | simp_all)) (not_of))))))))))) ?_
    refine awp_cond (b := (cond (!x8.Is) true (cond (decide (border ≥ 0)) (decide ((w64 (x7.Lo + c4.1)) < (w64 (border + p_m.Step)))) false))) (by kernel_rfl) (fun hb9 => ?_) (fun hb9 => ?_)
    ·rw [if_pos hb9] at h
     refine awp_exit ?_
     show awp ..
     refine x0 [1, 2, 3, 4, 8, 9, 10] [] [(1, vi at_), (2, vi border), (3, .d (L118 next)), (4, .ref 0 0), (8, .ref 1 0), (9, .ref 2 0), (10, vi (w64 (c4.1 + 1)))] [mc p_m, .cells [vb false, .d dnil, vi 0], .cells [vb c4.2.1, .d (L3 c4.2.2.1), vi c4.2.2.2]] ?_
     exact gn 3 [1, 2, 3, 4, 8, 9, 10] (hrn5 ((w64 (c4.1 + 1)), c4.2.1, c4.2.2.1, c4.2.2.2) h)
    ·rw [if_neg (ntrue hb9)] at h
     refine awp_skip ?_
     show awp ..
     obtain ⟨x10, hx10, h⟩ := ob h
     obtain ⟨x11, hx11, h⟩ := ob h
     refine awp_sdraw tt_ok mixed (ks := [1, 2, 3, 4, 8, 9, 10, 11, 12]) (hs := [.no, .no, .cells (cel118 x10), .no, .no, .no, .no, .no, .call [(ma p_m), (di border), (di (w64 (x7.Lo + c4.1)))] (vi x11)]) 9 [1, 2, 3, 4, 8, 9, 10, 11, 12, 57, 61, 62] [(1, vi at_), (2, vi border), (3, .d (L118 next)), (4, .ref 0 0), (8, .ref 1 0), (9, .ref 2 0), (10, vi c4.1), (11, vi (w64 (x7.Lo + c4.1))), (12, vi (w64 (x10.Many + x11)))] [mc p_m, .cells [vb false, .d dnil, vi 0], .cells [vb c4.2.1, .d (L3 c4.2.2.1), vi c4.2.2.2]] [IX118 next c4.1 x10, PCall Try.prog 89 [(ma p_m), (di border), (di (w64 (x7.Lo + c4.1)))] (vi x11)] (by kernel_rfl) (And.intro (idxOk cel118_len hx10) (ct89 hx11)) ?_
     refine gr [1, 2, 3, 4, 8, 9, 10, 11, 12, 71] [] [(1, vi at_), (2, vi border), (3, .d (L118 next)), (4, .ref 0 0), (8, .ref 1 0), (9, .ref 2 0), (10, vi c4.1), (11, vi (w64 (x7.Lo + c4.1))), (12, vi (w64 (x10.Many + x11))), (71, vb (cond (!c4.2.1) true (decide ((w64 (x10.Many + x11)) < c4.2.2.2))))] [mc p_m, .cells [vb false, .d dnil, vi 0], .cells [vb c4.2.1, .d (L3 c4.2.2.1), vi c4.2.2.2]] [((!(!c4.2.1)) = true → (!(!c4.2.1)) = true), ((!(!c4.2.1)) = true → (!(!c4.2.1)) = true), ((!(!c4.2.1)) = true → (!(!c4.2.1)) = true), ((!c4.2.1) = false → (!(!c4.2.1)) = true)] (And.intro (id) (And.intro (id) (And.intro (id) (not_of)))) ?_
     refine awp_cond (b := (cond (!c4.2.1) true (decide ((w64 (x10.Many + x11)) < c4.2.2.2)))) (by kernel_rfl) (fun hb12 => ?_) (fun hb12 => ?_)
     ·rw [if_pos hb12] at h
      obtain ⟨x13, hx13, h⟩ := ob h
      obtain ⟨x14, hx14, h⟩ := ob h
      refine xr [1, 2, 3, 4, 8, 9, 10] [.no, .cells [], .no, .no, .cells (cel118 x13), .no, .no, .listT (([(w64 (x7.Lo + c4.1))] : List Int) ++ x13.Legend).length ((([(w64 (x7.Lo + c4.1))] : List Int) ++ x13.Legend).flatMap cel3)] [(1, vi at_), (2, vi border), (3, .d (L118 next)), (4, .ref 0 0), (8, .ref 1 0), (9, .ref 2 0), (10, vi c4.1)] [mc p_m, .cells [vb false, .d dnil, vi 0], .cells [vb true, .d (L3 (([(w64 (x7.Lo + c4.1))] : List Int) ++ x13.Legend)), vi (w64 (x10.Many + x11))]] [IX118 next c4.1 x13, AppendOk ((([(w64 (x7.Lo + c4.1))] : List Int).flatMap cel3).map .d) ([(w64 (x7.Lo + c4.1))] : List Int).length x13.Legend.length (([(w64 (x7.Lo + c4.1))] : List Int) ++ x13.Legend).length 1 8 (x13.Legend.flatMap cel3) ((([(w64 (x7.Lo + c4.1))] : List Int) ++ x13.Legend).flatMap cel3)] (And.intro (idxOk cel118_len hx13) (appendOk cel3_len (need_of hx14))) ?_
      show awp ..
      refine x0 [1, 2, 3, 4, 8, 9, 10] [] [(1, vi at_), (2, vi border), (3, .d (L118 next)), (4, .ref 0 0), (8, .ref 1 0), (9, .ref 2 0), (10, vi (w64 (c4.1 + 1)))] [mc p_m, .cells [vb false, .d dnil, vi 0], .cells [vb true, .d (L3 (([(w64 (x7.Lo + c4.1))] : List Int) ++ x13.Legend)), vi (w64 (x10.Many + x11))]] ?_
      exact gn 3 [1, 2, 3, 4, 8, 9, 10] (hrn5 ((w64 (c4.1 + 1)), true, (([(w64 (x7.Lo + c4.1))] : List Int) ++ x13.Legend), (w64 (x10.Many + x11))) h)
     ·rw [if_neg (ntrue hb12)] at h
      refine awp_skip ?_
      show awp ..
      refine x0 [1, 2, 3, 4, 8, 9, 10] [] [(1, vi at_), (2, vi border), (3, .d (L118 next)), (4, .ref 0 0), (8, .ref 1 0), (9, .ref 2 0), (10, vi (w64 (c4.1 + 1)))] [mc p_m, .cells [vb false, .d dnil, vi 0], .cells [vb c4.2.1, .d (L3 c4.2.2.1), vi c4.2.2.2]] ?_
      exact gn 3 [1, 2, 3, 4, 8, 9, 10] (hrn5 ((w64 (c4.1 + 1)), c4.2.1, c4.2.2.1, c4.2.2.2) h)
   ·rw [if_neg (ntrue hb6)] at h
    refine awp_exit ?_
    obtain rfl := Option.some.inj h
    exact gs [0, 1, 2] [8, 9] OutQ.norm
  ·intro e T H hq
   cases o3 with
   | inl ro3 =>
    obtain ⟨rfl, rfl, rfl⟩ := hq
    rw [outK_inl] at h
    obtain rfl := Option.some.inj h
    exact gm
   | inr so3 =>
    obtain ⟨rfl, rfl, rfl⟩ := hq
    rw [outK_inr] at h
    show awp ..
    refine g0 [8] [] [(8, .ref 1 0)] [mc p_m, .cells [vb so3.1, .d (L3 so3.2.1), vi so3.2.2], .cells [vb so3.1, .d (L3 so3.2.1), vi so3.2.2]] ?_
    obtain rfl := Option.some.inj h
    refine gw 3 [8] [(8, .ref 1 0)] [mc p_m, .cells [vb so3.1, .d (L3 so3.2.1), vi so3.2.2], .cells [vb so3.1, .d (L3 so3.2.1), vi so3.2.2]] ?_
    exact awp_ret gm
theorem ct36 {fuel : Nat}  {p_m : S_api_ClMap} {res : (List Int) × Int × Int} (h : F36 fuel p_m = some res) : PCall Try.prog 36 [(ma p_m)] (.tup [.d (L3 res.1), vi res.2.1, vi res.2.2]) := by
 refine PCall.of_awp tt_ok (N := 65) Try.func36 rfl (by kernel_rfl) rfl (Nat.le_of_ble_eq_true rfl) rfl ?_
 unfold F36 at h
 refine g0 [1] [] [(1, .ref 0 0)] [mc p_m] ?_
 obtain ⟨x1, hx1, h⟩ := ob h
 refine gr [1, 7] [.no, .call [(ma p_m)] (.tup [vi x1.1, vi x1.2.1, vi x1.2.2])] [(1, .ref 0 0), (7, vi x1.2.2)] [mc p_m] [PCall Try.prog 18 [(ma p_m)] (.tup [vi x1.1, vi x1.2.1, vi x1.2.2])] (ct18 hx1) ?_
 refine awp_seq (g0 [1, 7, 20] [] [(1, .ref 0 0), (7, vi x1.2.2), (20, vb (x1.2.2 != 0))] [mc p_m] ?_)
 refine awp_cond (b := (x1.2.2 != 0)) (by kernel_rfl) (fun hb2 => ?_) (fun hb2 => ?_)
 ·rw [if_pos hb2] at h
  refine g0 [2, 3, 4] [] [(2, .d dnil), (3, vi 0), (4, vi x1.2.2)] [mc p_m] ?_
  obtain rfl := Option.some.inj h
  refine gw 1 [2, 3, 4] [(2, .d dnil), (3, vi 0), (4, vi x1.2.2)] [mc p_m] ?_
  refine awp_laxT 2 _ (L3 ([] : List Int)) _ (by kernel_rfl) (.nil (e := 1)) rfl ?_
  refine gw 1 [2, 3, 4] [(2, .d (L3 ([] : List Int))), (3, vi 0), (4, vi x1.2.2)] [mc p_m] ?_
  exact awp_ret gm
 ·rw [if_neg (ntrue hb2)] at h
  refine awp_skip ?_
  show awp ..
  refine g0 [1, 8] [] [(1, .ref 0 0), (8, .d dnil)] [mc p_m] ?_
  refine awp_seq (g0 [1, 8, 9] [] [(1, .ref 0 0), (8, .d dnil), (9, vi (w64 ((p_m.Borders.length : Int) - 1)))] [mc p_m] ?_)
  refine awp_laxT 8 _ (L118 ([] : List S_hachureref09qRest)) [(8, .d (L118 ([] : List S_hachureref09qRest))), (1, .ref 0 0), (9, vi (w64 ((p_m.Borders.length : Int) - 1)))] (by kernel_rfl) (.nil (e := 3)) (by kernel_rfl) ?_
  refine gw 1 [1, 8, 9] [(1, .ref 0 0), (8, .d (L118 ([] : List S_hachureref09qRest))), (9, vi (w64 ((p_m.Borders.length : Int) - 1)))] [mc p_m] ?_
  obtain ⟨o4, ho4, h⟩ := ob h
  refine awp_cut1 (OutQ (fun (ro4 : (List Int) × Int × Int) => [(2, .d (L3 ro4.1)), (3, vi ro4.2.1), (4, vi ro4.2.2)]) (fun (ro4 : (List Int) × Int × Int) => []) (fun (so4 : (List S_hachureref09qRest)) => [(1, .ref 0 0), (8, .d (L118 so4))]) (fun (so4 : (List S_hachureref09qRest)) => [mc p_m]) o4) ?_ ?_
  ·clear h
   have h := ho4
   clear ho4
   refine awp_selQ (gw 1 [1, 8, 9] [(1, .ref 0 0), (8, .d (L118 ([] : List S_hachureref09qRest))), (9, vi (w64 ((p_m.Borders.length : Int) - 1)))] [mc p_m] ?_)
   refine awp_block (awp_loop (n := fuel) ?_)
   refine awpN_ind (fun n (c5 : (List S_hachureref09qRest) × Int) => F36L1 fuel p_m n c5) o4 (fun (c5 : (List S_hachureref09qRest) × Int) => [(1, .ref 0 0), (8, .d (L118 c5.1)), (9, vi c5.2)]) (fun (c5 : (List S_hachureref09qRest) × Int) => [mc p_m]) (fun _ => rfl) ?_ fuel (([] : List S_hachureref09qRest), (w64 ((p_m.Borders.length : Int) - 1))) h
   clear h
   intro n6 c5 h hrn6
   change F36L1 fuel p_m (n6 + 1) c5 = some o4 at h
   rw [F36L1] at h
   refine awp_seq (g0 [1, 8, 9, 27] [] [(1, .ref 0 0), (8, .d (L118 c5.1)), (9, vi c5.2), (27, vb (decide (c5.2 ≥ 0)))] [mc p_m] ?_)
   refine awp_cond (b := (decide (c5.2 ≥ 0))) (by kernel_rfl) (fun hb7 => ?_) (fun hb7 => ?_)
   ·rw [if_pos hb7] at h
    refine awp_skip ?_
    show awp ..
    refine awp_seq (awp_block ?_)
    refine g0 [1, 8, 9, 10] [] [(1, .ref 0 0), (8, .d (L118 c5.1)), (9, vi c5.2), (10, .d dnil)] [mc p_m] ?_
    refine awp_seq ?_
    obtain ⟨x8, hx8, h⟩ := ob h
    refine gr [1, 8, 9, 10, 11] [.no, .no, .no, .cells (cel60 x8)] [(1, .ref 0 0), (8, .d (L118 c5.1)), (9, vi c5.2), (10, .d dnil), (11, vi x8.Lo)] [mc p_m] [IX60 p_m.Borders c5.2 x8] (idxOk cel60_len hx8) ?_
    refine awp_nil 10 3 (by kernel_rfl) ?_
    refine awp_eq (T' := [(10, .sl 3 1 0 ([] : List S_hachureref09qRest).length), (1, .ref 0 0), (8, .d (L118 c5.1)), (9, vi c5.2), (11, vi x8.Lo)]) (H' := [mc p_m, .data (([] : List S_hachureref09qRest).flatMap cel118)]) (by kernel_rfl) (by kernel_rfl) ?_
    refine gw 2 [1, 8, 9, 10, 11] [(1, .ref 0 0), (8, .d (L118 c5.1)), (9, vi c5.2), (10, .sl 3 1 0 ([] : List S_hachureref09qRest).length), (11, vi x8.Lo)] [mc p_m, .data (([] : List S_hachureref09qRest).flatMap cel118)] ?_
    obtain ⟨o10, ho10, h⟩ := ob h
    refine awp_cut1 (OutQ (fun (ro10 : (List Int) × Int × Int) => [(2, .d (L3 ro10.1)), (3, vi ro10.2.1), (4, vi ro10.2.2)]) (fun (ro10 : (List Int) × Int × Int) => []) (fun (so10 : (List S_hachureref09qRest)) => [(1, .ref 0 0), (9, vi c5.2), (10, .sl 3 1 0 so10.length)]) (fun (so10 : (List S_hachureref09qRest)) => [mc p_m, .data (so10.flatMap cel118)]) o10) ?_ ?_
    ·clear h
     have h := ho10
     clear ho10
     refine awp_selQ (gw 2 [1, 8, 9, 10, 11] [(1, .ref 0 0), (8, .d (L118 c5.1)), (9, vi c5.2), (10, .sl 3 1 0 ([] : List S_hachureref09qRest).length), (11, vi x8.Lo)] [mc p_m, .data (([] : List S_hachureref09qRest).flatMap cel118)] ?_)
     refine awp_block (awp_loop (n := fuel) ?_)
     refine awpN_ind (fun n (c11 : Int × (List S_hachureref09qRest)) => F36L2 fuel p_m c5 n c11) o10 (fun (c11 : Int × (List S_hachureref09qRest)) => [(1, .ref 0 0), (8, .d (L118 c5.1)), (9, vi c5.2), (10, .sl 3 1 0 c11.2.length), (11, vi c11.1)]) (fun (c11 : Int × (List S_hachureref09qRest)) => [mc p_m, .data (c11.2.flatMap cel118)]) (fun _ => rfl) ?_ fuel (x8.Lo, ([] : List S_hachureref09qRest)) h
     clear h
     intro n12 c11 h hrn12
     change F36L2 fuel p_m c5 (n12 + 1) c11 = some o10 at h
     rw [F36L2] at h
     refine awp_seq ?_
     obtain ⟨x13, hx13, h⟩ := ob h
     refine gr [1, 8, 9, 10, 11, 43] [.no, .no, .no, .no, .cells (cel60 x13)] [(1, .ref 0 0), (8, .d (L118 c5.1)), (9, vi c5.2), (10, .sl 3 1 0 c11.2.length), (11, vi c11.1), (43, vb (decide (c11.1 ≤ x13.Hi)))] [mc p_m, .data (c11.2.flatMap cel118)] [IX60 p_m.Borders c5.2 x13] (idxOk cel60_len hx13) ?_
     refine awp_cond (b := (decide (c11.1 ≤ x13.Hi))) (by kernel_rfl) (fun hb14 => ?_) (fun hb14 => ?_)
     ·rw [if_pos hb14] at h
      refine awp_skip ?_
      show awp ..
      refine awp_seq (awp_block ?_)
      obtain ⟨x15, hx15, h⟩ := ob h
      obtain ⟨x16, hx16, h⟩ := ob h
      refine xr [1, 8, 9, 10, 11] [.no, .no, .no, .no, .no, .call [(ma p_m), (di c5.2), (di c11.1), (L118 c5.1)] (.d (.agg [(db x15.Is), (L3 x15.Legend), (di x15.Many)])), .no, .list (c11.2 ++ ([(⟨x15.Is, x15.Legend, x15.Many⟩ : S_hachureref09qRest)] : List S_hachureref09qRest)).length ((c11.2 ++ ([(⟨x15.Is, x15.Legend, x15.Many⟩ : S_hachureref09qRest)] : List S_hachureref09qRest)).flatMap cel118)] [(1, .ref 0 0), (8, .d (L118 c5.1)), (9, vi c5.2), (10, .sl 3 1 0 (c11.2 ++ ([(⟨x15.Is, x15.Legend, x15.Many⟩ : S_hachureref09qRest)] : List S_hachureref09qRest)).length), (11, vi c11.1)] [mc p_m, .data ((c11.2 ++ ([(⟨x15.Is, x15.Legend, x15.Many⟩ : S_hachureref09qRest)] : List S_hachureref09qRest)).flatMap cel118)] [PCall Try.prog 77 [(ma p_m), (di c5.2), (di c11.1), (L118 c5.1)] (.d (.agg [(db x15.Is), (L3 x15.Legend), (di x15.Many)])), AppendOk ((c11.2.flatMap cel118).map .d) c11.2.length ([(⟨x15.Is, x15.Legend, x15.Many⟩ : S_hachureref09qRest)] : List S_hachureref09qRest).length (c11.2 ++ ([(⟨x15.Is, x15.Legend, x15.Many⟩ : S_hachureref09qRest)] : List S_hachureref09qRest)).length 3 40 (([(⟨x15.Is, x15.Legend, x15.Many⟩ : S_hachureref09qRest)] : List S_hachureref09qRest).flatMap cel118) ((c11.2 ++ ([(⟨x15.Is, x15.Legend, x15.Many⟩ : S_hachureref09qRest)] : List S_hachureref09qRest)).flatMap cel118)] (And.intro (ct77v1 hx15) (appendOk cel118_len (need_of hx16))) ?_
      show awp ..
      refine x0 [1, 8, 9, 10, 11] [] [(1, .ref 0 0), (8, .d (L118 c5.1)), (9, vi c5.2), (10, .sl 3 1 0 (c11.2 ++ ([(⟨x15.Is, x15.Legend, x15.Many⟩ : S_hachureref09qRest)] : List S_hachureref09qRest)).length), (11, vi (w64 (c11.1 + 1)))] [mc p_m, .data ((c11.2 ++ ([(⟨x15.Is, x15.Legend, x15.Many⟩ : S_hachureref09qRest)] : List S_hachureref09qRest)).flatMap cel118)] ?_
      exact gn 2 [1, 8, 9, 10, 11] (hrn12 ((w64 (c11.1 + 1)), (c11.2 ++ ([(⟨x15.Is, x15.Legend, x15.Many⟩ : S_hachureref09qRest)] : List S_hachureref09qRest))) h)
     ·rw [if_neg (ntrue hb14)] at h
      refine awp_exit ?_
      obtain rfl := Option.some.inj h
      exact gs [0, 1] [1, 9, 10] OutQ.norm
    ·intro e T H hq
     cases o10 with
     | inl ro10 =>
      obtain ⟨rfl, rfl, rfl⟩ := hq
      rw [outK_inl] at h
      obtain rfl := Option.some.inj h
      exact gs [] [2, 3, 4] OutQ.ret
     | inr so10 =>
      obtain ⟨rfl, rfl, rfl⟩ := hq
      rw [outK_inr] at h
      show awp ..
      refine x0 [1, 8, 9] [] [(1, .ref 0 0), (8, .sl 3 1 0 so10.length), (9, vi c5.2)] [mc p_m, .data (so10.flatMap cel118)] ?_
      refine awp_freeze 8 1 (so10.flatMap cel118) (.sl 3 1 0 so10.length) (.d (L118 so10)) _ _ (ps := [(so10.flatMap cel118).length = so10.length * 3]) (by kernel_rfl) (by kernel_rfl) (by kernel_rfl) (flatMap_len cel118 3 cel118_len so10) rfl rfl ?_
      refine gw 2 [1, 8, 9] [(1, .ref 0 0), (8, .d (L118 so10)), (9, vi c5.2)] [mc p_m, .data (([] : List S_hachureref09qRest).flatMap cel118)] ?_
      show awp ..
      refine x0 [1, 8, 9] [] [(1, .ref 0 0), (8, .d (L118 so10)), (9, vi (w64 (c5.2 - 1)))] [mc p_m, .data (([] : List S_hachureref09qRest).flatMap cel118)] ?_
      exact gn 1 [1, 8, 9] (hrn6 (so10, (w64 (c5.2 - 1))) h)
   ·rw [if_neg (ntrue hb7)] at h
    refine awp_exit ?_
    obtain rfl := Option.some.inj h
    exact gs [0] [1, 8] OutQ.norm
  ·intro e T H hq
   cases o4 with
   | inl ro4 =>
    obtain ⟨rfl, rfl, rfl⟩ := hq
    rw [outK_inl] at h
    obtain rfl := Option.some.inj h
    exact gm
   | inr so4 =>
    obtain ⟨rfl, rfl, rfl⟩ := hq
    rw [outK_inr] at h
    show awp ..
    obtain ⟨x17, hx17, h⟩ := ob h
    refine gr [12] [.no, .no, .call [(ma p_m), (di (-1)), (di (-1)), (L118 so4)] (.d (.agg [(db x17.Is), (L3 x17.Legend), (di x17.Many)]))] [(12, .ref 1 0)] [mc p_m, .cells [vb x17.Is, .d (L3 x17.Legend), vi x17.Many]] [PCall Try.prog 77 [(ma p_m), (di (-1)), (di (-1)), (L118 so4)] (.d (.agg [(db x17.Is), (L3 x17.Legend), (di x17.Many)]))] (ct77v1 hx17) ?_
    refine awp_seq (g0 [12, 60] [] [(12, .ref 1 0), (60, vb (!x17.Is))] [mc p_m, .cells [vb x17.Is, .d (L3 x17.Legend), vi x17.Many]] ?_)
    refine awp_cond (b := (!x17.Is)) (by kernel_rfl) (fun hb18 => ?_) (fun hb18 => ?_)
    ·rw [if_pos hb18] at h
     refine g0 [2, 3, 4] [] [(2, .d dnil), (3, vi 0), (4, vi 9)] [mc p_m, .cells [vb x17.Is, .d (L3 x17.Legend), vi x17.Many]] ?_
     obtain rfl := Option.some.inj h
     refine gw 2 [2, 3, 4] [(2, .d dnil), (3, vi 0), (4, vi 9)] [mc p_m, .cells [vb x17.Is, .d (L3 x17.Legend), vi x17.Many]] ?_
     refine awp_laxT 2 _ (L3 ([] : List Int)) _ (by kernel_rfl) (.nil (e := 1)) rfl ?_
     refine gw 2 [2, 3, 4] [(2, .d (L3 ([] : List Int))), (3, vi 0), (4, vi 9)] [mc p_m, .cells [vb x17.Is, .d (L3 x17.Legend), vi x17.Many]] ?_
     exact awp_ret gm
    ·rw [if_neg (ntrue hb18)] at h
     refine awp_skip ?_
     show awp ..
     refine awp_sdraw tt_ok mixed (ks := [2, 3, 4]) (hs := []) 5 [2, 3, 4, 64] [(2, .d (L3 x17.Legend)), (3, vi x17.Many), (4, vi 0)] [mc p_m, .cells [vb x17.Is, .d (L3 x17.Legend), vi x17.Many]] [] (by kernel_rfl) trivial ?_
     obtain rfl := Option.some.inj h
     refine gw 2 [2, 3, 4] [(2, .d (L3 x17.Legend)), (3, vi x17.Many), (4, vi 0)] [mc p_m, .cells [vb x17.Is, .d (L3 x17.Legend), vi x17.Many]] ?_
     exact awp_ret gm
theorem ct5 {fuel : Nat}  {p_m : S_api_ClMap} {res : Bool} (h : F5 fuel p_m = some res) : PCall Try.prog 5 [(ma p_m)] (vb res) := by
 refine PCall.of_awp tt_ok (N := 37) Try.func5 rfl (by kernel_rfl) rfl (Nat.le_of_ble_eq_true rfl) rfl ?_
 unfold F5 at h
 refine g0 [1] [] [(1, .ref 0 0)] [mc p_m] ?_
 obtain ⟨x1, hx1, h⟩ := ob h
 refine gr [1, 3, 4, 5] [.no, .call [(ma p_m)] (.tup [.d (L3 x1.1), vi x1.2.1, vi x1.2.2])] [(1, .ref 0 0), (3, .d (L3 x1.1)), (4, vi x1.2.1), (5, vi x1.2.2)] [mc p_m] [PCall Try.prog 35 [(ma p_m)] (.tup [.d (L3 x1.1), vi x1.2.1, vi x1.2.2])] (ct35 hx1) ?_
 obtain ⟨x2, hx2, h⟩ := ob h
 refine gr [3, 4, 5, 6, 7, 8] [.no, .call [(ma p_m)] (.tup [.d (L3 x2.1), vi x2.2.1, vi x2.2.2])] [(3, .d (L3 x1.1)), (4, vi x1.2.1), (5, vi x1.2.2), (6, .d (L3 x2.1)), (7, vi x2.2.1), (8, vi x2.2.2)] [mc p_m] [PCall Try.prog 36 [(ma p_m)] (.tup [.d (L3 x2.1), vi x2.2.1, vi x2.2.2])] (ct36 hx2) ?_
 obtain ⟨x3, hx3, h⟩ := ob h
 obtain ⟨x4, hx4, h⟩ := ob h
 refine gr [2] [.no, .no, .call [(L3 x1.1), (L3 x2.1)] (vb x3), .no, .no, .no, .no, .no, .no, .no, .no, .no, .no, .no, .call [] (vb x4)] [(2, vb (cond (cond (cond x3 (x1.2.1 == x2.2.1) false) (x1.2.2 == x2.2.2) false) x4 false))] [mc p_m] [PCall Try.prog 26 [(L3 x1.1), (L3 x2.1)] (vb x3), (x3 = true → x3 = true), (x3 = true → x3 = true), (x3 = true → x3 = true), ((cond x3 (x1.2.1 == x2.2.1) false) = true → (cond x3 (x1.2.1 == x2.2.1) false) = true), ((cond x3 (x1.2.1 == x2.2.1) false) = true → (cond x3 (x1.2.1 == x2.2.1) false) = true), ((cond x3 (x1.2.1 == x2.2.1) false) = true → (cond x3 (x1.2.1 == x2.2.1) false) = true), ((cond (cond x3 (x1.2.1 == x2.2.1) false) (x1.2.2 == x2.2.2) false) = true → PCall Try.prog 30 [] (vb x4)), ((cond (cond x3 (x1.2.1 == x2.2.1) false) (x1.2.2 == x2.2.2) false) = true → (cond (cond x3 (x1.2.1 == x2.2.1) false) (x1.2.2 == x2.2.2) false) = true)] (And.intro (ct26 hx3) (And.intro (id) (And.intro (id) (And.intro (id) (And.intro (id) (And.intro (id) (And.intro (id) (And.intro ((fun hg => ct30 (optG_of hx4 hg))) (id))))))))) ?_
 obtain rfl := Option.some.inj h
 refine gw 1 [2] [(2, vb (cond (cond (cond x3 (x1.2.1 == x2.2.1) false) (x1.2.2 == x2.2.2) false) x4 false))] [mc p_m] ?_
 exact awp_ret gm
end Go.Proofs.Ytpkhbbboedoldaa
