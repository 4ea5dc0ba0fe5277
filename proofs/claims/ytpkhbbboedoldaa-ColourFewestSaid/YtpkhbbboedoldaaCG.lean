/- That functions of the seat compute this. Printed by a program of mine. -/
import Derived.Test.YtpkhbbboedoldaaS
import Derived.Test.YtpkhbbboedoldaaCM
import Derived.Test.YtpkhbbboedoldaaCP
import Derived.Test.YtpkhbbboedoldaaCR
import Derived.Test.YtpkhbbboedoldaaCT
import Derived.Test.YtpkhbbboedoldaaCW
import Derived.Test.YtpkhbbboedoldaaDG
namespace Go.Proofs.Ytpkhbbboedoldaa
open Go Go.Sx
set_option maxRecDepth 100000
set_option linter.unusedVariables false
theorem ct50 {fuel : Nat}  {p_m : S_api_ClMap} {p_x : (List Int)} {res : (List Int)} (h : F50 fuel p_m p_x = some res) : PCall Try.prog 50 [(ma p_m), (L65 p_x)] (.d (L3 res)) := by
 refine PCall.of_awp tt_ok (N := 24) Try.func50 rfl (by kernel_rfl) rfl (Nat.le_of_ble_eq_true rfl) rfl ?_
 unfold F50 at h
 refine g0 [1, 2] [] [(1, .d (L65 p_x)), (2, .ref 0 0)] [mc p_m] ?_
 refine g0 [1, 2, 5] [] [(1, .d (L65 p_x)), (2, .ref 0 0), (5, .d dnil)] [mc p_m] ?_
 refine awp_seq (g0 [1, 2, 5, 6] [] [(1, .d (L65 p_x)), (2, .ref 0 0), (5, .d dnil), (6, vi 0)] [mc p_m] ?_)
 refine awp_nil 5 1 (by kernel_rfl) ?_
 refine awp_eq (T' := [(5, .sl 1 1 0 ([] : List Int).length), (1, .d (L65 p_x)), (2, .ref 0 0), (6, vi 0)]) (H' := [mc p_m, .data (([] : List Int).flatMap cel3)]) (by kernel_rfl) (by kernel_rfl) ?_
 refine gw 2 [1, 2, 5, 6] [(1, .d (L65 p_x)), (2, .ref 0 0), (5, .sl 1 1 0 ([] : List Int).length), (6, vi 0)] [mc p_m, .data (([] : List Int).flatMap cel3)] ?_
 obtain ⟨o2, ho2, h⟩ := ob h
 refine awp_cut1 (OutQ (fun (ro2 : (List Int)) => [(4, .d (L3 ro2))]) (fun (ro2 : (List Int)) => []) (fun (so2 : (List Int)) => [(5, .sl 1 1 0 so2.length)]) (fun (so2 : (List Int)) => [mc p_m, .data (so2.flatMap cel3)]) o2) ?_ ?_
 ·clear h
  have h := ho2
  clear ho2
  refine awp_selQ (gw 2 [1, 2, 5, 6] [(1, .d (L65 p_x)), (2, .ref 0 0), (5, .sl 1 1 0 ([] : List Int).length), (6, vi 0)] [mc p_m, .data (([] : List Int).flatMap cel3)] ?_)
  refine awp_block (awp_loop (n := fuel) ?_)
  refine awpN_ind (fun n (c3 : Int × (List Int)) => F50L1 p_m p_x n c3) o2 (fun (c3 : Int × (List Int)) => [(1, .d (L65 p_x)), (2, .ref 0 0), (5, .sl 1 1 0 c3.2.length), (6, vi c3.1)]) (fun (c3 : Int × (List Int)) => [mc p_m, .data (c3.2.flatMap cel3)]) (fun _ => rfl) ?_ fuel (0, ([] : List Int)) h
  clear h
  intro n4 c3 h hrn4
  change F50L1 p_m p_x (n4 + 1) c3 = some o2 at h
  rw [F50L1] at h
  refine awp_seq (g0 [1, 2, 5, 6, 11] [] [(1, .d (L65 p_x)), (2, .ref 0 0), (5, .sl 1 1 0 c3.2.length), (6, vi c3.1), (11, vb (decide (c3.1 ≤ (p_m.Borders.length : Int))))] [mc p_m, .data (c3.2.flatMap cel3)] ?_)
  refine awp_cond (b := (decide (c3.1 ≤ (p_m.Borders.length : Int)))) (by kernel_rfl) (fun hb5 => ?_) (fun hb5 => ?_)
  ·rw [if_pos hb5] at h
   refine awp_skip ?_
   show awp ..
   refine awp_seq (awp_block ?_)
   obtain ⟨x6, hx6, h⟩ := ob h
   obtain ⟨x7, hx7, h⟩ := ob h
   obtain ⟨x8, hx8, h⟩ := ob h
   refine awp_draw (T' := [(1, .d (L65 p_x)), (2, .ref 0 0), (5, .sl 1 1 0 (c3.2 ++ ([(x6.tmod p_m.Inks)] : List Int)).length), (6, vi c3.1)]) (H' := [mc p_m, .data ((c3.2 ++ ([(x6.tmod p_m.Inks)] : List Int)).flatMap cel3)]) (ps := [PCall Try.prog 44 [(L65 p_x), (di c3.1)] (vi x6), (p_m.Inks ≠ 0), AppendOk ((c3.2.flatMap cel3).map .d) c3.2.length ([(x6.tmod p_m.Inks)] : List Int).length (c3.2 ++ ([(x6.tmod p_m.Inks)] : List Int)).length 1 8 (([(x6.tmod p_m.Inks)] : List Int).flatMap cel3) ((c3.2 ++ ([(x6.tmod p_m.Inks)] : List Int)).flatMap cel3)]) tt_ok mixed (ks := [1, 2, 5, 6]) (hs := [.no, .no, .no, .call [(L65 p_x), (di c3.1)] (vi x6), .no, .no, .no, .no, .list (c3.2 ++ ([(x6.tmod p_m.Inks)] : List Int)).length ((c3.2 ++ ([(x6.tmod p_m.Inks)] : List Int)).flatMap cel3)]) (m := 8) (mid := [1, 2, 5, 6, 14, 21, 22]) (by kernel_rfl) (And.intro (ct44 hx6) (And.intro ((need_of hx7 : p_m.Inks ≠ 0)) (appendOk cel3_len (need_of hx8)))) ?_
   show awp ..
   refine x0 [1, 2, 5, 6] [] [(1, .d (L65 p_x)), (2, .ref 0 0), (5, .sl 1 1 0 (c3.2 ++ ([(x6.tmod p_m.Inks)] : List Int)).length), (6, vi (w64 (c3.1 + 1)))] [mc p_m, .data ((c3.2 ++ ([(x6.tmod p_m.Inks)] : List Int)).flatMap cel3)] ?_
   exact gn 2 [1, 2, 5, 6] (hrn4 ((w64 (c3.1 + 1)), (c3.2 ++ ([(x6.tmod p_m.Inks)] : List Int))) h)
  ·rw [if_neg (ntrue hb5)] at h
   refine awp_exit ?_
   obtain rfl := Option.some.inj h
   exact gs [0, 1] [5] OutQ.norm
 ·intro e T H hq
  cases o2 with
  | inl ro2 =>
   obtain ⟨rfl, rfl, rfl⟩ := hq
   rw [outK_inl] at h
   obtain rfl := Option.some.inj h
   exact gm
  | inr so2 =>
   obtain ⟨rfl, rfl, rfl⟩ := hq
   rw [outK_inr] at h
   show awp ..
   refine g0 [4] [] [(4, .sl 1 1 0 so2.length)] [mc p_m, .data (so2.flatMap cel3)] ?_
   obtain rfl := Option.some.inj h
   refine gw 2 [4] [(4, .sl 1 1 0 so2.length)] [mc p_m, .data (so2.flatMap cel3)] ?_
   refine awp_freeze 4 1 (so2.flatMap cel3) (.sl 1 1 0 so2.length) (.d (L3 so2)) _ _ (ps := [(so2.flatMap cel3).length = so2.length * 1]) (by kernel_rfl) (by kernel_rfl) (by kernel_rfl) (flatMap_len cel3 1 cel3_len so2) rfl rfl ?_
   refine gw 2 [4] [(4, .d (L3 so2))] [mc p_m, .data (([] : List Int).flatMap cel3)] ?_
   exact awp_ret gm
theorem ct10 {fuel : Nat}  {p_m : S_api_ClMap} {p_x : (List Int)} {y : (List Int)} {res : Bool} (h : F10 fuel p_m p_x y = some res) : PCall Try.prog 10 [(ma p_m), (L65 p_x), (L65 y)] (vb res) := by
 refine PCall.of_awp tt_ok (N := 73) Try.func10 rfl (by kernel_rfl) rfl (Nat.le_of_ble_eq_true rfl) rfl ?_
 unfold F10 at h
 refine g0 [1, 2, 3] [] [(1, .d (L65 p_x)), (2, .d (L65 y)), (3, .ref 0 0)] [mc p_m] ?_
 refine awp_seq ?_
 obtain ⟨x1, hx1, h⟩ := ob h
 refine gr [1, 2, 3, 16] [.no, .call [(ma p_m)] (vb x1)] [(1, .d (L65 p_x)), (2, .d (L65 y)), (3, .ref 0 0), (16, vb (!x1))] [mc p_m] [PCall Try.prog 39 [(ma p_m)] (vb x1)] (ct39 hx1) ?_
 refine awp_cond (b := (!x1)) (by kernel_rfl) (fun hb2 => ?_) (fun hb2 => ?_)
 ·rw [if_pos hb2] at h
  obtain ⟨x3, hx3, h⟩ := ob h
  refine gr [6] [.call [] (vb x3)] [(6, vb x3)] [mc p_m] [PCall Try.prog 30 [] (vb x3)] (ct30 hx3) ?_
  obtain rfl := Option.some.inj h
  refine gw 1 [6] [(6, vb x3)] [mc p_m] ?_
  exact awp_ret gm
 ·rw [if_neg (ntrue hb2)] at h
  refine awp_skip ?_
  show awp ..
  obtain ⟨x4, hx4, h⟩ := ob h
  refine gr [2, 3, 7] [.no, .no, .call [(ma p_m), (L65 p_x)] (.d (L3 x4))] [(2, .d (L65 y)), (3, .ref 0 0), (7, .d (L3 x4))] [mc p_m] [PCall Try.prog 40 [(ma p_m), (L65 p_x)] (.d (L3 x4))] (ct40 hx4) ?_
  refine awp_seq ?_
  obtain ⟨x5, hx5, h⟩ := ob h
  refine gr [2, 3, 7, 24] [.no, .no, .call [(ma p_m), (L3 x4)] (vb x5)] [(2, .d (L65 y)), (3, .ref 0 0), (7, .d (L3 x4)), (24, vb (!x5))] [mc p_m] [PCall Try.prog 41 [(ma p_m), (L3 x4)] (vb x5)] (ct41 hx5) ?_
  refine awp_cond (b := (!x5)) (by kernel_rfl) (fun hb6 => ?_) (fun hb6 => ?_)
  ·rw [if_pos hb6] at h
   obtain ⟨x7, hx7, h⟩ := ob h
   refine gr [6] [.call [] (vb x7)] [(6, vb x7)] [mc p_m] [PCall Try.prog 30 [] (vb x7)] (ct30 hx7) ?_
   obtain rfl := Option.some.inj h
   refine gw 1 [6] [(6, vb x7)] [mc p_m] ?_
   exact awp_ret gm
  ·rw [if_neg (ntrue hb6)] at h
   refine awp_skip ?_
   show awp ..
   obtain ⟨x8, hx8, h⟩ := ob h
   refine gr [2, 3, 7, 9, 10] [.no, .no, .call [(ma p_m), (L3 x4)] (.tup [.d (L3 x8.1), vi x8.2.1, vi x8.2.2])] [(2, .d (L65 y)), (3, .ref 0 0), (7, .d (L3 x4)), (9, vi x8.2.1), (10, vi x8.2.2)] [mc p_m] [PCall Try.prog 31 [(ma p_m), (L3 x4)] (.tup [.d (L3 x8.1), vi x8.2.1, vi x8.2.2])] (ct31 hx8) ?_
   obtain ⟨x9, hx9, h⟩ := ob h
   refine gr [3, 7, 9, 10, 11] [.no, .no, .call [(ma p_m), (L65 y)] (.d (L3 x9))] [(3, .ref 0 0), (7, .d (L3 x4)), (9, vi x8.2.1), (10, vi x8.2.2), (11, .d (L3 x9))] [mc p_m] [PCall Try.prog 50 [(ma p_m), (L65 y)] (.d (L3 x9))] (ct50 hx9) ?_
   obtain ⟨x10, hx10, h⟩ := ob h
   refine gr [9, 10, 11, 12, 13] [.no, .no, .no, .call [(ma p_m), (L3 x4), (L3 x9)] (.tup [.d (L3 x10.1), vi x10.2])] [(9, vi x8.2.1), (10, vi x8.2.2), (11, .d (L3 x9)), (12, .d (L3 x10.1)), (13, vi x10.2)] [mc p_m] [PCall Try.prog 33 [(ma p_m), (L3 x4), (L3 x9)] (.tup [.d (L3 x10.1), vi x10.2])] (ct33 hx10) ?_
   refine awp_seq (g0 [9, 10, 11, 12, 44] [] [(9, vi x8.2.1), (10, vi x8.2.2), (11, .d (L3 x9)), (12, .d (L3 x10.1)), (44, vb (x10.2 != 0))] [mc p_m] ?_)
   refine awp_cond (b := (x10.2 != 0)) (by kernel_rfl) (fun hb11 => ?_) (fun hb11 => ?_)
   ·rw [if_pos hb11] at h
    refine g0 [6] [] [(6, vb false)] [mc p_m] ?_
    obtain rfl := Option.some.inj h
    refine gw 1 [6] [(6, vb false)] [mc p_m] ?_
    exact awp_ret gm
   ·rw [if_neg (ntrue hb11)] at h
    refine awp_skip ?_
    show awp ..
    refine awp_seq (g0 [9, 10, 11, 12, 46] [] [(9, vi x8.2.1), (10, vi x8.2.2), (11, .d (L3 x9)), (12, .d (L3 x10.1)), (46, vb (x8.2.2 != 0))] [mc p_m] ?_)
    refine awp_cond (b := (x8.2.2 != 0)) (by kernel_rfl) (fun hb12 => ?_) (fun hb12 => ?_)
    ·rw [if_pos hb12] at h
     obtain ⟨x13, hx13, h⟩ := ob h
     refine gr [6] [.no, .no, .no, .no, .no, .no, .no, .no, .call [] (vb x13)] [(6, vb (cond (cond (x8.2.2 == 9) (decide ((x10.1.length : Int) > 0)) false) x13 false))] [mc p_m] [((x8.2.2 == 9) = true → (x8.2.2 == 9) = true), ((x8.2.2 == 9) = true → (x8.2.2 == 9) = true), ((x8.2.2 == 9) = true → (x8.2.2 == 9) = true), ((cond (x8.2.2 == 9) (decide ((x10.1.length : Int) > 0)) false) = true → PCall Try.prog 30 [] (vb x13)), ((cond (x8.2.2 == 9) (decide ((x10.1.length : Int) > 0)) false) = true → (cond (x8.2.2 == 9) (decide ((x10.1.length : Int) > 0)) false) = true)] (And.intro (id) (And.intro (id) (And.intro (id) (And.intro ((fun hg => ct30 (optG_of hx13 hg))) (id))))) ?_
     obtain rfl := Option.some.inj h
     refine gw 1 [6] [(6, vb (cond (cond (x8.2.2 == 9) (decide ((x10.1.length : Int) > 0)) false) x13 false))] [mc p_m] ?_
     exact awp_ret gm
    ·rw [if_neg (ntrue hb12)] at h
     refine awp_skip ?_
     show awp ..
     obtain ⟨x14, hx14, h⟩ := ob h
     obtain ⟨x15, hx15, h⟩ := ob h
     refine gr [6] [.no, .no, .no, .no, .no, .no, .no, .no, .call [(L3 x9)] (vi x14), .no, .no, .own, .no, .no, .call [] (vb x15)] [(6, vb (cond (cond (decide (x8.2.1 > 0)) (cond (decide ((x10.1.length : Int) > 0)) true (decide (x14 ≥ x8.2.1))) false) x15 false))] [mc p_m] [((decide (x8.2.1 > 0)) = true → (decide (x8.2.1 > 0)) = true), ((decide (x8.2.1 > 0)) = true → (decide (x8.2.1 > 0)) = true), ((decide (x8.2.1 > 0)) = true → (decide (x8.2.1 > 0)) = true), (((decide (x8.2.1 > 0)) && (!(decide ((x10.1.length : Int) > 0)))) = true → ((decide (x8.2.1 > 0)) && (!(decide ((x10.1.length : Int) > 0)))) = true), (((decide (x8.2.1 > 0)) && (!(decide ((x10.1.length : Int) > 0)))) = true → PCall Try.prog 48 [(L3 x9)] (vi x14)), (((decide (x8.2.1 > 0)) && (!(decide ((x10.1.length : Int) > 0)))) = true → ((decide (x8.2.1 > 0)) && (!(decide ((x10.1.length : Int) > 0)))) = true), (((decide (x8.2.1 > 0)) && (!(decide ((x10.1.length : Int) > 0)))) = true → ((decide (x8.2.1 > 0)) && (!(decide ((x10.1.length : Int) > 0)))) = true), ((decide (x8.2.1 > 0)) = true → (decide (x8.2.1 > 0)) = true), ((decide (x8.2.1 > 0)) = true → (decide ((x10.1.length : Int) > 0)) = false → ((decide (x8.2.1 > 0)) && (!(decide ((x10.1.length : Int) > 0)))) = true), ((decide (x8.2.1 > 0)) = true → (decide (x8.2.1 > 0)) = true), ((cond (decide (x8.2.1 > 0)) (cond (decide ((x10.1.length : Int) > 0)) true (decide (x14 ≥ x8.2.1))) false) = true → PCall Try.prog 30 [] (vb x15)), ((cond (decide (x8.2.1 > 0)) (cond (decide ((x10.1.length : Int) > 0)) true (decide (x14 ≥ x8.2.1))) false) = true → (cond (decide (x8.2.1 > 0)) (cond (decide ((x10.1.length : Int) > 0)) true (decide (x14 ≥ x8.2.1))) false) = true)] (And.intro (id) (And.intro (id) (And.intro (id) (And.intro (id) (And.intro ((fun hg => ct48 (optG_of hx14 hg))) (And.intro (id) (And.intro (id) (And.intro (id) (And.intro ((fun hg h1 => by first | exact hg | exact h1 | (rw [hg, h1]; rfl) | (simp only [hg, h1, Bool.not_true, Bool.not_false, Bool.and_self, Bool.true_and, Bool.and_true]; done) | (simp only [Bool.and_eq_true] at hg; simp only [hg, h1, Bool.not_true, Bool.not_false, Bool.and_self, Bool.true_and, Bool.and_true]; done) | simp_all)) (And.intro (id) (And.intro ((fun hg => ct30 (optG_of hx15 hg))) (id)))))))))))) ?_
     obtain rfl := Option.some.inj h
     refine gw 1 [6] [(6, vb (cond (cond (decide (x8.2.1 > 0)) (cond (decide ((x10.1.length : Int) > 0)) true (decide (x14 ≥ x8.2.1))) false) x15 false))] [mc p_m] ?_
     exact awp_ret gm
end Go.Proofs.Ytpkhbbboedoldaa
