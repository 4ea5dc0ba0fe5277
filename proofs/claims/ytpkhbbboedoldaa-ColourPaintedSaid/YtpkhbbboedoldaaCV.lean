/- That functions of the seat compute this. Printed by a program of mine. -/
import Derived.Test.YtpkhbbboedoldaaS
import Derived.Test.YtpkhbbboedoldaaCHS
import Derived.Test.YtpkhbbboedoldaaCM
import Derived.Test.YtpkhbbboedoldaaCP
import Derived.Test.YtpkhbbboedoldaaCR
import Derived.Test.YtpkhbbboedoldaaCT
import Derived.Test.YtpkhbbboedoldaaCW
import Derived.Test.YtpkhbbboedoldaaDV
namespace Go.Proofs.Ytpkhbbboedoldaa
open Go Go.Sx
set_option maxRecDepth 100000
set_option linter.unusedVariables false
theorem ct9 {fuel : Nat}  {p_m : S_api_ClMap} {p_x : S_hachurelaw09qPast} {res : Bool} (h : F9 fuel p_m p_x = some res) : PCall Try.prog 9 [(ma p_m), (.agg [(L65 p_x.Legend), (L65 p_x.Truth)])] (vb res) := by
 refine PCall.of_awp tt_ok (N := 181) Try.func9 rfl (by kernel_rfl) rfl (Nat.le_of_ble_eq_true rfl) rfl ?_
 unfold F9 at h
 refine g0 [2, 3] [] [(2, .ref 0 0), (3, .ref 1 0)] [mc p_m, .cells [.d (L65 p_x.Legend), .d (L65 p_x.Truth)]] ?_
 refine awp_seq ?_
 obtain ⟨x1, hx1, h⟩ := ob h
 refine gr [2, 3, 17] [.no, .call [(ma p_m)] (vb x1)] [(2, .ref 0 0), (3, .ref 1 0), (17, vb (!x1))] [mc p_m, .cells [.d (L65 p_x.Legend), .d (L65 p_x.Truth)]] [PCall Try.prog 39 [(ma p_m)] (vb x1)] (ct39 hx1) ?_
 refine awp_cond (b := (!x1)) (by kernel_rfl) (fun hb2 => ?_) (fun hb2 => ?_)
 ·rw [if_pos hb2] at h
  obtain ⟨x3, hx3, h⟩ := ob h
  refine gr [4] [.call [] (vb x3)] [(4, vb x3)] [mc p_m, .cells [.d (L65 p_x.Legend), .d (L65 p_x.Truth)]] [PCall Try.prog 30 [] (vb x3)] (ct30 hx3) ?_
  obtain rfl := Option.some.inj h
  refine gw 2 [4] [(4, vb x3)] [mc p_m, .cells [.d (L65 p_x.Legend), .d (L65 p_x.Truth)]] ?_
  exact awp_ret gm
 ·rw [if_neg (ntrue hb2)] at h
  refine awp_skip ?_
  show awp ..
  obtain ⟨x4, hx4, h⟩ := ob h
  refine gr [2, 3, 5] [.no, .no, .no, .call [(ma p_m), (L65 p_x.Legend)] (.d (L3 x4))] [(2, .ref 0 0), (3, .ref 1 0), (5, .d (L3 x4))] [mc p_m, .cells [.d (L65 p_x.Legend), .d (L65 p_x.Truth)]] [PCall Try.prog 40 [(ma p_m), (L65 p_x.Legend)] (.d (L3 x4))] (ct40 hx4) ?_
  obtain ⟨x5, hx5, h⟩ := ob h
  refine gr [2, 3, 5, 6, 7, 8] [.no, .no, .call [(ma p_m), (L3 x4)] (.tup [.d (L3 x5.1), vi x5.2.1, vi x5.2.2])] [(2, .ref 0 0), (3, .ref 1 0), (5, .d (L3 x4)), (6, .d (L3 x5.1)), (7, vi x5.2.1), (8, vi x5.2.2)] [mc p_m, .cells [.d (L65 p_x.Legend), .d (L65 p_x.Truth)]] [PCall Try.prog 31 [(ma p_m), (L3 x4)] (.tup [.d (L3 x5.1), vi x5.2.1, vi x5.2.2])] (ct31 hx5) ?_
  refine awp_seq ?_
  obtain ⟨x6, hx6, h⟩ := ob h
  refine gr [2, 3, 5, 6, 7, 8, 37] [.no, .no, .call [(ma p_m), (L3 x4)] (vb x6)] [(2, .ref 0 0), (3, .ref 1 0), (5, .d (L3 x4)), (6, .d (L3 x5.1)), (7, vi x5.2.1), (8, vi x5.2.2), (37, vb (cond (!x6) true (x5.2.2 != 0)))] [mc p_m, .cells [.d (L65 p_x.Legend), .d (L65 p_x.Truth)]] [PCall Try.prog 41 [(ma p_m), (L3 x4)] (vb x6), ((!(!x6)) = true → (!(!x6)) = true), ((!x6) = false → (!(!x6)) = true)] (And.intro (ct41 hx6) (And.intro (id) (not_of))) ?_
  refine awp_cond (b := (cond (!x6) true (x5.2.2 != 0))) (by kernel_rfl) (fun hb7 => ?_) (fun hb7 => ?_)
  ·rw [if_pos hb7] at h
   obtain ⟨x8, hx8, h⟩ := ob h
   obtain ⟨x9, hx9, h⟩ := ob h
   obtain ⟨x10, hx10, h⟩ := ob h
   refine gr [4] [.no, .no, .call [(ma p_m), (L3 x4)] (vb x8), .no, .no, .no, .no, .no, .no, .no, .no, .call [(ma p_m), (L3 x4)] (vb x9), .no, .no, .no, .own, .no, .no, .no, .no, .no, .no, .no, .no, .no, .no, .no, .call [] (vb x10)] [(4, vb (cond (cond (cond (cond (cond (!x8) (x5.2.2 != 0) false) true (cond x9 (x5.2.2 == 9) false)) ((x5.1.length : Int) == 0) false) (x5.2.1 == 0) false) x10 false))] [mc p_m, .cells [.d (L65 p_x.Legend), .d (L65 p_x.Truth)]] [PCall Try.prog 41 [(ma p_m), (L3 x4)] (vb x8), ((!x8) = true → (!x8) = true), ((!x8) = true → (!x8) = true), ((!(cond (!x8) (x5.2.2 != 0) false)) = true → (!(cond (!x8) (x5.2.2 != 0) false)) = true), ((!(cond (!x8) (x5.2.2 != 0) false)) = true → (!(cond (!x8) (x5.2.2 != 0) false)) = true), ((!(cond (!x8) (x5.2.2 != 0) false)) = true → PCall Try.prog 41 [(ma p_m), (L3 x4)] (vb x9)), ((!(cond (!x8) (x5.2.2 != 0) false)) = true → (!(cond (!x8) (x5.2.2 != 0) false)) = true), (((!(cond (!x8) (x5.2.2 != 0) false)) && x9) = true → ((!(cond (!x8) (x5.2.2 != 0) false)) && x9) = true), ((!(cond (!x8) (x5.2.2 != 0) false)) = true → (!(cond (!x8) (x5.2.2 != 0) false)) = true), ((!(cond (!x8) (x5.2.2 != 0) false)) = true → x9 = true → ((!(cond (!x8) (x5.2.2 != 0) false)) && x9) = true), ((cond (!x8) (x5.2.2 != 0) false) = false → (!(cond (!x8) (x5.2.2 != 0) false)) = true), ((cond (cond (!x8) (x5.2.2 != 0) false) true (cond x9 (x5.2.2 == 9) false)) = true → (cond (cond (!x8) (x5.2.2 != 0) false) true (cond x9 (x5.2.2 == 9) false)) = true), ((cond (cond (!x8) (x5.2.2 != 0) false) true (cond x9 (x5.2.2 == 9) false)) = true → (cond (cond (!x8) (x5.2.2 != 0) false) true (cond x9 (x5.2.2 == 9) false)) = true), ((cond (cond (!x8) (x5.2.2 != 0) false) true (cond x9 (x5.2.2 == 9) false)) = true → (cond (cond (!x8) (x5.2.2 != 0) false) true (cond x9 (x5.2.2 == 9) false)) = true), ((cond (cond (cond (!x8) (x5.2.2 != 0) false) true (cond x9 (x5.2.2 == 9) false)) ((x5.1.length : Int) == 0) false) = true → (cond (cond (cond (!x8) (x5.2.2 != 0) false) true (cond x9 (x5.2.2 == 9) false)) ((x5.1.length : Int) == 0) false) = true), ((cond (cond (cond (!x8) (x5.2.2 != 0) false) true (cond x9 (x5.2.2 == 9) false)) ((x5.1.length : Int) == 0) false) = true → (cond (cond (cond (!x8) (x5.2.2 != 0) false) true (cond x9 (x5.2.2 == 9) false)) ((x5.1.length : Int) == 0) false) = true), ((cond (cond (cond (cond (!x8) (x5.2.2 != 0) false) true (cond x9 (x5.2.2 == 9) false)) ((x5.1.length : Int) == 0) false) (x5.2.1 == 0) false) = true → PCall Try.prog 30 [] (vb x10)), ((cond (cond (cond (cond (!x8) (x5.2.2 != 0) false) true (cond x9 (x5.2.2 == 9) false)) ((x5.1.length : Int) == 0) false) (x5.2.1 == 0) false) = true → (cond (cond (cond (cond (!x8) (x5.2.2 != 0) false) true (cond x9 (x5.2.2 == 9) false)) ((x5.1.length : Int) == 0) false) (x5.2.1 == 0) false) = true)] (And.intro (ct41 hx8) (And.intro (id) (And.intro (id) (And.intro (id) (And.intro (id) (And.intro ((fun hg => ct41 (optG_of hx9 hg))) (And.intro (id) (And.intro (id) (And.intro (id) (And.intro ((fun hg h1 => by first | exact hg | exact h1 | (rw [hg, h1]; rfl) | (simp only [hg, h1, Bool.not_true, Bool.not_false, Bool.and_self, Bool.true_and, Bool.and_true]; done) | (simp only [Bool.and_eq_true] at hg; simp only [hg, h1, Bool.not_true, Bool.not_false, Bool.and_self, Bool.true_and, Bool.and_true]; done) | simp_all)) (And.intro (not_of) (And.intro (id) (And.intro (id) (And.intro (id) (And.intro (id) (And.intro (id) (And.intro ((fun hg => ct30 (optG_of hx10 hg))) (id)))))))))))))))))) ?_
   obtain rfl := Option.some.inj h
   refine gw 2 [4] [(4, vb (cond (cond (cond (cond (cond (!x8) (x5.2.2 != 0) false) true (cond x9 (x5.2.2 == 9) false)) ((x5.1.length : Int) == 0) false) (x5.2.1 == 0) false) x10 false))] [mc p_m, .cells [.d (L65 p_x.Legend), .d (L65 p_x.Truth)]] ?_
   exact awp_ret gm
  ·rw [if_neg (ntrue hb7)] at h
   refine awp_skip ?_
   show awp ..
   refine awp_seq ?_
   obtain ⟨x11, hx11, h⟩ := ob h
   refine gr [2, 3, 5, 6, 78] [.no, .no, .no, .no, .no, .no, .no, .no, .no, .call [(L3 x5.1)] (vi x11)] [(2, .ref 0 0), (3, .ref 1 0), (5, .d (L3 x4)), (6, .d (L3 x5.1)), (78, vb (cond ((x5.1.length : Int) != (w64 ((x4.length : Int) + 1))) true (x5.2.1 != x11)))] [mc p_m, .cells [.d (L65 p_x.Legend), .d (L65 p_x.Truth)]] [((!((x5.1.length : Int) != (w64 ((x4.length : Int) + 1)))) = true → (!((x5.1.length : Int) != (w64 ((x4.length : Int) + 1)))) = true), ((!((x5.1.length : Int) != (w64 ((x4.length : Int) + 1)))) = true → PCall Try.prog 48 [(L3 x5.1)] (vi x11)), ((!((x5.1.length : Int) != (w64 ((x4.length : Int) + 1)))) = true → (!((x5.1.length : Int) != (w64 ((x4.length : Int) + 1)))) = true), ((!((x5.1.length : Int) != (w64 ((x4.length : Int) + 1)))) = true → (!((x5.1.length : Int) != (w64 ((x4.length : Int) + 1)))) = true), (((x5.1.length : Int) != (w64 ((x4.length : Int) + 1))) = false → (!((x5.1.length : Int) != (w64 ((x4.length : Int) + 1)))) = true)] (And.intro (id) (And.intro ((fun hg => ct48 (optG_of hx11 hg))) (And.intro (id) (And.intro (id) (not_of))))) ?_
   refine awp_cond (b := (cond ((x5.1.length : Int) != (w64 ((x4.length : Int) + 1))) true (x5.2.1 != x11))) (by kernel_rfl) (fun hb12 => ?_) (fun hb12 => ?_)
   ·rw [if_pos hb12] at h
    refine g0 [4] [] [(4, vb false)] [mc p_m, .cells [.d (L65 p_x.Legend), .d (L65 p_x.Truth)]] ?_
    obtain rfl := Option.some.inj h
    refine gw 2 [4] [(4, vb false)] [mc p_m, .cells [.d (L65 p_x.Legend), .d (L65 p_x.Truth)]] ?_
    exact awp_ret gm
   ·rw [if_neg (ntrue hb12)] at h
    refine awp_skip ?_
    show awp ..
    refine awp_seq (g0 [2, 3, 5, 6, 9] [] [(2, .ref 0 0), (3, .ref 1 0), (5, .d (L3 x4)), (6, .d (L3 x5.1)), (9, vi 0)] [mc p_m, .cells [.d (L65 p_x.Legend), .d (L65 p_x.Truth)]] ?_)
    obtain ⟨o13, ho13, h⟩ := ob h
    refine awp_cut1 (OutQ (fun (ro13 : Bool) => [(4, vb ro13)]) (fun (ro13 : Bool) => []) (fun (so13 : Unit) => [(2, .ref 0 0), (3, .ref 1 0), (5, .d (L3 x4)), (6, .d (L3 x5.1))]) (fun (so13 : Unit) => [mc p_m, .cells [.d (L65 p_x.Legend), .d (L65 p_x.Truth)]]) o13) ?_ ?_
    ·clear h
     have h := ho13
     clear ho13
     refine awp_selQ (gw 2 [2, 3, 5, 6, 9] [(2, .ref 0 0), (3, .ref 1 0), (5, .d (L3 x4)), (6, .d (L3 x5.1)), (9, vi 0)] [mc p_m, .cells [.d (L65 p_x.Legend), .d (L65 p_x.Truth)]] ?_)
     refine awp_block (awp_loop (n := fuel) ?_)
     refine awpN_ind (fun n (c14 : Int) => F9L1 p_m x5 n c14) o13 (fun (c14 : Int) => [(2, .ref 0 0), (3, .ref 1 0), (5, .d (L3 x4)), (6, .d (L3 x5.1)), (9, vi c14)]) (fun (c14 : Int) => [mc p_m, .cells [.d (L65 p_x.Legend), .d (L65 p_x.Truth)]]) (fun _ => rfl) ?_ fuel 0 h
     clear h
     intro n15 c14 h hrn15
     change F9L1 p_m x5 (n15 + 1) c14 = some o13 at h
     rw [F9L1] at h
     refine awp_seq (g0 [2, 3, 5, 6, 9, 82] [] [(2, .ref 0 0), (3, .ref 1 0), (5, .d (L3 x4)), (6, .d (L3 x5.1)), (9, vi c14), (82, vb (decide (c14 < (x5.1.length : Int))))] [mc p_m, .cells [.d (L65 p_x.Legend), .d (L65 p_x.Truth)]] ?_)
     refine awp_cond (b := (decide (c14 < (x5.1.length : Int)))) (by kernel_rfl) (fun hb16 => ?_) (fun hb16 => ?_)
     ·rw [if_pos hb16] at h
      refine awp_skip ?_
      show awp ..
      refine awp_seq (awp_block ?_)
      obtain ⟨x17, hx17, h⟩ := ob h
      obtain ⟨x18, hx18, h⟩ := ob h
      refine awp_sdraw tt_ok mixed (ks := [2, 3, 5, 6, 9, 98]) (hs := [.no, .no, .cells (cel3 x17), .no, .no, .no, .no, .no, .cells (cel3 x18)]) 12 [2, 3, 5, 6, 9, 90, 94, 96, 97, 98] [(2, .ref 0 0), (3, .ref 1 0), (5, .d (L3 x4)), (6, .d (L3 x5.1)), (9, vi c14), (98, vb (cond (decide (x17 < 0)) true (decide (x18 ≥ p_m.Inks))))] [mc p_m, .cells [.d (L65 p_x.Legend), .d (L65 p_x.Truth)]] [IX3 x5.1 c14 x17, ((!(decide (x17 < 0))) = true → (!(decide (x17 < 0))) = true), ((!(decide (x17 < 0))) = true → (!(decide (x17 < 0))) = true), ((!(decide (x17 < 0))) = true → IX3 x5.1 c14 x18), ((!(decide (x17 < 0))) = true → (!(decide (x17 < 0))) = true), ((!(decide (x17 < 0))) = true → (!(decide (x17 < 0))) = true), ((!(decide (x17 < 0))) = true → (!(decide (x17 < 0))) = true), ((!(decide (x17 < 0))) = true → (!(decide (x17 < 0))) = true), ((decide (x17 < 0)) = false → (!(decide (x17 < 0))) = true)] (by kernel_rfl) (And.intro (idxOk cel3_len hx17) (And.intro (id) (And.intro (id) (And.intro ((fun hg => idxOk cel3_len (optG_of hx18 hg))) (And.intro (id) (And.intro (id) (And.intro (id) (And.intro (id) (not_of))))))))) ?_
      refine awp_cond (b := (cond (decide (x17 < 0)) true (decide (x18 ≥ p_m.Inks)))) (by kernel_rfl) (fun hb19 => ?_) (fun hb19 => ?_)
      ·rw [if_pos hb19] at h
       refine g0 [4] [] [(4, vb false)] [mc p_m, .cells [.d (L65 p_x.Legend), .d (L65 p_x.Truth)]] ?_
       obtain rfl := Option.some.inj h
       refine gw 2 [4] [(4, vb false)] [mc p_m, .cells [.d (L65 p_x.Legend), .d (L65 p_x.Truth)]] ?_
       exact awp_ret (gs [] [4] OutQ.ret)
      ·rw [if_neg (ntrue hb19)] at h
       refine awp_skip ?_
       show awp ..
       refine x0 [2, 3, 5, 6, 9] [] [(2, .ref 0 0), (3, .ref 1 0), (5, .d (L3 x4)), (6, .d (L3 x5.1)), (9, vi (w64 (c14 + 1)))] [mc p_m, .cells [.d (L65 p_x.Legend), .d (L65 p_x.Truth)]] ?_
       exact gn 2 [2, 3, 5, 6, 9] (hrn15 (w64 (c14 + 1)) h)
     ·rw [if_neg (ntrue hb16)] at h
      refine awp_exit ?_
      obtain rfl := Option.some.inj h
      exact gs [0, 1] [2, 3, 5, 6] OutQ.norm
    ·intro e T H hq
     cases o13 with
     | inl ro13 =>
      obtain ⟨rfl, rfl, rfl⟩ := hq
      rw [outK_inl] at h
      obtain rfl := Option.some.inj h
      exact gm
     | inr so13 =>
      obtain ⟨rfl, rfl, rfl⟩ := hq
      rw [outK_inr] at h
      show awp ..
      refine awp_seq (g0 [2, 3, 5, 6, 10] [] [(2, .ref 0 0), (3, .ref 1 0), (5, .d (L3 x4)), (6, .d (L3 x5.1)), (10, vi 0)] [mc p_m, .cells [.d (L65 p_x.Legend), .d (L65 p_x.Truth)]] ?_)
      obtain ⟨o20, ho20, h⟩ := ob h
      refine awp_cut1 (OutQ (fun (ro20 : Bool) => [(4, vb ro20)]) (fun (ro20 : Bool) => []) (fun (so20 : Unit) => [(2, .ref 0 0), (5, .d (L3 x4)), (6, .d (L3 x5.1))]) (fun (so20 : Unit) => [mc p_m, .cells [.d (L65 p_x.Legend), .d (L65 p_x.Truth)]]) o20) ?_ ?_
      ·clear h
       have h := ho20
       clear ho20
       refine awp_selQ (gw 2 [2, 3, 5, 6, 10] [(2, .ref 0 0), (3, .ref 1 0), (5, .d (L3 x4)), (6, .d (L3 x5.1)), (10, vi 0)] [mc p_m, .cells [.d (L65 p_x.Legend), .d (L65 p_x.Truth)]] ?_)
       refine awp_block (awp_loop (n := fuel) ?_)
       refine awpN_ind (fun n (c21 : Int) => F9L2 fuel p_m p_x x4 x5 n c21) o20 (fun (c21 : Int) => [(2, .ref 0 0), (3, .ref 1 0), (5, .d (L3 x4)), (6, .d (L3 x5.1)), (10, vi c21)]) (fun (c21 : Int) => [mc p_m, .cells [.d (L65 p_x.Legend), .d (L65 p_x.Truth)]]) (fun _ => rfl) ?_ fuel 0 h
       clear h
       intro n22 c21 h hrn22
       change F9L2 fuel p_m p_x x4 x5 (n22 + 1) c21 = some o20 at h
       rw [F9L2] at h
       refine awp_seq (g0 [2, 3, 5, 6, 10, 103] [] [(2, .ref 0 0), (3, .ref 1 0), (5, .d (L3 x4)), (6, .d (L3 x5.1)), (10, vi c21), (103, vb (decide (c21 < (p_m.Sides.length : Int))))] [mc p_m, .cells [.d (L65 p_x.Legend), .d (L65 p_x.Truth)]] ?_)
       refine awp_cond (b := (decide (c21 < (p_m.Sides.length : Int)))) (by kernel_rfl) (fun hb23 => ?_) (fun hb23 => ?_)
       ·rw [if_pos hb23] at h
        refine awp_skip ?_
        show awp ..
        refine awp_seq (awp_block ?_)
        obtain ⟨x24, hx24, h⟩ := ob h
        obtain ⟨x25, hx25, h⟩ := ob h
        obtain ⟨x26, hx26, h⟩ := ob h
        obtain ⟨x27, hx27, h⟩ := ob h
        obtain ⟨x28, hx28, h⟩ := ob h
        obtain ⟨x29, hx29, h⟩ := ob h
        refine awp_sdraw tt_ok mixed (ks := [2, 3, 5, 6, 10, 11]) (hs := [.no, .no, .no, .no, .no, .no, .cells (cel51 x24), .no, .no, .cells (cel60 x25), .no, .no, .no, .no, .no, .no, .cells (cel51 x26), .no, .no, .call [(L65 p_x.Truth), (di x26.A)] (vi x27), .call [(.agg [(di x25.Lo), (di x25.Hi)]), (di x27)] (vi x28), .call [(L3 x4), (di x28)] (vi x29)]) 21 [2, 3, 5, 6, 10, 11, 106, 126, 127] [(2, .ref 0 0), (3, .ref 1 0), (5, .d (L3 x4)), (6, .d (L3 x5.1)), (10, vi c21), (11, vi x29)] [mc p_m, .cells [.d (L65 p_x.Legend), .d (L65 p_x.Truth)]] [IX51 p_m.Sides c21 x24, IX60 p_m.Heights x24.A x25, IX51 p_m.Sides c21 x26, PCall Try.prog 44 [(L65 p_x.Truth), (di x26.A)] (vi x27), PCall Try.prog 43 [(.agg [(di x25.Lo), (di x25.Hi)]), (di x27)] (vi x28), PCall Try.prog 42 [(L3 x4), (di x28)] (vi x29)] (by kernel_rfl) (And.intro (idxOk cel51_len hx24) (And.intro (idxOk cel60_len hx25) (And.intro (idxOk cel51_len hx26) (And.intro (ct44 hx27) (And.intro (ct43 hx28) (ct42 hx29)))))) ?_
        obtain ⟨x30, hx30, h⟩ := ob h
        obtain ⟨x31, hx31, h⟩ := ob h
        obtain ⟨x32, hx32, h⟩ := ob h
        obtain ⟨x33, hx33, h⟩ := ob h
        obtain ⟨x34, hx34, h⟩ := ob h
        obtain ⟨x35, hx35, h⟩ := ob h
        refine awp_sdraw tt_ok mixed (ks := [2, 3, 5, 6, 10, 11, 12]) (hs := [.no, .no, .no, .no, .no, .no, .cells (cel51 x30), .no, .no, .cells (cel60 x31), .no, .no, .no, .no, .no, .no, .cells (cel51 x32), .no, .no, .call [(L65 p_x.Truth), (di x32.B)] (vi x33), .call [(.agg [(di x31.Lo), (di x31.Hi)]), (di x33)] (vi x34), .call [(L3 x4), (di x34)] (vi x35)]) 21 [2, 3, 5, 6, 10, 11, 12, 128, 148, 149] [(2, .ref 0 0), (3, .ref 1 0), (5, .d (L3 x4)), (6, .d (L3 x5.1)), (10, vi c21), (11, vi x29), (12, vi x35)] [mc p_m, .cells [.d (L65 p_x.Legend), .d (L65 p_x.Truth)]] [IX51 p_m.Sides c21 x30, IX60 p_m.Heights x30.B x31, IX51 p_m.Sides c21 x32, PCall Try.prog 44 [(L65 p_x.Truth), (di x32.B)] (vi x33), PCall Try.prog 43 [(.agg [(di x31.Lo), (di x31.Hi)]), (di x33)] (vi x34), PCall Try.prog 42 [(L3 x4), (di x34)] (vi x35)] (by kernel_rfl) (And.intro (idxOk cel51_len hx30) (And.intro (idxOk cel60_len hx31) (And.intro (idxOk cel51_len hx32) (And.intro (ct44 hx33) (And.intro (ct43 hx34) (ct42 hx35)))))) ?_
        obtain ⟨x36, hx36, h⟩ := ob h
        obtain ⟨x37, hx37, h⟩ := ob h
        obtain ⟨x38, hx38, h⟩ := ob h
        refine awp_sdraw tt_ok mixed (ks := [2, 3, 5, 6, 10, 163]) (hs := [.no, .no, .no, .cells (cel3 x36), .no, .no, .no, .cells (cel3 x37), .no, .call [(ma p_m), (di x36), (di x37)] (vb x38)]) 13 [2, 3, 5, 6, 10, 159, 162, 163] [(2, .ref 0 0), (3, .ref 1 0), (5, .d (L3 x4)), (6, .d (L3 x5.1)), (10, vi c21), (163, vb (!(x38 == (x29 == x35))))] [mc p_m, .cells [.d (L65 p_x.Legend), .d (L65 p_x.Truth)]] [IX3 x5.1 x29 x36, IX3 x5.1 x35 x37, PCall Try.prog 49 [(ma p_m), (di x36), (di x37)] (vb x38)] (by kernel_rfl) (And.intro (idxOk cel3_len hx36) (And.intro (idxOk cel3_len hx37) (ct49 hx38))) ?_
        refine awp_cond (b := (!(x38 == (x29 == x35)))) (by kernel_rfl) (fun hb39 => ?_) (fun hb39 => ?_)
        ·rw [if_pos hb39] at h
         refine g0 [4] [] [(4, vb false)] [mc p_m, .cells [.d (L65 p_x.Legend), .d (L65 p_x.Truth)]] ?_
         obtain rfl := Option.some.inj h
         refine gw 2 [4] [(4, vb false)] [mc p_m, .cells [.d (L65 p_x.Legend), .d (L65 p_x.Truth)]] ?_
         exact awp_ret (gs [] [4] OutQ.ret)
        ·rw [if_neg (ntrue hb39)] at h
         refine awp_skip ?_
         show awp ..
         refine x0 [2, 3, 5, 6, 10] [] [(2, .ref 0 0), (3, .ref 1 0), (5, .d (L3 x4)), (6, .d (L3 x5.1)), (10, vi (w64 (c21 + 1)))] [mc p_m, .cells [.d (L65 p_x.Legend), .d (L65 p_x.Truth)]] ?_
         exact gn 2 [2, 3, 5, 6, 10] (hrn22 (w64 (c21 + 1)) h)
       ·rw [if_neg (ntrue hb23)] at h
        refine awp_exit ?_
        obtain rfl := Option.some.inj h
        exact gs [0, 1] [2, 5, 6] OutQ.norm
      ·intro e T H hq
       cases o20 with
       | inl ro20 =>
        obtain ⟨rfl, rfl, rfl⟩ := hq
        rw [outK_inl] at h
        obtain rfl := Option.some.inj h
        exact gm
       | inr so20 =>
        obtain ⟨rfl, rfl, rfl⟩ := hq
        rw [outK_inr] at h
        show awp ..
        obtain ⟨x40, hx40, h⟩ := ob h
        refine gr [13, 14] [.no, .no, .no, .call [(ma p_m), (L3 x4), (L3 x5.1)] (.tup [.d (L3 x40.1), vi x40.2])] [(13, .d (L3 x40.1)), (14, vi x40.2)] [mc p_m, .cells [.d (L65 p_x.Legend), .d (L65 p_x.Truth)]] [PCall Try.prog 33 [(ma p_m), (L3 x4), (L3 x5.1)] (.tup [.d (L3 x40.1), vi x40.2])] (ct33 hx40) ?_
        obtain ⟨x41, hx41, h⟩ := ob h
        refine gr [4] [.no, .no, .no, .no, .no, .no, .no, .no, .call [] (vb x41)] [(4, vb (cond (cond (x40.2 == 0) ((x40.1.length : Int) == 0) false) x41 false))] [mc p_m, .cells [.d (L65 p_x.Legend), .d (L65 p_x.Truth)]] [((x40.2 == 0) = true → (x40.2 == 0) = true), ((x40.2 == 0) = true → (x40.2 == 0) = true), ((x40.2 == 0) = true → (x40.2 == 0) = true), ((cond (x40.2 == 0) ((x40.1.length : Int) == 0) false) = true → PCall Try.prog 30 [] (vb x41)), ((cond (x40.2 == 0) ((x40.1.length : Int) == 0) false) = true → (cond (x40.2 == 0) ((x40.1.length : Int) == 0) false) = true)] (And.intro (id) (And.intro (id) (And.intro (id) (And.intro ((fun hg => ct30 (optG_of hx41 hg))) (id))))) ?_
        obtain rfl := Option.some.inj h
        refine gw 2 [4] [(4, vb (cond (cond (x40.2 == 0) ((x40.1.length : Int) == 0) false) x41 false))] [mc p_m, .cells [.d (L65 p_x.Legend), .d (L65 p_x.Truth)]] ?_
        exact awp_ret gm
end Go.Proofs.Ytpkhbbboedoldaa
