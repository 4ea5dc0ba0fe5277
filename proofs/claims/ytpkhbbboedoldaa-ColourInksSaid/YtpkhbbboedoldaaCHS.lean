/- That functions of the seat compute this. Printed by a program of mine. -/
import Derived.Test.YtpkhbbboedoldaaS
import Derived.Test.YtpkhbbboedoldaaDHS
namespace Go.Proofs.Ytpkhbbboedoldaa
open Go Go.Sx
set_option maxRecDepth 100000
set_option linter.unusedVariables false
theorem ct46 {fuel : Nat}  {l : (List Int)} {p_n : Int} {res : Bool} (h : F46 fuel l p_n = some res) : PCall Try.prog 46 [(L3 l), (di p_n)] (vb res) := by
 refine PCall.of_awp tt_ok (N := 18) Try.func46 rfl (by kernel_rfl) rfl (Nat.le_of_ble_eq_true rfl) rfl ?_
 unfold F46 at h
 refine g0 [0, 1] [] [(0, .d (L3 l)), (1, vi p_n)] [] ?_
 refine awp_seq (g0 [0, 1, 5] [] [(0, .d (L3 l)), (1, vi p_n), (5, vi 0)] [] ?_)
 obtain ⟨o1, ho1, h⟩ := ob h
 refine awp_cut1 (OutQ (fun (ro1 : Bool) => [(4, vb ro1)]) (fun (ro1 : Bool) => []) (fun (so1 : Unit) => []) (fun (so1 : Unit) => []) o1) ?_ ?_
 ·clear h
  have h := ho1
  clear ho1
  refine awp_selQ (gw 0 [0, 1, 5] [(0, .d (L3 l)), (1, vi p_n), (5, vi 0)] [] ?_)
  refine awp_block (awp_loop (n := fuel) ?_)
  refine awpN_ind (fun n (c2 : Int) => F46L1 l p_n n c2) o1 (fun (c2 : Int) => [(0, .d (L3 l)), (1, vi p_n), (5, vi c2)]) (fun (c2 : Int) => []) (fun _ => rfl) ?_ fuel 0 h
  clear h
  intro n3 c2 h hrn3
  change F46L1 l p_n (n3 + 1) c2 = some o1 at h
  rw [F46L1] at h
  refine awp_seq (g0 [0, 1, 5, 9] [] [(0, .d (L3 l)), (1, vi p_n), (5, vi c2), (9, vb (decide (c2 < (l.length : Int))))] [] ?_)
  refine awp_cond (b := (decide (c2 < (l.length : Int)))) (by kernel_rfl) (fun hb4 => ?_) (fun hb4 => ?_)
  ·rw [if_pos hb4] at h
   refine awp_skip ?_
   show awp ..
   refine awp_seq (awp_block ?_)
   obtain ⟨x5, hx5, h⟩ := ob h
   refine gr [0, 1, 5, 17] [.no, .no, .cells (cel3 x5)] [(0, .d (L3 l)), (1, vi p_n), (5, vi c2), (17, vb (x5 == p_n))] [] [IX3 l c2 x5] (idxOk cel3_len hx5) ?_
   refine awp_cond (b := (x5 == p_n)) (by kernel_rfl) (fun hb6 => ?_) (fun hb6 => ?_)
   ·rw [if_pos hb6] at h
    refine g0 [4] [] [(4, vb true)] [] ?_
    obtain rfl := Option.some.inj h
    refine gw 0 [4] [(4, vb true)] [] ?_
    exact awp_ret (gs [] [4] OutQ.ret)
   ·rw [if_neg (ntrue hb6)] at h
    refine awp_skip ?_
    show awp ..
    refine x0 [0, 1, 5] [] [(0, .d (L3 l)), (1, vi p_n), (5, vi (w64 (c2 + 1)))] [] ?_
    exact gn 0 [0, 1, 5] (hrn3 (w64 (c2 + 1)) h)
  ·rw [if_neg (ntrue hb4)] at h
   refine awp_exit ?_
   obtain rfl := Option.some.inj h
   exact gs [] [] OutQ.norm
 ·intro e T H hq
  cases o1 with
  | inl ro1 =>
   obtain ⟨rfl, rfl, rfl⟩ := hq
   rw [outK_inl] at h
   obtain rfl := Option.some.inj h
   exact gm
  | inr so1 =>
   obtain ⟨rfl, rfl, rfl⟩ := hq
   rw [outK_inr] at h
   show awp ..
   refine g0 [4] [] [(4, vb false)] [] ?_
   obtain rfl := Option.some.inj h
   refine gw 0 [4] [(4, vb false)] [] ?_
   exact awp_ret gm
theorem ct48 {fuel : Nat}  {inks : (List Int)} {res : Int} (h : F48 fuel inks = some res) : PCall Try.prog 48 [(L3 inks)] (vi res) := by
 refine PCall.of_awp tt_ok (N := 23) Try.func48 rfl (by kernel_rfl) rfl (Nat.le_of_ble_eq_true rfl) rfl ?_
 unfold F48 at h
 refine g0 [0] [] [(0, .d (L3 inks))] [] ?_
 refine g0 [0, 3] [] [(0, .d (L3 inks)), (3, vi 0)] [] ?_
 refine awp_seq (g0 [0, 3, 4] [] [(0, .d (L3 inks)), (3, vi 0), (4, vi 0)] [] ?_)
 obtain ⟨o1, ho1, h⟩ := ob h
 refine awp_cut1 (OutQ (fun (ro1 : Int) => [(2, vi ro1)]) (fun (ro1 : Int) => []) (fun (so1 : Int) => [(3, vi so1)]) (fun (so1 : Int) => []) o1) ?_ ?_
 ·clear h
  have h := ho1
  clear ho1
  refine awp_selQ (gw 0 [0, 3, 4] [(0, .d (L3 inks)), (3, vi 0), (4, vi 0)] [] ?_)
  refine awp_block (awp_loop (n := fuel) ?_)
  refine awpN_ind (fun n (c2 : Int × Int) => F48L1 fuel inks n c2) o1 (fun (c2 : Int × Int) => [(0, .d (L3 inks)), (3, vi c2.1), (4, vi c2.2)]) (fun (c2 : Int × Int) => []) (fun _ => rfl) ?_ fuel (0, 0) h
  clear h
  intro n3 c2 h hrn3
  change F48L1 fuel inks (n3 + 1) c2 = some o1 at h
  rw [F48L1] at h
  refine awp_seq (g0 [0, 3, 4, 8] [] [(0, .d (L3 inks)), (3, vi c2.1), (4, vi c2.2), (8, vb (decide (c2.2 < (inks.length : Int))))] [] ?_)
  refine awp_cond (b := (decide (c2.2 < (inks.length : Int)))) (by kernel_rfl) (fun hb4 => ?_) (fun hb4 => ?_)
  ·rw [if_pos hb4] at h
   refine awp_skip ?_
   show awp ..
   refine awp_seq (awp_block ?_)
   obtain ⟨x5, hx5, h⟩ := ob h
   obtain ⟨x6, hx6, h⟩ := ob h
   obtain ⟨x7, hx7, h⟩ := ob h
   refine awp_sdraw tt_ok mixed (ks := [0, 3, 4, 19]) (hs := [.no, .no, .list x5.length (x5.flatMap cel3), .no, .no, .cells (cel3 x6), .no, .call [(L3 x5), (di x6)] (vb x7)]) 7 [0, 3, 4, 13, 17, 18, 19] [(0, .d (L3 inks)), (3, vi c2.1), (4, vi c2.2), (19, vb (!x7))] [] [SliceOk (inks.flatMap cel3) 1 inks.length 0 c2.2 x5.length (x5.flatMap cel3), IX3 inks c2.2 x6, PCall Try.prog 46 [(L3 x5), (di x6)] (vb x7)] (by kernel_rfl) (And.intro (sliceOk cel3_len hx5) (And.intro (idxOk cel3_len hx6) (ct46 hx7))) ?_
   refine awp_cond (b := (!x7)) (by kernel_rfl) (fun hb8 => ?_) (fun hb8 => ?_)
   ·rw [if_pos hb8] at h
    refine x0 [0, 3, 4] [] [(0, .d (L3 inks)), (3, vi (w64 (c2.1 + 1))), (4, vi c2.2)] [] ?_
    show awp ..
    refine x0 [0, 3, 4] [] [(0, .d (L3 inks)), (3, vi (w64 (c2.1 + 1))), (4, vi (w64 (c2.2 + 1)))] [] ?_
    exact gn 0 [0, 3, 4] (hrn3 ((w64 (c2.1 + 1)), (w64 (c2.2 + 1))) h)
   ·rw [if_neg (ntrue hb8)] at h
    refine awp_skip ?_
    show awp ..
    refine x0 [0, 3, 4] [] [(0, .d (L3 inks)), (3, vi c2.1), (4, vi (w64 (c2.2 + 1)))] [] ?_
    exact gn 0 [0, 3, 4] (hrn3 (c2.1, (w64 (c2.2 + 1))) h)
  ·rw [if_neg (ntrue hb4)] at h
   refine awp_exit ?_
   obtain rfl := Option.some.inj h
   exact gs [] [3] OutQ.norm
 ·intro e T H hq
  cases o1 with
  | inl ro1 =>
   obtain ⟨rfl, rfl, rfl⟩ := hq
   rw [outK_inl] at h
   obtain rfl := Option.some.inj h
   exact gm
  | inr so1 =>
   obtain ⟨rfl, rfl, rfl⟩ := hq
   rw [outK_inr] at h
   show awp ..
   refine g0 [2] [] [(2, vi so1)] [] ?_
   obtain rfl := Option.some.inj h
   refine gw 0 [2] [(2, vi so1)] [] ?_
   exact awp_ret gm
theorem ct49 {fuel : Nat}  {p_m : S_api_ClMap} {p_a : Int} {p_b : Int} {res : Bool} (h : F49 fuel p_m p_a p_b = some res) : PCall Try.prog 49 [(ma p_m), (di p_a), (di p_b)] (vb res) := by
 refine PCall.of_awp tt_ok (N := 46) Try.func49 rfl (by kernel_rfl) rfl (Nat.le_of_ble_eq_true rfl) rfl ?_
 unfold F49 at h
 refine g0 [1, 2, 3] [] [(1, vi p_a), (2, vi p_b), (3, .ref 0 0)] [mc p_m] ?_
 refine awp_seq (g0 [1, 2, 3, 11] [] [(1, vi p_a), (2, vi p_b), (3, .ref 0 0), (11, vb (p_a == p_b))] [mc p_m] ?_)
 refine awp_cond (b := (p_a == p_b)) (by kernel_rfl) (fun hb1 => ?_) (fun hb1 => ?_)
 ·rw [if_pos hb1] at h
  refine g0 [6] [] [(6, vb true)] [mc p_m] ?_
  obtain rfl := Option.some.inj h
  refine gw 1 [6] [(6, vb true)] [mc p_m] ?_
  exact awp_ret gm
 ·rw [if_neg (ntrue hb1)] at h
  refine awp_skip ?_
  show awp ..
  refine awp_seq (g0 [1, 2, 3, 7] [] [(1, vi p_a), (2, vi p_b), (3, .ref 0 0), (7, vi 0)] [mc p_m] ?_)
  obtain ⟨o2, ho2, h⟩ := ob h
  refine awp_cut1 (OutQ (fun (ro2 : Bool) => [(6, vb ro2)]) (fun (ro2 : Bool) => []) (fun (so2 : Unit) => []) (fun (so2 : Unit) => [mc p_m]) o2) ?_ ?_
  ·clear h
   have h := ho2
   clear ho2
   refine awp_selQ (gw 1 [1, 2, 3, 7] [(1, vi p_a), (2, vi p_b), (3, .ref 0 0), (7, vi 0)] [mc p_m] ?_)
   refine awp_block (awp_loop (n := fuel) ?_)
   refine awpN_ind (fun n (c3 : Int) => F49L1 p_m p_a p_b n c3) o2 (fun (c3 : Int) => [(1, vi p_a), (2, vi p_b), (3, .ref 0 0), (7, vi c3)]) (fun (c3 : Int) => [mc p_m]) (fun _ => rfl) ?_ fuel 0 h
   clear h
   intro n4 c3 h hrn4
   change F49L1 p_m p_a p_b (n4 + 1) c3 = some o2 at h
   rw [F49L1] at h
   refine awp_seq (g0 [1, 2, 3, 7, 16] [] [(1, vi p_a), (2, vi p_b), (3, .ref 0 0), (7, vi c3), (16, vb (decide (c3 < (p_m.Like.length : Int))))] [mc p_m] ?_)
   refine awp_cond (b := (decide (c3 < (p_m.Like.length : Int)))) (by kernel_rfl) (fun hb5 => ?_) (fun hb5 => ?_)
   ·rw [if_pos hb5] at h
    refine awp_skip ?_
    show awp ..
    refine awp_seq (awp_block ?_)
    obtain ⟨x6, hx6, h⟩ := ob h
    refine gr [1, 2, 3, 7, 8] [.no, .no, .no, .cells (cel51 x6)] [(1, vi p_a), (2, vi p_b), (3, .ref 0 0), (7, vi c3), (8, .ref 1 0)] [mc p_m, .cells [vi x6.A, vi x6.B]] [IX51 p_m.Like c3 x6] (idxOk cel51_len hx6) ?_
    refine gr [1, 2, 3, 7, 45] [.no, .no, .no, .no, .no, .no, .no, .no, .no, .no, .no, .no, .no, .no, .no, .no, .no, .no, .no, .no, .own] [(1, vi p_a), (2, vi p_b), (3, .ref 0 0), (7, vi c3), (45, vb (cond (cond (x6.A == p_a) (x6.B == p_b) false) true (cond (x6.A == p_b) (x6.B == p_a) false)))] [mc p_m, .cells [vi x6.A, vi x6.B]] [((x6.A == p_a) = true → (x6.A == p_a) = true), ((x6.A == p_a) = true → (x6.A == p_a) = true), ((x6.A == p_a) = true → (x6.A == p_a) = true), ((x6.A == p_a) = true → (x6.A == p_a) = true), ((!(cond (x6.A == p_a) (x6.B == p_b) false)) = true → (!(cond (x6.A == p_a) (x6.B == p_b) false)) = true), ((!(cond (x6.A == p_a) (x6.B == p_b) false)) = true → (!(cond (x6.A == p_a) (x6.B == p_b) false)) = true), ((!(cond (x6.A == p_a) (x6.B == p_b) false)) = true → (!(cond (x6.A == p_a) (x6.B == p_b) false)) = true), ((!(cond (x6.A == p_a) (x6.B == p_b) false)) = true → (!(cond (x6.A == p_a) (x6.B == p_b) false)) = true), (((!(cond (x6.A == p_a) (x6.B == p_b) false)) && (x6.A == p_b)) = true → ((!(cond (x6.A == p_a) (x6.B == p_b) false)) && (x6.A == p_b)) = true), (((!(cond (x6.A == p_a) (x6.B == p_b) false)) && (x6.A == p_b)) = true → ((!(cond (x6.A == p_a) (x6.B == p_b) false)) && (x6.A == p_b)) = true), (((!(cond (x6.A == p_a) (x6.B == p_b) false)) && (x6.A == p_b)) = true → ((!(cond (x6.A == p_a) (x6.B == p_b) false)) && (x6.A == p_b)) = true), ((!(cond (x6.A == p_a) (x6.B == p_b) false)) = true → (!(cond (x6.A == p_a) (x6.B == p_b) false)) = true), ((!(cond (x6.A == p_a) (x6.B == p_b) false)) = true → (x6.A == p_b) = true → ((!(cond (x6.A == p_a) (x6.B == p_b) false)) && (x6.A == p_b)) = true), ((cond (x6.A == p_a) (x6.B == p_b) false) = false → (!(cond (x6.A == p_a) (x6.B == p_b) false)) = true)] (And.intro (id) (And.intro (id) (And.intro (id) (And.intro (id) (And.intro (id) (And.intro (id) (And.intro (id) (And.intro (id) (And.intro (id) (And.intro (id) (And.intro (id) (And.intro (id) (And.intro ((fun hg h1 => by first | exact hg | exact h1 | (rw [hg, h1]; rfl) | (simp only [hg, h1, Bool.not_true, Bool.not_false, Bool.and_self, Bool.true_and, Bool.and_true]; done) | (simp only [Bool.and_eq_true] at hg; simp only [hg, h1, Bool.not_true, Bool.not_false, Bool.and_self, Bool.true_and, Bool.and_true]; done) | simp_all)) (not_of)))))))))))))) ?_
    refine awp_cond (b := (cond (cond (x6.A == p_a) (x6.B == p_b) false) true (cond (x6.A == p_b) (x6.B == p_a) false))) (by kernel_rfl) (fun hb7 => ?_) (fun hb7 => ?_)
    ·rw [if_pos hb7] at h
     refine g0 [6] [] [(6, vb true)] [mc p_m, .cells [vi x6.A, vi x6.B]] ?_
     obtain rfl := Option.some.inj h
     refine gw 2 [6] [(6, vb true)] [mc p_m, .cells [vi x6.A, vi x6.B]] ?_
     exact awp_ret (gs [] [6] OutQ.ret)
    ·rw [if_neg (ntrue hb7)] at h
     refine awp_skip ?_
     show awp ..
     refine x0 [1, 2, 3, 7] [] [(1, vi p_a), (2, vi p_b), (3, .ref 0 0), (7, vi (w64 (c3 + 1)))] [mc p_m, .cells [vi x6.A, vi x6.B]] ?_
     exact gn 1 [1, 2, 3, 7] (hrn4 (w64 (c3 + 1)) h)
   ·rw [if_neg (ntrue hb5)] at h
    refine awp_exit ?_
    obtain rfl := Option.some.inj h
    exact gs [0] [] OutQ.norm
  ·intro e T H hq
   cases o2 with
   | inl ro2 =>
    obtain ⟨rfl, rfl, rfl⟩ := hq
    rw [outK_inl] at h
    obtain rfl := Option.some.inj h
    exact gm
   | inr so2 =>
    obtain ⟨rfl, rfl, rfl⟩ := hq
    rw [outK_inr] at h
    show awp ..
    refine g0 [6] [] [(6, vb false)] [mc p_m] ?_
    obtain rfl := Option.some.inj h
    refine gw 1 [6] [(6, vb false)] [mc p_m] ?_
    exact awp_ret gm
end Go.Proofs.Ytpkhbbboedoldaa
