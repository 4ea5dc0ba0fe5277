/- That functions of the seat compute this. Printed by a program of mine. -/
import Derived.Test.YtpkhbbboedoldaaS
import Derived.Test.YtpkhbbboedoldaaDLB
namespace Go.Proofs.Ytpkhbbboedoldaa
open Go Go.Sx
set_option maxRecDepth 100000
set_option linter.unusedVariables false
theorem ct42 {fuel : Nat}  {legend : (List Int)} {high : Int} {res : Int} (h : F42 fuel legend high = some res) : PCall Try.prog 42 [(L3 legend), (di high)] (vi res) := by
 refine PCall.of_awp tt_ok (N := 22) Try.func42 rfl (by kernel_rfl) rfl (Nat.le_of_ble_eq_true rfl) rfl ?_
 unfold F42 at h
 refine g0 [0, 1] [] [(0, .d (L3 legend)), (1, vi high)] [] ?_
 refine g0 [0, 1, 5] [] [(0, .d (L3 legend)), (1, vi high), (5, vi 0)] [] ?_
 refine awp_seq (g0 [0, 1, 5, 6] [] [(0, .d (L3 legend)), (1, vi high), (5, vi 0), (6, vi 0)] [] ?_)
 obtain ⟨o1, ho1, h⟩ := ob h
 refine awp_cut1 (OutQ (fun (ro1 : Int) => [(4, vi ro1)]) (fun (ro1 : Int) => []) (fun (so1 : Int) => [(5, vi so1)]) (fun (so1 : Int) => []) o1) ?_ ?_
 ·clear h
  have h := ho1
  clear ho1
  refine awp_selQ (gw 0 [0, 1, 5, 6] [(0, .d (L3 legend)), (1, vi high), (5, vi 0), (6, vi 0)] [] ?_)
  refine awp_block (awp_loop (n := fuel) ?_)
  refine awpN_ind (fun n (c2 : Int × Int) => F42L1 legend high n c2) o1 (fun (c2 : Int × Int) => [(0, .d (L3 legend)), (1, vi high), (5, vi c2.1), (6, vi c2.2)]) (fun (c2 : Int × Int) => []) (fun _ => rfl) ?_ fuel (0, 0) h
  clear h
  intro n3 c2 h hrn3
  change F42L1 legend high (n3 + 1) c2 = some o1 at h
  rw [F42L1] at h
  refine awp_seq (g0 [0, 1, 5, 6, 10] [] [(0, .d (L3 legend)), (1, vi high), (5, vi c2.1), (6, vi c2.2), (10, vb (decide (c2.2 < (legend.length : Int))))] [] ?_)
  refine awp_cond (b := (decide (c2.2 < (legend.length : Int)))) (by kernel_rfl) (fun hb4 => ?_) (fun hb4 => ?_)
  ·rw [if_pos hb4] at h
   refine awp_skip ?_
   show awp ..
   refine awp_seq (awp_block ?_)
   obtain ⟨x5, hx5, h⟩ := ob h
   refine gr [0, 1, 5, 6, 18] [.no, .no, .cells (cel3 x5)] [(0, .d (L3 legend)), (1, vi high), (5, vi c2.1), (6, vi c2.2), (18, vb (decide (x5 ≤ high)))] [] [IX3 legend c2.2 x5] (idxOk cel3_len hx5) ?_
   refine awp_cond (b := (decide (x5 ≤ high))) (by kernel_rfl) (fun hb6 => ?_) (fun hb6 => ?_)
   ·rw [if_pos hb6] at h
    refine x0 [0, 1, 5, 6] [] [(0, .d (L3 legend)), (1, vi high), (5, vi (w64 (c2.1 + 1))), (6, vi c2.2)] [] ?_
    show awp ..
    refine x0 [0, 1, 5, 6] [] [(0, .d (L3 legend)), (1, vi high), (5, vi (w64 (c2.1 + 1))), (6, vi (w64 (c2.2 + 1)))] [] ?_
    exact gn 0 [0, 1, 5, 6] (hrn3 ((w64 (c2.1 + 1)), (w64 (c2.2 + 1))) h)
   ·rw [if_neg (ntrue hb6)] at h
    refine awp_skip ?_
    show awp ..
    refine x0 [0, 1, 5, 6] [] [(0, .d (L3 legend)), (1, vi high), (5, vi c2.1), (6, vi (w64 (c2.2 + 1)))] [] ?_
    exact gn 0 [0, 1, 5, 6] (hrn3 (c2.1, (w64 (c2.2 + 1))) h)
  ·rw [if_neg (ntrue hb4)] at h
   refine awp_exit ?_
   obtain rfl := Option.some.inj h
   exact gs [] [5] OutQ.norm
 ·intro e T H hq
  cases o1 with
  | inl ro1 =>
   obtain ⟨rfl, rfl, rfl⟩ := hq
   rw [outK_inl] at h
   obtain rfl := Option.some.inj h
   exact gm
  | inr so1 =>
   obtain ⟨rfl, rfl, rfl⟩ := hq
   rw [outK_inr] at h
   show awp ..
   refine g0 [4] [] [(4, vi so1)] [] ?_
   obtain rfl := Option.some.inj h
   refine gw 0 [4] [(4, vi so1)] [] ?_
   exact awp_ret gm
theorem ct45  {p_n : Int} {p_s : S_api_Span} {res : Bool} (h : F45 p_n p_s = some res) : PCall Try.prog 45 [(di p_n), (.agg [(di p_s.Lo), (di p_s.Hi)])] (vb res) := by
 refine PCall.of_awp tt_ok (N := 15) Try.func45 rfl (by kernel_rfl) rfl (Nat.le_of_ble_eq_true rfl) rfl ?_
 unfold F45 at h
 refine g0 [0, 3] [] [(0, vi p_n), (3, .ref 0 0)] [.cells [vi p_s.Lo, vi p_s.Hi]] ?_
 refine gr [4] [] [(4, vb (cond (decide (p_n ≥ p_s.Lo)) (decide (p_n ≤ p_s.Hi)) false))] [.cells [vi p_s.Lo, vi p_s.Hi]] [((decide (p_n ≥ p_s.Lo)) = true → (decide (p_n ≥ p_s.Lo)) = true), ((decide (p_n ≥ p_s.Lo)) = true → (decide (p_n ≥ p_s.Lo)) = true), ((decide (p_n ≥ p_s.Lo)) = true → (decide (p_n ≥ p_s.Lo)) = true), ((decide (p_n ≥ p_s.Lo)) = true → (decide (p_n ≥ p_s.Lo)) = true)] (And.intro (id) (And.intro (id) (And.intro (id) (id)))) ?_
 obtain rfl := Option.some.inj h
 refine gw 1 [4] [(4, vb (cond (decide (p_n ≥ p_s.Lo)) (decide (p_n ≤ p_s.Hi)) false))] [.cells [vi p_s.Lo, vi p_s.Hi]] ?_
 exact awp_ret gm
end Go.Proofs.Ytpkhbbboedoldaa
