/- That functions of the seat compute this. Printed by a program of mine. -/
import Derived.Test.YtpkhbbboedoldaaS
import Derived.Test.YtpkhbbboedoldaaDQ
namespace Go.Proofs.Ytpkhbbboedoldaa
open Go Go.Sx
set_option maxRecDepth 100000
set_option linter.unusedVariables false
theorem ct61  {p_n : Int} {low : Int} {high : Int} {res : Bool} (h : F61 p_n low high = some res) : PCall Try.prog 61 [(di p_n), (di low), (di high)] (vb res) := by
 refine PCall.of_awp tt_ok (N := 15) Try.func61 rfl (by kernel_rfl) rfl (Nat.le_of_ble_eq_true rfl) rfl ?_
 unfold F61 at h
 refine g0 [0, 1, 2] [] [(0, vi p_n), (1, vi low), (2, vi high)] [] ?_
 refine gr [6] [] [(6, vb (cond (decide (p_n ≥ low)) (decide (p_n ≤ high)) false))] [] [((decide (p_n ≥ low)) = true → (decide (p_n ≥ low)) = true), ((decide (p_n ≥ low)) = true → (decide (p_n ≥ low)) = true), ((decide (p_n ≥ low)) = true → (decide (p_n ≥ low)) = true)] (And.intro (id) (And.intro (id) (id))) ?_
 obtain rfl := Option.some.inj h
 refine gw 0 [6] [(6, vb (cond (decide (p_n ≥ low)) (decide (p_n ≤ high)) false))] [] ?_
 exact awp_ret gm
theorem ct91  {p_n : Int} {low : Int} {high : Int} {res : Bool} (h : F91 p_n low high = some res) : PCall Try.prog 91 [(di p_n), (di low), (di high)] (vb res) := by
 refine PCall.of_awp tt_ok (N := 15) Try.func91 rfl (by kernel_rfl) rfl (Nat.le_of_ble_eq_true rfl) rfl ?_
 unfold F91 at h
 refine g0 [0, 1, 2] [] [(0, vi p_n), (1, vi low), (2, vi high)] [] ?_
 refine gr [6] [] [(6, vb (cond (decide (p_n ≥ low)) (decide (p_n ≤ high)) false))] [] [((decide (p_n ≥ low)) = true → (decide (p_n ≥ low)) = true), ((decide (p_n ≥ low)) = true → (decide (p_n ≥ low)) = true), ((decide (p_n ≥ low)) = true → (decide (p_n ≥ low)) = true)] (And.intro (id) (And.intro (id) (id))) ?_
 obtain rfl := Option.some.inj h
 refine gw 0 [6] [(6, vb (cond (decide (p_n ≥ low)) (decide (p_n ≤ high)) false))] [] ?_
 exact awp_ret gm
theorem ct81 {fuel : Nat}  {l : (List S_api_Span)} {low : Int} {high : Int} {res : Int} (h : F81 fuel l low high = some res) : PCall Try.prog 81 [(L60 l), (di low), (di high)] (vi res) := by
 refine PCall.of_awp tt_ok (N := 47) Try.func81 rfl (by kernel_rfl) rfl (Nat.le_of_ble_eq_true rfl) rfl ?_
 unfold F81 at h
 refine g0 [0, 1, 2] [] [(0, .d (L60 l)), (1, vi low), (2, vi high)] [] ?_
 refine g0 [0, 1, 2, 7] [] [(0, .d (L60 l)), (1, vi low), (2, vi high), (7, vi 0)] [] ?_
 refine awp_seq (g0 [0, 1, 2, 7, 8] [] [(0, .d (L60 l)), (1, vi low), (2, vi high), (7, vi 0), (8, vi 0)] [] ?_)
 obtain ⟨o1, ho1, h⟩ := ob h
 refine awp_cut1 (OutQ (fun (ro1 : Int) => [(6, vi ro1)]) (fun (ro1 : Int) => []) (fun (so1 : Int) => [(7, vi so1)]) (fun (so1 : Int) => []) o1) ?_ ?_
 ·clear h
  have h := ho1
  clear ho1
  refine awp_selQ (gw 0 [0, 1, 2, 7, 8] [(0, .d (L60 l)), (1, vi low), (2, vi high), (7, vi 0), (8, vi 0)] [] ?_)
  refine awp_block (awp_loop (n := fuel) ?_)
  refine awpN_ind (fun n (c2 : Int × Int) => F81L1 l low high n c2) o1 (fun (c2 : Int × Int) => [(0, .d (L60 l)), (1, vi low), (2, vi high), (7, vi c2.1), (8, vi c2.2)]) (fun (c2 : Int × Int) => []) (fun _ => rfl) ?_ fuel (0, 0) h
  clear h
  intro n3 c2 h hrn3
  change F81L1 l low high (n3 + 1) c2 = some o1 at h
  rw [F81L1] at h
  refine awp_seq (g0 [0, 1, 2, 7, 8, 12] [] [(0, .d (L60 l)), (1, vi low), (2, vi high), (7, vi c2.1), (8, vi c2.2), (12, vb (decide (c2.2 < (l.length : Int))))] [] ?_)
  refine awp_cond (b := (decide (c2.2 < (l.length : Int)))) (by kernel_rfl) (fun hb4 => ?_) (fun hb4 => ?_)
  ·rw [if_pos hb4] at h
   refine awp_skip ?_
   show awp ..
   refine awp_seq (awp_block ?_)
   refine awp_seq ?_
   obtain ⟨x5, hx5, h⟩ := ob h
   obtain ⟨x6, hx6, h⟩ := ob h
   obtain ⟨x7, hx7, h⟩ := ob h
   obtain ⟨x8, hx8, h⟩ := ob h
   refine gr [0, 1, 2, 7, 8, 34] [.no, .no, .cells (cel60 x5), .no, .no, .no, .no, .call [(di x5.Lo), (di low), (di high)] (vb x6), .no, .no, .no, .no, .cells (cel60 x7), .no, .no, .no, .no, .call [(di x7.Hi), (di low), (di high)] (vb x8)] [(0, .d (L60 l)), (1, vi low), (2, vi high), (7, vi c2.1), (8, vi c2.2), (34, vb (cond (!x6) true (!x8)))] [] [IX60 l c2.2 x5, PCall Try.prog 91 [(di x5.Lo), (di low), (di high)] (vb x6), ((!(!x6)) = true → (!(!x6)) = true), ((!(!x6)) = true → (!(!x6)) = true), ((!(!x6)) = true → IX60 l c2.2 x7), ((!(!x6)) = true → (!(!x6)) = true), ((!(!x6)) = true → (!(!x6)) = true), ((!(!x6)) = true → (!(!x6)) = true), ((!(!x6)) = true → (!(!x6)) = true), ((!(!x6)) = true → (!(!x6)) = true), ((!(!x6)) = true → PCall Try.prog 91 [(di x7.Hi), (di low), (di high)] (vb x8)), ((!(!x6)) = true → (!(!x6)) = true), ((!x6) = false → (!(!x6)) = true)] (And.intro (idxOk cel60_len hx5) (And.intro (ct91 hx6) (And.intro (id) (And.intro (id) (And.intro ((fun hg => idxOk cel60_len (optG_of hx7 hg))) (And.intro (id) (And.intro (id) (And.intro (id) (And.intro (id) (And.intro (id) (And.intro ((fun hg => ct91 (optG_of hx8 hg))) (And.intro (id) (not_of))))))))))))) ?_
   refine awp_cond (b := (cond (!x6) true (!x8))) (by kernel_rfl) (fun hb9 => ?_) (fun hb9 => ?_)
   ·rw [if_pos hb9] at h
    refine g0 [6] [] [(6, vi 7)] [] ?_
    obtain rfl := Option.some.inj h
    refine gw 0 [6] [(6, vi 7)] [] ?_
    exact awp_ret (gs [] [6] OutQ.ret)
   ·rw [if_neg (ntrue hb9)] at h
    refine awp_skip ?_
    show awp ..
    obtain ⟨x10, hx10, h⟩ := ob h
    obtain ⟨x11, hx11, h⟩ := ob h
    refine awp_sdraw tt_ok mixed (ks := [0, 1, 2, 7, 8, 45]) (hs := [.no, .no, .cells (cel60 x10), .no, .no, .no, .no, .cells (cel60 x11)]) 10 [0, 1, 2, 7, 8, 39, 44, 45] [(0, .d (L60 l)), (1, vi low), (2, vi high), (7, vi c2.1), (8, vi c2.2), (45, vb (decide (x10.Lo > x11.Hi)))] [] [IX60 l c2.2 x10, IX60 l c2.2 x11] (by kernel_rfl) (And.intro (idxOk cel60_len hx10) (idxOk cel60_len hx11)) ?_
    refine awp_cond (b := (decide (x10.Lo > x11.Hi))) (by kernel_rfl) (fun hb12 => ?_) (fun hb12 => ?_)
    ·rw [if_pos hb12] at h
     refine x0 [0, 1, 2, 7, 8] [] [(0, .d (L60 l)), (1, vi low), (2, vi high), (7, vi 2), (8, vi c2.2)] [] ?_
     show awp ..
     refine x0 [0, 1, 2, 7, 8] [] [(0, .d (L60 l)), (1, vi low), (2, vi high), (7, vi 2), (8, vi (w64 (c2.2 + 1)))] [] ?_
     exact gn 0 [0, 1, 2, 7, 8] (hrn3 (2, (w64 (c2.2 + 1))) h)
    ·rw [if_neg (ntrue hb12)] at h
     refine awp_skip ?_
     show awp ..
     refine x0 [0, 1, 2, 7, 8] [] [(0, .d (L60 l)), (1, vi low), (2, vi high), (7, vi c2.1), (8, vi (w64 (c2.2 + 1)))] [] ?_
     exact gn 0 [0, 1, 2, 7, 8] (hrn3 (c2.1, (w64 (c2.2 + 1))) h)
  ·rw [if_neg (ntrue hb4)] at h
   refine awp_exit ?_
   obtain rfl := Option.some.inj h
   exact gs [] [7] OutQ.norm
 ·intro e T H hq
  cases o1 with
  | inl ro1 =>
   obtain ⟨rfl, rfl, rfl⟩ := hq
   rw [outK_inl] at h
   obtain rfl := Option.some.inj h
   exact gm
  | inr so1 =>
   obtain ⟨rfl, rfl, rfl⟩ := hq
   rw [outK_inr] at h
   show awp ..
   refine g0 [6] [] [(6, vi so1)] [] ?_
   obtain rfl := Option.some.inj h
   refine gw 0 [6] [(6, vi so1)] [] ?_
   exact awp_ret gm
theorem ct62 {fuel : Nat}  {p_s : S_api_Span} {low : Int} {high : Int} {res : Int} (h : F62 fuel p_s low high = some res) : PCall Try.prog 62 [(.agg [(di p_s.Lo), (di p_s.Hi)]), (di low), (di high)] (vi res) := by
 refine PCall.of_awp tt_ok (N := 12) Try.func62 rfl (by kernel_rfl) rfl (Nat.le_of_ble_eq_true rfl) rfl ?_
 unfold F62 at h
 refine g0 [1, 2, 3] [] [(1, vi low), (2, vi high), (3, .ref 0 0)] [.cells [vi p_s.Lo, vi p_s.Hi]] ?_
 obtain ⟨x1, hx1, h⟩ := ob h
 refine gr [6] [.no, .no, .no, .no, .call [(L60 ([p_s] : List S_api_Span)), (di low), (di high)] (vi x1)] [(6, vi x1)] [.cells [vi p_s.Lo, vi p_s.Hi]] [PCall Try.prog 81 [(L60 ([p_s] : List S_api_Span)), (di low), (di high)] (vi x1)] (ct81 hx1) ?_
 obtain rfl := Option.some.inj h
 refine gw 1 [6] [(6, vi x1)] [.cells [vi p_s.Lo, vi p_s.Hi]] ?_
 exact awp_ret gm
theorem ct63  {p : S_api_ClPair} {below : Int} {res : Int} (h : F63 p below = some res) : PCall Try.prog 63 [(.agg [(di p.A), (di p.B)]), (di below)] (vi res) := by
 refine PCall.of_awp tt_ok (N := 24) Try.func63 rfl (by kernel_rfl) rfl (Nat.le_of_ble_eq_true rfl) rfl ?_
 unfold F63 at h
 refine g0 [1, 2] [] [(1, vi below), (2, .ref 0 0)] [.cells [vi p.A, vi p.B]] ?_
 refine awp_seq ?_
 obtain ⟨x1, hx1, h⟩ := ob h
 obtain ⟨x2, hx2, h⟩ := ob h
 refine gr [2, 18] [.no, .no, .no, .no, .call [(di p.A), (di 0), (di (w64 (below - 1)))] (vb x1), .no, .no, .no, .no, .no, .no, .call [(di p.B), (di 0), (di (w64 (below - 1)))] (vb x2)] [(2, .ref 0 0), (18, vb (cond (!x1) true (!x2)))] [.cells [vi p.A, vi p.B]] [PCall Try.prog 61 [(di p.A), (di 0), (di (w64 (below - 1)))] (vb x1), ((!(!x1)) = true → (!(!x1)) = true), ((!(!x1)) = true → (!(!x1)) = true), ((!(!x1)) = true → (!(!x1)) = true), ((!(!x1)) = true → (!(!x1)) = true), ((!(!x1)) = true → PCall Try.prog 61 [(di p.B), (di 0), (di (w64 (below - 1)))] (vb x2)), ((!(!x1)) = true → (!(!x1)) = true), ((!x1) = false → (!(!x1)) = true)] (And.intro (ct61 hx1) (And.intro (id) (And.intro (id) (And.intro (id) (And.intro (id) (And.intro ((fun hg => ct61 (optG_of hx2 hg))) (And.intro (id) (not_of)))))))) ?_
 refine awp_cond (b := (cond (!x1) true (!x2))) (by kernel_rfl) (fun hb3 => ?_) (fun hb3 => ?_)
 ·rw [if_pos hb3] at h
  refine g0 [4] [] [(4, vi 4)] [.cells [vi p.A, vi p.B]] ?_
  obtain rfl := Option.some.inj h
  refine gw 1 [4] [(4, vi 4)] [.cells [vi p.A, vi p.B]] ?_
  exact awp_ret gm
 ·rw [if_neg (ntrue hb3)] at h
  refine awp_skip ?_
  show awp ..
  refine awp_seq (g0 [23] [] [(23, vb (p.A == p.B))] [.cells [vi p.A, vi p.B]] ?_)
  refine awp_cond (b := (p.A == p.B)) (by kernel_rfl) (fun hb4 => ?_) (fun hb4 => ?_)
  ·rw [if_pos hb4] at h
   refine g0 [4] [] [(4, vi 2)] [.cells [vi p.A, vi p.B]] ?_
   obtain rfl := Option.some.inj h
   refine gw 1 [4] [(4, vi 2)] [.cells [vi p.A, vi p.B]] ?_
   exact awp_ret gm
  ·rw [if_neg (ntrue hb4)] at h
   refine awp_skip ?_
   show awp ..
   refine g0 [4] [] [(4, vi 0)] [.cells [vi p.A, vi p.B]] ?_
   obtain rfl := Option.some.inj h
   refine gw 1 [4] [(4, vi 0)] [.cells [vi p.A, vi p.B]] ?_
   exact awp_ret gm
theorem ct18 {fuel : Nat}  {p_m : S_api_ClMap} {res : Int × Int × Int} (h : F18 fuel p_m = some res) : PCall Try.prog 18 [(ma p_m)] (.tup [vi res.1, vi res.2.1, vi res.2.2]) := by
 refine PCall.of_awp tt_ok (N := 138) Try.func18 rfl (by kernel_rfl) rfl (Nat.le_of_ble_eq_true rfl) rfl ?_
 unfold F18 at h
 refine g0 [1] [] [(1, .ref 0 0)] [mc p_m] ?_
 refine awp_seq ?_
 obtain ⟨x1, hx1, h⟩ := ob h
 obtain ⟨x2, hx2, h⟩ := ob h
 refine gr [1, 36] [.no, .no, .no, .call [(di (p_m.Borders.length : Int)), (di 1), (di 5)] (vb x1), .no, .no, .no, .no, .no, .call [(di (p_m.Heights.length : Int)), (di 1), (di 8)] (vb x2)] [(1, .ref 0 0), (36, vb (cond (cond (cond (!x1) true (!x2)) true (decide ((p_m.Sides.length : Int) > 10))) true (decide ((p_m.Like.length : Int) > 8))))] [mc p_m] [PCall Try.prog 61 [(di (p_m.Borders.length : Int)), (di 1), (di 5)] (vb x1), ((!(!x1)) = true → (!(!x1)) = true), ((!(!x1)) = true → (!(!x1)) = true), ((!(!x1)) = true → (!(!x1)) = true), ((!(!x1)) = true → PCall Try.prog 61 [(di (p_m.Heights.length : Int)), (di 1), (di 8)] (vb x2)), ((!(!x1)) = true → (!(!x1)) = true), ((!x1) = false → (!(!x1)) = true), ((!(cond (!x1) true (!x2))) = true → (!(cond (!x1) true (!x2))) = true), ((!(cond (!x1) true (!x2))) = true → (!(cond (!x1) true (!x2))) = true), ((!(cond (!x1) true (!x2))) = true → (!(cond (!x1) true (!x2))) = true), ((cond (!x1) true (!x2)) = false → (!(cond (!x1) true (!x2))) = true), ((!(cond (cond (!x1) true (!x2)) true (decide ((p_m.Sides.length : Int) > 10)))) = true → (!(cond (cond (!x1) true (!x2)) true (decide ((p_m.Sides.length : Int) > 10)))) = true), ((!(cond (cond (!x1) true (!x2)) true (decide ((p_m.Sides.length : Int) > 10)))) = true → (!(cond (cond (!x1) true (!x2)) true (decide ((p_m.Sides.length : Int) > 10)))) = true), ((!(cond (cond (!x1) true (!x2)) true (decide ((p_m.Sides.length : Int) > 10)))) = true → (!(cond (cond (!x1) true (!x2)) true (decide ((p_m.Sides.length : Int) > 10)))) = true), ((cond (cond (!x1) true (!x2)) true (decide ((p_m.Sides.length : Int) > 10))) = false → (!(cond (cond (!x1) true (!x2)) true (decide ((p_m.Sides.length : Int) > 10)))) = true)] (And.intro (ct61 hx1) (And.intro (id) (And.intro (id) (And.intro (id) (And.intro ((fun hg => ct61 (optG_of hx2 hg))) (And.intro (id) (And.intro (not_of) (And.intro (id) (And.intro (id) (And.intro (id) (And.intro (not_of) (And.intro (id) (And.intro (id) (And.intro (id) (not_of))))))))))))))) ?_
 refine awp_cond (b := (cond (cond (cond (!x1) true (!x2)) true (decide ((p_m.Sides.length : Int) > 10))) true (decide ((p_m.Like.length : Int) > 8)))) (by kernel_rfl) (fun hb3 => ?_) (fun hb3 => ?_)
 ·rw [if_pos hb3] at h
  refine g0 [2, 3, 4] [] [(2, vi 1), (3, vi 0), (4, vi 3)] [mc p_m] ?_
  obtain rfl := Option.some.inj h
  refine gw 1 [2, 3, 4] [(2, vi 1), (3, vi 0), (4, vi 3)] [mc p_m] ?_
  exact awp_ret gm
 ·rw [if_neg (ntrue hb3)] at h
  refine awp_skip ?_
  show awp ..
  refine awp_seq ?_
  obtain ⟨x4, hx4, h⟩ := ob h
  obtain ⟨x5, hx5, h⟩ := ob h
  refine gr [1, 46] [.no, .no, .call [(di p_m.Step), (di 1), (di 1000)] (vb x4), .no, .no, .no, .no, .call [(di p_m.Inks), (di 1), (di 6)] (vb x5)] [(1, .ref 0 0), (46, vb (cond (!x4) true (!x5)))] [mc p_m] [PCall Try.prog 61 [(di p_m.Step), (di 1), (di 1000)] (vb x4), ((!(!x4)) = true → (!(!x4)) = true), ((!(!x4)) = true → (!(!x4)) = true), ((!(!x4)) = true → PCall Try.prog 61 [(di p_m.Inks), (di 1), (di 6)] (vb x5)), ((!(!x4)) = true → (!(!x4)) = true), ((!x4) = false → (!(!x4)) = true)] (And.intro (ct61 hx4) (And.intro (id) (And.intro (id) (And.intro ((fun hg => ct61 (optG_of hx5 hg))) (And.intro (id) (not_of)))))) ?_
  refine awp_cond (b := (cond (!x4) true (!x5))) (by kernel_rfl) (fun hb6 => ?_) (fun hb6 => ?_)
  ·rw [if_pos hb6] at h
   refine g0 [2, 3, 4] [] [(2, vi 1), (3, vi 0), (4, vi 7)] [mc p_m] ?_
   obtain rfl := Option.some.inj h
   refine gw 1 [2, 3, 4] [(2, vi 1), (3, vi 0), (4, vi 7)] [mc p_m] ?_
   exact awp_ret gm
  ·rw [if_neg (ntrue hb6)] at h
   refine awp_skip ?_
   show awp ..
   refine awp_seq (g0 [1, 5] [] [(1, .ref 0 0), (5, vi 0)] [mc p_m] ?_)
   obtain ⟨o7, ho7, h⟩ := ob h
   refine awp_cut1 (OutQ (fun (ro7 : Int × Int × Int) => [(2, vi ro7.1), (3, vi ro7.2.1), (4, vi ro7.2.2)]) (fun (ro7 : Int × Int × Int) => []) (fun (so7 : Unit) => [(1, .ref 0 0)]) (fun (so7 : Unit) => [mc p_m]) o7) ?_ ?_
   ·clear h
    have h := ho7
    clear ho7
    refine awp_selQ (gw 1 [1, 5] [(1, .ref 0 0), (5, vi 0)] [mc p_m] ?_)
    refine awp_block (awp_loop (n := fuel) ?_)
    refine awpN_ind (fun n (c8 : Int) => F18L1 fuel p_m n c8) o7 (fun (c8 : Int) => [(1, .ref 0 0), (5, vi c8)]) (fun (c8 : Int) => [mc p_m]) (fun _ => rfl) ?_ fuel 0 h
    clear h
    intro n9 c8 h hrn9
    change F18L1 fuel p_m (n9 + 1) c8 = some o7 at h
    rw [F18L1] at h
    refine awp_seq (g0 [1, 5, 51] [] [(1, .ref 0 0), (5, vi c8), (51, vb (decide (c8 < (p_m.Borders.length : Int))))] [mc p_m] ?_)
    refine awp_cond (b := (decide (c8 < (p_m.Borders.length : Int)))) (by kernel_rfl) (fun hb10 => ?_) (fun hb10 => ?_)
    ·rw [if_pos hb10] at h
     refine awp_skip ?_
     show awp ..
     refine awp_seq (awp_block ?_)
     obtain ⟨x11, hx11, h⟩ := ob h
     obtain ⟨x12, hx12, h⟩ := ob h
     refine gr [1, 5, 6] [.no, .no, .no, .cells (cel60 x11), .no, .call [(.agg [(di x11.Lo), (di x11.Hi)]), (di 0), (di 9000)] (vi x12)] [(1, .ref 0 0), (5, vi c8), (6, vi x12)] [mc p_m] [IX60 p_m.Borders c8 x11, PCall Try.prog 62 [(.agg [(di x11.Lo), (di x11.Hi)]), (di 0), (di 9000)] (vi x12)] (And.intro (idxOk cel60_len hx11) (ct62 hx12)) ?_
     refine awp_seq ?_
     obtain ⟨x13, hx13, h⟩ := ob h
     obtain ⟨x14, hx14, h⟩ := ob h
     refine awp_sdraw tt_ok mixed (ks := [1, 5, 6, 77]) (hs := [.no, .no, .no, .no, .no, .no, .cells (cel60 x13), .no, .no, .no, .no, .no, .cells (cel60 x14)]) 16 [1, 5, 6, 62, 68, 75, 76, 77] [(1, .ref 0 0), (5, vi c8), (6, vi x12), (77, vb (cond (x12 == 0) (decide (x13.Hi > (w64 (x14.Lo + 20)))) false))] [mc p_m] [((x12 == 0) = true → (x12 == 0) = true), ((x12 == 0) = true → (x12 == 0) = true), ((x12 == 0) = true → (x12 == 0) = true), ((x12 == 0) = true → IX60 p_m.Borders c8 x13), ((x12 == 0) = true → (x12 == 0) = true), ((x12 == 0) = true → (x12 == 0) = true), ((x12 == 0) = true → (x12 == 0) = true), ((x12 == 0) = true → (x12 == 0) = true), ((x12 == 0) = true → (x12 == 0) = true), ((x12 == 0) = true → IX60 p_m.Borders c8 x14), ((x12 == 0) = true → (x12 == 0) = true), ((x12 == 0) = true → (x12 == 0) = true), ((x12 == 0) = true → (x12 == 0) = true), ((x12 == 0) = true → (x12 == 0) = true), ((x12 == 0) = true → (x12 == 0) = true), ((x12 == 0) = true → (x12 == 0) = true)] (by kernel_rfl) (And.intro (id) (And.intro (id) (And.intro (id) (And.intro ((fun hg => idxOk cel60_len (optG_of hx13 hg))) (And.intro (id) (And.intro (id) (And.intro (id) (And.intro (id) (And.intro (id) (And.intro ((fun hg => idxOk cel60_len (optG_of hx14 hg))) (And.intro (id) (And.intro (id) (And.intro (id) (And.intro (id) (And.intro (id) (id)))))))))))))))) ?_
     obtain ⟨o15, ho15, h⟩ := ob h
     refine awp_cut1 (OutQ (fun (ro15 : Int × Int × Int) => [(2, vi ro15.1), (3, vi ro15.2.1), (4, vi ro15.2.2)]) (fun (ro15 : Int × Int × Int) => []) (fun (so15 : Int) => [(1, .ref 0 0), (5, vi c8), (6, vi so15)]) (fun (so15 : Int) => [mc p_m]) o15) ?_ ?_
     ·clear h
      have h := ho15
      clear ho15
      refine awp_selQ (awp_cond (b := (cond (x12 == 0) (decide (x13.Hi > (w64 (x14.Lo + 20)))) false)) (by kernel_rfl) (fun hb16 => ?_) (fun hb16 => ?_))
      ·rw [if_pos hb16] at h
       refine x0 [1, 5, 6] [] [(1, .ref 0 0), (5, vi c8), (6, vi 2)] [mc p_m] ?_
       obtain rfl := Option.some.inj h
       exact gs [0] [1, 5, 6] OutQ.norm
      ·rw [if_neg (ntrue hb16)] at h
       refine awp_skip ?_
       obtain rfl := Option.some.inj h
       exact gs [0] [1, 5, 6] OutQ.norm
     ·intro e T H hq
      cases o15 with
      | inl ro15 =>
       obtain ⟨rfl, rfl, rfl⟩ := hq
       rw [outK_inl] at h
       obtain rfl := Option.some.inj h
       exact gs [] [2, 3, 4] OutQ.ret
      | inr so15 =>
       obtain ⟨rfl, rfl, rfl⟩ := hq
       rw [outK_inr] at h
       show awp ..
       refine g0 [1, 5, 6, 79] [] [(1, .ref 0 0), (5, vi c8), (6, vi so15), (79, vb (so15 != 0))] [mc p_m] ?_
       refine awp_cond (b := (so15 != 0)) (by kernel_rfl) (fun hb17 => ?_) (fun hb17 => ?_)
       ·rw [if_pos hb17] at h
        refine g0 [2, 3, 4] [] [(2, vi 2), (3, vi c8), (4, vi so15)] [mc p_m] ?_
        obtain rfl := Option.some.inj h
        refine gw 1 [2, 3, 4] [(2, vi 2), (3, vi c8), (4, vi so15)] [mc p_m] ?_
        exact awp_ret (gs [] [2, 3, 4] OutQ.ret)
       ·rw [if_neg (ntrue hb17)] at h
        refine awp_skip ?_
        show awp ..
        refine x0 [1, 5] [] [(1, .ref 0 0), (5, vi (w64 (c8 + 1)))] [mc p_m] ?_
        exact gn 1 [1, 5] (hrn9 (w64 (c8 + 1)) h)
    ·rw [if_neg (ntrue hb10)] at h
     refine awp_exit ?_
     obtain rfl := Option.some.inj h
     exact gs [0] [1] OutQ.norm
   ·intro e T H hq
    cases o7 with
    | inl ro7 =>
     obtain ⟨rfl, rfl, rfl⟩ := hq
     rw [outK_inl] at h
     obtain rfl := Option.some.inj h
     exact gm
    | inr so7 =>
     obtain ⟨rfl, rfl, rfl⟩ := hq
     rw [outK_inr] at h
     show awp ..
     refine awp_seq (g0 [1, 7] [] [(1, .ref 0 0), (7, vi 0)] [mc p_m] ?_)
     obtain ⟨o18, ho18, h⟩ := ob h
     refine awp_cut1 (OutQ (fun (ro18 : Int × Int × Int) => [(2, vi ro18.1), (3, vi ro18.2.1), (4, vi ro18.2.2)]) (fun (ro18 : Int × Int × Int) => []) (fun (so18 : Unit) => [(1, .ref 0 0)]) (fun (so18 : Unit) => [mc p_m]) o18) ?_ ?_
     ·clear h
      have h := ho18
      clear ho18
      refine awp_selQ (gw 1 [1, 7] [(1, .ref 0 0), (7, vi 0)] [mc p_m] ?_)
      refine awp_block (awp_loop (n := fuel) ?_)
      refine awpN_ind (fun n (c19 : Int) => F18L2 fuel p_m n c19) o18 (fun (c19 : Int) => [(1, .ref 0 0), (7, vi c19)]) (fun (c19 : Int) => [mc p_m]) (fun _ => rfl) ?_ fuel 0 h
      clear h
      intro n20 c19 h hrn20
      change F18L2 fuel p_m (n20 + 1) c19 = some o18 at h
      rw [F18L2] at h
      refine awp_seq (g0 [1, 7, 86] [] [(1, .ref 0 0), (7, vi c19), (86, vb (decide (c19 < (p_m.Heights.length : Int))))] [mc p_m] ?_)
      refine awp_cond (b := (decide (c19 < (p_m.Heights.length : Int)))) (by kernel_rfl) (fun hb21 => ?_) (fun hb21 => ?_)
      ·rw [if_pos hb21] at h
       refine awp_skip ?_
       show awp ..
       refine awp_seq (awp_block ?_)
       obtain ⟨x22, hx22, h⟩ := ob h
       obtain ⟨x23, hx23, h⟩ := ob h
       refine gr [1, 7, 8] [.no, .no, .no, .cells (cel60 x22), .no, .call [(.agg [(di x22.Lo), (di x22.Hi)]), (di 0), (di 9000)] (vi x23)] [(1, .ref 0 0), (7, vi c19), (8, vi x23)] [mc p_m] [IX60 p_m.Heights c19 x22, PCall Try.prog 62 [(.agg [(di x22.Lo), (di x22.Hi)]), (di 0), (di 9000)] (vi x23)] (And.intro (idxOk cel60_len hx22) (ct62 hx23)) ?_
       refine g0 [1, 7, 8, 96] [] [(1, .ref 0 0), (7, vi c19), (8, vi x23), (96, vb (x23 != 0))] [mc p_m] ?_
       refine awp_cond (b := (x23 != 0)) (by kernel_rfl) (fun hb24 => ?_) (fun hb24 => ?_)
       ·rw [if_pos hb24] at h
        refine g0 [2, 3, 4] [] [(2, vi 3), (3, vi c19), (4, vi x23)] [mc p_m] ?_
        obtain rfl := Option.some.inj h
        refine gw 1 [2, 3, 4] [(2, vi 3), (3, vi c19), (4, vi x23)] [mc p_m] ?_
        exact awp_ret (gs [] [2, 3, 4] OutQ.ret)
       ·rw [if_neg (ntrue hb24)] at h
        refine awp_skip ?_
        show awp ..
        refine x0 [1, 7] [] [(1, .ref 0 0), (7, vi (w64 (c19 + 1)))] [mc p_m] ?_
        exact gn 1 [1, 7] (hrn20 (w64 (c19 + 1)) h)
      ·rw [if_neg (ntrue hb21)] at h
       refine awp_exit ?_
       obtain rfl := Option.some.inj h
       exact gs [0] [1] OutQ.norm
     ·intro e T H hq
      cases o18 with
      | inl ro18 =>
       obtain ⟨rfl, rfl, rfl⟩ := hq
       rw [outK_inl] at h
       obtain rfl := Option.some.inj h
       exact gm
      | inr so18 =>
       obtain ⟨rfl, rfl, rfl⟩ := hq
       rw [outK_inr] at h
       show awp ..
       refine awp_seq (g0 [1, 9] [] [(1, .ref 0 0), (9, vi 0)] [mc p_m] ?_)
       obtain ⟨o25, ho25, h⟩ := ob h
       refine awp_cut1 (OutQ (fun (ro25 : Int × Int × Int) => [(2, vi ro25.1), (3, vi ro25.2.1), (4, vi ro25.2.2)]) (fun (ro25 : Int × Int × Int) => []) (fun (so25 : Unit) => [(1, .ref 0 0)]) (fun (so25 : Unit) => [mc p_m]) o25) ?_ ?_
       ·clear h
        have h := ho25
        clear ho25
        refine awp_selQ (gw 1 [1, 9] [(1, .ref 0 0), (9, vi 0)] [mc p_m] ?_)
        refine awp_block (awp_loop (n := fuel) ?_)
        refine awpN_ind (fun n (c26 : Int) => F18L3 p_m n c26) o25 (fun (c26 : Int) => [(1, .ref 0 0), (9, vi c26)]) (fun (c26 : Int) => [mc p_m]) (fun _ => rfl) ?_ fuel 0 h
        clear h
        intro n27 c26 h hrn27
        change F18L3 p_m (n27 + 1) c26 = some o25 at h
        rw [F18L3] at h
        refine awp_seq (g0 [1, 9, 103] [] [(1, .ref 0 0), (9, vi c26), (103, vb (decide (c26 < (p_m.Sides.length : Int))))] [mc p_m] ?_)
        refine awp_cond (b := (decide (c26 < (p_m.Sides.length : Int)))) (by kernel_rfl) (fun hb28 => ?_) (fun hb28 => ?_)
        ·rw [if_pos hb28] at h
         refine awp_skip ?_
         show awp ..
         refine awp_seq (awp_block ?_)
         obtain ⟨x29, hx29, h⟩ := ob h
         obtain ⟨x30, hx30, h⟩ := ob h
         refine awp_sdraw tt_ok mixed (ks := [1, 9, 10]) (hs := [.no, .no, .no, .cells (cel51 x29), .no, .no, .no, .no, .call [(.agg [(di x29.A), (di x29.B)]), (di (p_m.Heights.length : Int))] (vi x30)]) 8 [1, 9, 10, 110, 113, 114] [(1, .ref 0 0), (9, vi c26), (10, vi x30)] [mc p_m] [IX51 p_m.Sides c26 x29, PCall Try.prog 63 [(.agg [(di x29.A), (di x29.B)]), (di (p_m.Heights.length : Int))] (vi x30)] (by kernel_rfl) (And.intro (idxOk cel51_len hx29) (ct63 hx30)) ?_
         refine g0 [1, 9, 10, 116] [] [(1, .ref 0 0), (9, vi c26), (10, vi x30), (116, vb (x30 != 0))] [mc p_m] ?_
         refine awp_cond (b := (x30 != 0)) (by kernel_rfl) (fun hb31 => ?_) (fun hb31 => ?_)
         ·rw [if_pos hb31] at h
          refine g0 [2, 3, 4] [] [(2, vi 4), (3, vi c26), (4, vi x30)] [mc p_m] ?_
          obtain rfl := Option.some.inj h
          refine gw 1 [2, 3, 4] [(2, vi 4), (3, vi c26), (4, vi x30)] [mc p_m] ?_
          exact awp_ret (gs [] [2, 3, 4] OutQ.ret)
         ·rw [if_neg (ntrue hb31)] at h
          refine awp_skip ?_
          show awp ..
          refine x0 [1, 9] [] [(1, .ref 0 0), (9, vi (w64 (c26 + 1)))] [mc p_m] ?_
          exact gn 1 [1, 9] (hrn27 (w64 (c26 + 1)) h)
        ·rw [if_neg (ntrue hb28)] at h
         refine awp_exit ?_
         obtain rfl := Option.some.inj h
         exact gs [0] [1] OutQ.norm
       ·intro e T H hq
        cases o25 with
        | inl ro25 =>
         obtain ⟨rfl, rfl, rfl⟩ := hq
         rw [outK_inl] at h
         obtain rfl := Option.some.inj h
         exact gm
        | inr so25 =>
         obtain ⟨rfl, rfl, rfl⟩ := hq
         rw [outK_inr] at h
         show awp ..
         refine awp_seq (g0 [1, 11] [] [(1, .ref 0 0), (11, vi 0)] [mc p_m] ?_)
         obtain ⟨o32, ho32, h⟩ := ob h
         refine awp_cut1 (OutQ (fun (ro32 : Int × Int × Int) => [(2, vi ro32.1), (3, vi ro32.2.1), (4, vi ro32.2.2)]) (fun (ro32 : Int × Int × Int) => []) (fun (so32 : Unit) => []) (fun (so32 : Unit) => [mc p_m]) o32) ?_ ?_
         ·clear h
          have h := ho32
          clear ho32
          refine awp_selQ (gw 1 [1, 11] [(1, .ref 0 0), (11, vi 0)] [mc p_m] ?_)
          refine awp_block (awp_loop (n := fuel) ?_)
          refine awpN_ind (fun n (c33 : Int) => F18L4 p_m n c33) o32 (fun (c33 : Int) => [(1, .ref 0 0), (11, vi c33)]) (fun (c33 : Int) => [mc p_m]) (fun _ => rfl) ?_ fuel 0 h
          clear h
          intro n34 c33 h hrn34
          change F18L4 p_m (n34 + 1) c33 = some o32 at h
          rw [F18L4] at h
          refine awp_seq (g0 [1, 11, 123] [] [(1, .ref 0 0), (11, vi c33), (123, vb (decide (c33 < (p_m.Like.length : Int))))] [mc p_m] ?_)
          refine awp_cond (b := (decide (c33 < (p_m.Like.length : Int)))) (by kernel_rfl) (fun hb35 => ?_) (fun hb35 => ?_)
          ·rw [if_pos hb35] at h
           refine awp_skip ?_
           show awp ..
           refine awp_seq (awp_block ?_)
           obtain ⟨x36, hx36, h⟩ := ob h
           obtain ⟨x37, hx37, h⟩ := ob h
           refine awp_sdraw tt_ok mixed (ks := [1, 11, 12]) (hs := [.no, .no, .no, .cells (cel51 x36), .no, .no, .no, .call [(.agg [(di x36.A), (di x36.B)]), (di p_m.Inks)] (vi x37)]) 7 [1, 11, 12, 130, 132, 133] [(1, .ref 0 0), (11, vi c33), (12, vi x37)] [mc p_m] [IX51 p_m.Like c33 x36, PCall Try.prog 63 [(.agg [(di x36.A), (di x36.B)]), (di p_m.Inks)] (vi x37)] (by kernel_rfl) (And.intro (idxOk cel51_len hx36) (ct63 hx37)) ?_
           refine g0 [1, 11, 12, 135] [] [(1, .ref 0 0), (11, vi c33), (12, vi x37), (135, vb (x37 != 0))] [mc p_m] ?_
           refine awp_cond (b := (x37 != 0)) (by kernel_rfl) (fun hb38 => ?_) (fun hb38 => ?_)
           ·rw [if_pos hb38] at h
            refine g0 [2, 3, 4] [] [(2, vi 5), (3, vi c33), (4, vi x37)] [mc p_m] ?_
            obtain rfl := Option.some.inj h
            refine gw 1 [2, 3, 4] [(2, vi 5), (3, vi c33), (4, vi x37)] [mc p_m] ?_
            exact awp_ret (gs [] [2, 3, 4] OutQ.ret)
           ·rw [if_neg (ntrue hb38)] at h
            refine awp_skip ?_
            show awp ..
            refine x0 [1, 11] [] [(1, .ref 0 0), (11, vi (w64 (c33 + 1)))] [mc p_m] ?_
            exact gn 1 [1, 11] (hrn34 (w64 (c33 + 1)) h)
          ·rw [if_neg (ntrue hb35)] at h
           refine awp_exit ?_
           obtain rfl := Option.some.inj h
           exact gs [0] [] OutQ.norm
         ·intro e T H hq
          cases o32 with
          | inl ro32 =>
           obtain ⟨rfl, rfl, rfl⟩ := hq
           rw [outK_inl] at h
           obtain rfl := Option.some.inj h
           exact gm
          | inr so32 =>
           obtain ⟨rfl, rfl, rfl⟩ := hq
           rw [outK_inr] at h
           show awp ..
           refine g0 [2, 3, 4] [] [(2, vi 0), (3, vi 0), (4, vi 0)] [mc p_m] ?_
           obtain rfl := Option.some.inj h
           refine gw 1 [2, 3, 4] [(2, vi 0), (3, vi 0), (4, vi 0)] [mc p_m] ?_
           exact awp_ret gm
theorem ct20 {fuel : Nat}  {p_m : S_api_ClMap} {legend : (List Int)} {res : Int × Int} (h : F20 fuel p_m legend = some res) : PCall Try.prog 20 [(ma p_m), (L3 legend)] (.tup [vi res.1, vi res.2]) := by
 refine PCall.of_awp tt_ok (N := 72) Try.func20 rfl (by kernel_rfl) rfl (Nat.le_of_ble_eq_true rfl) rfl ?_
 unfold F20 at h
 refine g0 [1, 2] [] [(1, .d (L3 legend)), (2, .ref 0 0)] [mc p_m] ?_
 obtain ⟨x1, hx1, h⟩ := ob h
 refine gr [1, 2, 8] [.no, .call [(ma p_m)] (.tup [vi x1.1, vi x1.2.1, vi x1.2.2])] [(1, .d (L3 legend)), (2, .ref 0 0), (8, vi x1.2.2)] [mc p_m] [PCall Try.prog 18 [(ma p_m)] (.tup [vi x1.1, vi x1.2.1, vi x1.2.2])] (ct18 hx1) ?_
 refine awp_seq (gr [1, 2, 8, 25] [] [(1, .d (L3 legend)), (2, .ref 0 0), (8, vi x1.2.2), (25, vb (cond (x1.2.2 == 0) ((legend.length : Int) != (p_m.Borders.length : Int)) false))] [mc p_m] [((x1.2.2 == 0) = true → (x1.2.2 == 0) = true), ((x1.2.2 == 0) = true → (x1.2.2 == 0) = true), ((x1.2.2 == 0) = true → (x1.2.2 == 0) = true), ((x1.2.2 == 0) = true → (x1.2.2 == 0) = true), ((x1.2.2 == 0) = true → (x1.2.2 == 0) = true), ((x1.2.2 == 0) = true → (x1.2.2 == 0) = true)] (And.intro (id) (And.intro (id) (And.intro (id) (And.intro (id) (And.intro (id) (id)))))) ?_)
 obtain ⟨o2, ho2, h⟩ := ob h
 refine awp_cut1 (OutQ (fun (ro2 : Int × Int) => [(4, vi ro2.1), (5, vi ro2.2)]) (fun (ro2 : Int × Int) => []) (fun (so2 : Int) => [(1, .d (L3 legend)), (2, .ref 0 0), (8, vi so2)]) (fun (so2 : Int) => [mc p_m]) o2) ?_ ?_
 ·clear h
  have h := ho2
  clear ho2
  refine awp_selQ (awp_cond (b := (cond (x1.2.2 == 0) ((legend.length : Int) != (p_m.Borders.length : Int)) false)) (by kernel_rfl) (fun hb3 => ?_) (fun hb3 => ?_))
  ·rw [if_pos hb3] at h
   refine x0 [1, 2, 8] [] [(1, .d (L3 legend)), (2, .ref 0 0), (8, vi 3)] [mc p_m] ?_
   obtain rfl := Option.some.inj h
   exact gs [0] [1, 2, 8] OutQ.norm
  ·rw [if_neg (ntrue hb3)] at h
   refine awp_skip ?_
   obtain rfl := Option.some.inj h
   exact gs [0] [1, 2, 8] OutQ.norm
 ·intro e T H hq
  cases o2 with
  | inl ro2 =>
   obtain ⟨rfl, rfl, rfl⟩ := hq
   rw [outK_inl] at h
   obtain rfl := Option.some.inj h
   exact gm
  | inr so2 =>
   obtain ⟨rfl, rfl, rfl⟩ := hq
   rw [outK_inr] at h
   show awp ..
   refine awp_seq (g0 [1, 2, 8, 27] [] [(1, .d (L3 legend)), (2, .ref 0 0), (8, vi so2), (27, vb (so2 != 0))] [mc p_m] ?_)
   refine awp_cond (b := (so2 != 0)) (by kernel_rfl) (fun hb4 => ?_) (fun hb4 => ?_)
   ·rw [if_pos hb4] at h
    refine g0 [4, 5] [] [(4, vi 0), (5, vi so2)] [mc p_m] ?_
    obtain rfl := Option.some.inj h
    refine gw 1 [4, 5] [(4, vi 0), (5, vi so2)] [mc p_m] ?_
    exact awp_ret gm
   ·rw [if_neg (ntrue hb4)] at h
    refine awp_skip ?_
    show awp ..
    refine awp_seq (g0 [1, 2, 9] [] [(1, .d (L3 legend)), (2, .ref 0 0), (9, vi 0)] [mc p_m] ?_)
    obtain ⟨o5, ho5, h⟩ := ob h
    refine awp_cut1 (OutQ (fun (ro5 : Int × Int) => [(4, vi ro5.1), (5, vi ro5.2)]) (fun (ro5 : Int × Int) => []) (fun (so5 : Unit) => []) (fun (so5 : Unit) => [mc p_m]) o5) ?_ ?_
    ·clear h
     have h := ho5
     clear ho5
     refine awp_selQ (gw 1 [1, 2, 9] [(1, .d (L3 legend)), (2, .ref 0 0), (9, vi 0)] [mc p_m] ?_)
     refine awp_block (awp_loop (n := fuel) ?_)
     refine awpN_ind (fun n (c6 : Int) => F20L1 p_m legend n c6) o5 (fun (c6 : Int) => [(1, .d (L3 legend)), (2, .ref 0 0), (9, vi c6)]) (fun (c6 : Int) => [mc p_m]) (fun _ => rfl) ?_ fuel 0 h
     clear h
     intro n7 c6 h hrn7
     change F20L1 p_m legend (n7 + 1) c6 = some o5 at h
     rw [F20L1] at h
     refine awp_seq (g0 [1, 2, 9, 32] [] [(1, .d (L3 legend)), (2, .ref 0 0), (9, vi c6), (32, vb (decide (c6 < (legend.length : Int))))] [mc p_m] ?_)
     refine awp_cond (b := (decide (c6 < (legend.length : Int)))) (by kernel_rfl) (fun hb8 => ?_) (fun hb8 => ?_)
     ·rw [if_pos hb8] at h
      refine awp_skip ?_
      show awp ..
      refine awp_seq (awp_block ?_)
      refine awp_seq ?_
      obtain ⟨x9, hx9, h⟩ := ob h
      obtain ⟨x10, hx10, h⟩ := ob h
      obtain ⟨x11, hx11, h⟩ := ob h
      obtain ⟨x12, hx12, h⟩ := ob h
      refine awp_sdraw tt_ok mixed (ks := [1, 2, 9, 52]) (hs := [.no, .no, .cells (cel3 x9), .no, .no, .no, .no, .cells (cel60 x10), .no, .no, .no, .no, .no, .cells (cel60 x11), .no, .no, .call [(di x9), (di x10.Lo), (di x11.Hi)] (vb x12)]) 16 [1, 2, 9, 38, 44, 50, 51, 52] [(1, .d (L3 legend)), (2, .ref 0 0), (9, vi c6), (52, vb (!x12))] [mc p_m] [IX3 legend c6 x9, IX60 p_m.Borders c6 x10, IX60 p_m.Borders c6 x11, PCall Try.prog 61 [(di x9), (di x10.Lo), (di x11.Hi)] (vb x12)] (by kernel_rfl) (And.intro (idxOk cel3_len hx9) (And.intro (idxOk cel60_len hx10) (And.intro (idxOk cel60_len hx11) (ct61 hx12)))) ?_
      refine awp_cond (b := (!x12)) (by kernel_rfl) (fun hb13 => ?_) (fun hb13 => ?_)
      ·rw [if_pos hb13] at h
       refine g0 [4, 5] [] [(4, vi c6), (5, vi 7)] [mc p_m] ?_
       obtain rfl := Option.some.inj h
       refine gw 1 [4, 5] [(4, vi c6), (5, vi 7)] [mc p_m] ?_
       exact awp_ret (gs [] [4, 5] OutQ.ret)
      ·rw [if_neg (ntrue hb13)] at h
       refine awp_skip ?_
       show awp ..
       obtain ⟨x14, hx14, h⟩ := ob h
       obtain ⟨x15, hx15, h⟩ := ob h
       refine awp_sdraw tt_ok mixed (ks := [1, 2, 9, 70]) (hs := [.no, .no, .no, .no, .no, .cells (cel3 x14), .no, .no, .no, .no, .cells (cel3 x15)]) 15 [1, 2, 9, 56, 60, 68, 69, 70] [(1, .d (L3 legend)), (2, .ref 0 0), (9, vi c6), (70, vb (cond (decide (c6 > 0)) (decide (x14 < (w64 (x15 + p_m.Step)))) false))] [mc p_m] [((decide (c6 > 0)) = true → (decide (c6 > 0)) = true), ((decide (c6 > 0)) = true → (decide (c6 > 0)) = true), ((decide (c6 > 0)) = true → IX3 legend c6 x14), ((decide (c6 > 0)) = true → (decide (c6 > 0)) = true), ((decide (c6 > 0)) = true → (decide (c6 > 0)) = true), ((decide (c6 > 0)) = true → (decide (c6 > 0)) = true), ((decide (c6 > 0)) = true → (decide (c6 > 0)) = true), ((decide (c6 > 0)) = true → IX3 legend (w64 (c6 - 1)) x15), ((decide (c6 > 0)) = true → (decide (c6 > 0)) = true), ((decide (c6 > 0)) = true → (decide (c6 > 0)) = true), ((decide (c6 > 0)) = true → (decide (c6 > 0)) = true), ((decide (c6 > 0)) = true → (decide (c6 > 0)) = true), ((decide (c6 > 0)) = true → (decide (c6 > 0)) = true), ((decide (c6 > 0)) = true → (decide (c6 > 0)) = true), ((decide (c6 > 0)) = true → (decide (c6 > 0)) = true)] (by kernel_rfl) (And.intro (id) (And.intro (id) (And.intro ((fun hg => idxOk cel3_len (optG_of hx14 hg))) (And.intro (id) (And.intro (id) (And.intro (id) (And.intro (id) (And.intro ((fun hg => idxOk cel3_len (optG_of hx15 hg))) (And.intro (id) (And.intro (id) (And.intro (id) (And.intro (id) (And.intro (id) (And.intro (id) (id))))))))))))))) ?_
       refine awp_cond (b := (cond (decide (c6 > 0)) (decide (x14 < (w64 (x15 + p_m.Step)))) false)) (by kernel_rfl) (fun hb16 => ?_) (fun hb16 => ?_)
       ·rw [if_pos hb16] at h
        refine g0 [4, 5] [] [(4, vi c6), (5, vi 2)] [mc p_m] ?_
        obtain rfl := Option.some.inj h
        refine gw 1 [4, 5] [(4, vi c6), (5, vi 2)] [mc p_m] ?_
        exact awp_ret (gs [] [4, 5] OutQ.ret)
       ·rw [if_neg (ntrue hb16)] at h
        refine awp_skip ?_
        show awp ..
        refine x0 [1, 2, 9] [] [(1, .d (L3 legend)), (2, .ref 0 0), (9, vi (w64 (c6 + 1)))] [mc p_m] ?_
        exact gn 1 [1, 2, 9] (hrn7 (w64 (c6 + 1)) h)
     ·rw [if_neg (ntrue hb8)] at h
      refine awp_exit ?_
      obtain rfl := Option.some.inj h
      exact gs [0] [] OutQ.norm
    ·intro e T H hq
     cases o5 with
     | inl ro5 =>
      obtain ⟨rfl, rfl, rfl⟩ := hq
      rw [outK_inl] at h
      obtain rfl := Option.some.inj h
      exact gm
     | inr so5 =>
      obtain ⟨rfl, rfl, rfl⟩ := hq
      rw [outK_inr] at h
      show awp ..
      refine g0 [4, 5] [] [(4, vi 0), (5, vi 0)] [mc p_m] ?_
      obtain rfl := Option.some.inj h
      refine gw 1 [4, 5] [(4, vi 0), (5, vi 0)] [mc p_m] ?_
      exact awp_ret gm
end Go.Proofs.Ytpkhbbboedoldaa
