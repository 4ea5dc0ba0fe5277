/- That functions of the seat compute this. Printed by a program of mine. -/
import Derived.Test.YtpkhbbboedoldaaS
import Derived.Test.YtpkhbbboedoldaaDQ
namespace Go.Proofs.Ytpkhbbboedoldaa
open Go Go.Sx
set_option linter.unusedVariables false

set_option maxRecDepth 100000 in
theorem ct61  {p_n : Int} {low : Int} {high : Int} {res : Bool} (h : F61 p_n low high = some res) : PCall Try.prog 61 [(di p_n), (di low), (di high)] (vb res) := by
  refine PCall.of_awp tt_ok (N := 15) Try.func61 rfl (by kernel_rfl) rfl (Nat.le_of_ble_eq_true rfl) rfl ?_
  unfold F61 at h
  refine awp_sreg tt_ok (ks := [0, 1, 2]) (hs := []) [(0, vi p_n), (1, vi low), (2, vi high)] [] [] (by kernel_rfl) trivial ?_
  refine awp_sreg tt_ok (ks := [6]) (hs := []) [(6, vb (cond (decide (p_n ≥ low)) (decide (p_n ≤ high)) false))] [] [((decide (p_n ≥ low)) = true → (decide (p_n ≥ low)) = true), ((decide (p_n ≥ low)) = true → (decide (p_n ≥ low)) = true), ((decide (p_n ≥ low)) = true → (decide (p_n ≥ low)) = true)] (by kernel_rfl) (And.intro (id) (And.intro (id) (id))) ?_
  obtain rfl := Option.some.inj h
  refine awp_wk 0 [6] (by kernel_rfl) [(6, vb (cond (decide (p_n ≥ low)) (decide (p_n ≤ high)) false))] [] (by kernel_rfl) (by kernel_rfl) ?_
  exact awp_ret (main_ret (by kernel_rfl))

set_option maxRecDepth 100000 in
theorem ct91  {p_n : Int} {low : Int} {high : Int} {res : Bool} (h : F91 p_n low high = some res) : PCall Try.prog 91 [(di p_n), (di low), (di high)] (vb res) := by
  refine PCall.of_awp tt_ok (N := 15) Try.func91 rfl (by kernel_rfl) rfl (Nat.le_of_ble_eq_true rfl) rfl ?_
  unfold F91 at h
  refine awp_sreg tt_ok (ks := [0, 1, 2]) (hs := []) [(0, vi p_n), (1, vi low), (2, vi high)] [] [] (by kernel_rfl) trivial ?_
  refine awp_sreg tt_ok (ks := [6]) (hs := []) [(6, vb (cond (decide (p_n ≥ low)) (decide (p_n ≤ high)) false))] [] [((decide (p_n ≥ low)) = true → (decide (p_n ≥ low)) = true), ((decide (p_n ≥ low)) = true → (decide (p_n ≥ low)) = true), ((decide (p_n ≥ low)) = true → (decide (p_n ≥ low)) = true)] (by kernel_rfl) (And.intro (id) (And.intro (id) (id))) ?_
  obtain rfl := Option.some.inj h
  refine awp_wk 0 [6] (by kernel_rfl) [(6, vb (cond (decide (p_n ≥ low)) (decide (p_n ≤ high)) false))] [] (by kernel_rfl) (by kernel_rfl) ?_
  exact awp_ret (main_ret (by kernel_rfl))

set_option maxRecDepth 100000 in
theorem ct81 {fuel : Nat}  {l : (List S_api_Span)} {low : Int} {high : Int} {res : Int} (h : F81 fuel l low high = some res) : PCall Try.prog 81 [(L60 l), (di low), (di high)] (vi res) := by
  refine PCall.of_awp tt_ok (N := 47) Try.func81 rfl (by kernel_rfl) rfl (Nat.le_of_ble_eq_true rfl) rfl ?_
  unfold F81 at h
  refine awp_sreg tt_ok (ks := [0, 1, 2]) (hs := []) [(0, .d (L60 l)), (1, vi low), (2, vi high)] [] [] (by kernel_rfl) trivial ?_
  refine awp_sreg tt_ok (ks := [0, 1, 2, 7]) (hs := []) [(0, .d (L60 l)), (1, vi low), (2, vi high), (7, vi 0)] [] [] (by kernel_rfl) trivial ?_
  refine awp_seq ?_
  refine awp_sreg tt_ok (ks := [0, 1, 2, 7, 8]) (hs := []) [(0, .d (L60 l)), (1, vi low), (2, vi high), (7, vi 0), (8, vi 0)] [] [] (by kernel_rfl) trivial ?_
  obtain ⟨o1, ho1, h⟩ := Option.bind_eq_some_iff.1 h
  refine awp_cut1 (OutQ (fun (ro1 : Int) => [(6, vi ro1)]) (fun (ro1 : Int) => []) (fun (so1 : Int) => [(7, vi so1)]) (fun (so1 : Int) => []) o1) ?_ ?_
  · clear h
    have h := ho1
    clear ho1
    refine awp_selQ ?_
    refine awp_wk 0 [0, 1, 2, 7, 8] (by kernel_rfl) [(0, .d (L60 l)), (1, vi low), (2, vi high), (7, vi 0), (8, vi 0)] [] (by kernel_rfl) (by kernel_rfl) ?_
    refine awp_block ?_
    refine awp_loop (n := fuel) ?_
    refine awpN_ind (fun n (c2 : Int × Int) => F81L1 l low high n c2) o1 (fun (c2 : Int × Int) => [(0, .d (L60 l)), (1, vi low), (2, vi high), (7, vi c2.1), (8, vi c2.2)]) (fun (c2 : Int × Int) => []) (fun _ => rfl) ?_ fuel (0, 0) h
    clear h
    intro n3 c2 h hrn3
    change F81L1 l low high (n3 + 1) c2 = some o1 at h
    rw [F81L1] at h
    refine awp_seq ?_
    refine awp_sreg tt_ok (ks := [0, 1, 2, 7, 8, 12]) (hs := []) [(0, .d (L60 l)), (1, vi low), (2, vi high), (7, vi c2.1), (8, vi c2.2), (12, vb (decide (c2.2 < (l.length : Int))))] [] [] (by kernel_rfl) trivial ?_
    refine awp_cond (b := (decide (c2.2 < (l.length : Int)))) (by kernel_rfl) (fun hb4 => ?_) (fun hb4 => ?_)
    · rw [if_pos hb4] at h
      refine awp_skip ?_
      show awp _ _ _ _ _ _ _ _
      refine awp_seq ?_
      refine awp_block ?_
      refine awp_seq ?_
      obtain ⟨x5, hx5, h⟩ := Option.bind_eq_some_iff.1 h
      obtain ⟨x6, hx6, h⟩ := Option.bind_eq_some_iff.1 h
      obtain ⟨x7, hx7, h⟩ := Option.bind_eq_some_iff.1 h
      obtain ⟨x8, hx8, h⟩ := Option.bind_eq_some_iff.1 h
      refine awp_sreg tt_ok (ks := [0, 1, 2, 7, 8, 34]) (hs := [.no, .no, .cells (cel60 x5), .no, .no, .no, .no, .call [(di x5.Lo), (di low), (di high)] (vb x6), .no, .no, .no, .no, .cells (cel60 x7), .no, .no, .no, .no, .call [(di x7.Hi), (di low), (di high)] (vb x8)]) [(0, .d (L60 l)), (1, vi low), (2, vi high), (7, vi c2.1), (8, vi c2.2), (34, vb (cond (!x6) true (!x8)))] [] [IX60 l c2.2 x5, PCall Try.prog 91 [(di x5.Lo), (di low), (di high)] (vb x6), ((!(!x6)) = true → (!(!x6)) = true), ((!(!x6)) = true → (!(!x6)) = true), ((!(!x6)) = true → IX60 l c2.2 x7), ((!(!x6)) = true → (!(!x6)) = true), ((!(!x6)) = true → (!(!x6)) = true), ((!(!x6)) = true → (!(!x6)) = true), ((!(!x6)) = true → (!(!x6)) = true), ((!(!x6)) = true → (!(!x6)) = true), ((!(!x6)) = true → PCall Try.prog 91 [(di x7.Hi), (di low), (di high)] (vb x8)), ((!(!x6)) = true → (!(!x6)) = true), ((!x6) = false → (!(!x6)) = true)] (by kernel_rfl) (And.intro (idxOk cel60_len hx5) (And.intro (ct91 hx6) (And.intro (id) (And.intro (id) (And.intro ((fun hg => idxOk cel60_len (optG_of hx7 hg))) (And.intro (id) (And.intro (id) (And.intro (id) (And.intro (id) (And.intro (id) (And.intro ((fun hg => ct91 (optG_of hx8 hg))) (And.intro (id) (not_of))))))))))))) ?_
      refine awp_cond (b := (cond (!x6) true (!x8))) (by kernel_rfl) (fun hb9 => ?_) (fun hb9 => ?_)
      · rw [if_pos hb9] at h
        refine awp_sreg tt_ok (ks := [6]) (hs := []) [(6, vi 7)] [] [] (by kernel_rfl) trivial ?_
        obtain rfl := Option.some.inj h
        refine awp_wk 0 [6] (by kernel_rfl) [(6, vi 7)] [] (by kernel_rfl) (by kernel_rfl) ?_
        exact awp_ret (Sel.mk [] [6] (by kernel_rfl) (by kernel_rfl) (by kernel_rfl) OutQ.ret)
      · rw [if_neg (ntrue hb9)] at h
        refine awp_skip ?_
        show awp _ _ _ _ _ _ _ _
        obtain ⟨x10, hx10, h⟩ := Option.bind_eq_some_iff.1 h
        obtain ⟨x11, hx11, h⟩ := Option.bind_eq_some_iff.1 h
        refine awp_sdraw tt_ok mixed (ks := [0, 1, 2, 7, 8, 45]) (hs := [.no, .no, .cells (cel60 x10), .no, .no, .no, .no, .cells (cel60 x11)]) 10 [0, 1, 2, 7, 8, 39, 44, 45] [(0, .d (L60 l)), (1, vi low), (2, vi high), (7, vi c2.1), (8, vi c2.2), (45, vb (decide (x10.Lo > x11.Hi)))] [] [IX60 l c2.2 x10, IX60 l c2.2 x11] (by kernel_rfl) (And.intro (idxOk cel60_len hx10) (idxOk cel60_len hx11)) ?_
        refine awp_cond (b := (decide (x10.Lo > x11.Hi))) (by kernel_rfl) (fun hb12 => ?_) (fun hb12 => ?_)
        · rw [if_pos hb12] at h
          refine awp_region (T' := [(0, .d (L60 l)), (1, vi low), (2, vi high), (7, vi 2), (8, vi c2.2)]) (H' := []) (ps := []) tt_ok (ks := [0, 1, 2, 7, 8]) (hs := []) (by kernel_rfl) trivial ?_
          show awp _ _ _ _ _ _ _ _
          refine awp_region (T' := [(0, .d (L60 l)), (1, vi low), (2, vi high), (7, vi 2), (8, vi (w64 (c2.2 + 1)))]) (H' := []) (ps := []) tt_ok (ks := [0, 1, 2, 7, 8]) (hs := []) (by kernel_rfl) trivial ?_
          exact awpN_wk 0 [0, 1, 2, 7, 8] (by kernel_rfl) _ _ (by kernel_rfl) (by kernel_rfl) (hrn3 (2, (w64 (c2.2 + 1))) h)
        · rw [if_neg (ntrue hb12)] at h
          refine awp_skip ?_
          show awp _ _ _ _ _ _ _ _
          refine awp_region (T' := [(0, .d (L60 l)), (1, vi low), (2, vi high), (7, vi c2.1), (8, vi (w64 (c2.2 + 1)))]) (H' := []) (ps := []) tt_ok (ks := [0, 1, 2, 7, 8]) (hs := []) (by kernel_rfl) trivial ?_
          exact awpN_wk 0 [0, 1, 2, 7, 8] (by kernel_rfl) _ _ (by kernel_rfl) (by kernel_rfl) (hrn3 (c2.1, (w64 (c2.2 + 1))) h)
    · rw [if_neg (ntrue hb4)] at h
      refine awp_exit ?_
      obtain rfl := Option.some.inj h
      exact Sel.mk [] [7] (by kernel_rfl) (by kernel_rfl) (by kernel_rfl) OutQ.norm
  · intro e T H hq
    cases o1 with
    | inl ro1 =>
      obtain ⟨rfl, rfl, rfl⟩ := hq
      rw [outK_inl] at h
      obtain rfl := Option.some.inj h
      exact main_ret (by kernel_rfl)
    | inr so1 =>
      obtain ⟨rfl, rfl, rfl⟩ := hq
      rw [outK_inr] at h
      show awp _ _ _ _ _ _ _ _
      refine awp_sreg tt_ok (ks := [6]) (hs := []) [(6, vi so1)] [] [] (by kernel_rfl) trivial ?_
      obtain rfl := Option.some.inj h
      refine awp_wk 0 [6] (by kernel_rfl) [(6, vi so1)] [] (by kernel_rfl) (by kernel_rfl) ?_
      exact awp_ret (main_ret (by kernel_rfl))

set_option maxRecDepth 100000 in
theorem ct62 {fuel : Nat}  {p_s : S_api_Span} {low : Int} {high : Int} {res : Int} (h : F62 fuel p_s low high = some res) : PCall Try.prog 62 [(.agg [(di p_s.Lo), (di p_s.Hi)]), (di low), (di high)] (vi res) := by
  refine PCall.of_awp tt_ok (N := 12) Try.func62 rfl (by kernel_rfl) rfl (Nat.le_of_ble_eq_true rfl) rfl ?_
  unfold F62 at h
  refine awp_sreg tt_ok (ks := [1, 2, 3]) (hs := []) [(1, vi low), (2, vi high), (3, .ref 0 0)] [.cells [vi p_s.Lo, vi p_s.Hi]] [] (by kernel_rfl) trivial ?_
  obtain ⟨x1, hx1, h⟩ := Option.bind_eq_some_iff.1 h
  refine awp_sreg tt_ok (ks := [6]) (hs := [.no, .no, .no, .no, .call [(L60 ([p_s] : List S_api_Span)), (di low), (di high)] (vi x1)]) [(6, vi x1)] [.cells [vi p_s.Lo, vi p_s.Hi]] [PCall Try.prog 81 [(L60 ([p_s] : List S_api_Span)), (di low), (di high)] (vi x1)] (by kernel_rfl) (ct81 hx1) ?_
  obtain rfl := Option.some.inj h
  refine awp_wk 1 [6] (by kernel_rfl) [(6, vi x1)] [.cells [vi p_s.Lo, vi p_s.Hi]] (by kernel_rfl) (by kernel_rfl) ?_
  exact awp_ret (main_ret (by kernel_rfl))

set_option maxRecDepth 100000 in
theorem ct63  {p : S_api_ClPair} {below : Int} {res : Int} (h : F63 p below = some res) : PCall Try.prog 63 [(.agg [(di p.A), (di p.B)]), (di below)] (vi res) := by
  refine PCall.of_awp tt_ok (N := 24) Try.func63 rfl (by kernel_rfl) rfl (Nat.le_of_ble_eq_true rfl) rfl ?_
  unfold F63 at h
  refine awp_sreg tt_ok (ks := [1, 2]) (hs := []) [(1, vi below), (2, .ref 0 0)] [.cells [vi p.A, vi p.B]] [] (by kernel_rfl) trivial ?_
  refine awp_seq ?_
  obtain ⟨x1, hx1, h⟩ := Option.bind_eq_some_iff.1 h
  obtain ⟨x2, hx2, h⟩ := Option.bind_eq_some_iff.1 h
  refine awp_sreg tt_ok (ks := [2, 18]) (hs := [.no, .no, .no, .no, .call [(di p.A), (di 0), (di (w64 (below - 1)))] (vb x1), .no, .no, .no, .no, .no, .no, .call [(di p.B), (di 0), (di (w64 (below - 1)))] (vb x2)]) [(2, .ref 0 0), (18, vb (cond (!x1) true (!x2)))] [.cells [vi p.A, vi p.B]] [PCall Try.prog 61 [(di p.A), (di 0), (di (w64 (below - 1)))] (vb x1), ((!(!x1)) = true → (!(!x1)) = true), ((!(!x1)) = true → (!(!x1)) = true), ((!(!x1)) = true → (!(!x1)) = true), ((!(!x1)) = true → (!(!x1)) = true), ((!(!x1)) = true → PCall Try.prog 61 [(di p.B), (di 0), (di (w64 (below - 1)))] (vb x2)), ((!(!x1)) = true → (!(!x1)) = true), ((!x1) = false → (!(!x1)) = true)] (by kernel_rfl) (And.intro (ct61 hx1) (And.intro (id) (And.intro (id) (And.intro (id) (And.intro (id) (And.intro ((fun hg => ct61 (optG_of hx2 hg))) (And.intro (id) (not_of)))))))) ?_
  refine awp_cond (b := (cond (!x1) true (!x2))) (by kernel_rfl) (fun hb3 => ?_) (fun hb3 => ?_)
  · rw [if_pos hb3] at h
    refine awp_sreg tt_ok (ks := [4]) (hs := []) [(4, vi 4)] [.cells [vi p.A, vi p.B]] [] (by kernel_rfl) trivial ?_
    obtain rfl := Option.some.inj h
    refine awp_wk 1 [4] (by kernel_rfl) [(4, vi 4)] [.cells [vi p.A, vi p.B]] (by kernel_rfl) (by kernel_rfl) ?_
    exact awp_ret (main_ret (by kernel_rfl))
  · rw [if_neg (ntrue hb3)] at h
    refine awp_skip ?_
    show awp _ _ _ _ _ _ _ _
    refine awp_seq ?_
    refine awp_sreg tt_ok (ks := [23]) (hs := []) [(23, vb (p.A == p.B))] [.cells [vi p.A, vi p.B]] [] (by kernel_rfl) trivial ?_
    refine awp_cond (b := (p.A == p.B)) (by kernel_rfl) (fun hb4 => ?_) (fun hb4 => ?_)
    · rw [if_pos hb4] at h
      refine awp_sreg tt_ok (ks := [4]) (hs := []) [(4, vi 2)] [.cells [vi p.A, vi p.B]] [] (by kernel_rfl) trivial ?_
      obtain rfl := Option.some.inj h
      refine awp_wk 1 [4] (by kernel_rfl) [(4, vi 2)] [.cells [vi p.A, vi p.B]] (by kernel_rfl) (by kernel_rfl) ?_
      exact awp_ret (main_ret (by kernel_rfl))
    · rw [if_neg (ntrue hb4)] at h
      refine awp_skip ?_
      show awp _ _ _ _ _ _ _ _
      refine awp_sreg tt_ok (ks := [4]) (hs := []) [(4, vi 0)] [.cells [vi p.A, vi p.B]] [] (by kernel_rfl) trivial ?_
      obtain rfl := Option.some.inj h
      refine awp_wk 1 [4] (by kernel_rfl) [(4, vi 0)] [.cells [vi p.A, vi p.B]] (by kernel_rfl) (by kernel_rfl) ?_
      exact awp_ret (main_ret (by kernel_rfl))

set_option maxRecDepth 100000 in
theorem ct18 {fuel : Nat}  {p_m : S_api_ClMap} {res : Int × Int × Int} (h : F18 fuel p_m = some res) : PCall Try.prog 18 [(.agg [(L60 p_m.Borders), (di p_m.Step), (L60 p_m.Heights), (L51 p_m.Sides), (di p_m.Inks), (L51 p_m.Like)])] (.tup [vi res.1, vi res.2.1, vi res.2.2]) := by
  refine PCall.of_awp tt_ok (N := 138) Try.func18 rfl (by kernel_rfl) rfl (Nat.le_of_ble_eq_true rfl) rfl ?_
  unfold F18 at h
  refine awp_sreg tt_ok (ks := [1]) (hs := []) [(1, .ref 0 0)] [.cells [.d (L60 p_m.Borders), vi p_m.Step, .d (L60 p_m.Heights), .d (L51 p_m.Sides), vi p_m.Inks, .d (L51 p_m.Like)]] [] (by kernel_rfl) trivial ?_
  refine awp_seq ?_
  obtain ⟨x1, hx1, h⟩ := Option.bind_eq_some_iff.1 h
  obtain ⟨x2, hx2, h⟩ := Option.bind_eq_some_iff.1 h
  refine awp_sreg tt_ok (ks := [1, 36]) (hs := [.no, .no, .no, .call [(di (p_m.Borders.length : Int)), (di 1), (di 5)] (vb x1), .no, .no, .no, .no, .no, .call [(di (p_m.Heights.length : Int)), (di 1), (di 8)] (vb x2)]) [(1, .ref 0 0), (36, vb (cond (cond (cond (!x1) true (!x2)) true (decide ((p_m.Sides.length : Int) > 10))) true (decide ((p_m.Like.length : Int) > 8))))] [.cells [.d (L60 p_m.Borders), vi p_m.Step, .d (L60 p_m.Heights), .d (L51 p_m.Sides), vi p_m.Inks, .d (L51 p_m.Like)]] [PCall Try.prog 61 [(di (p_m.Borders.length : Int)), (di 1), (di 5)] (vb x1), ((!(!x1)) = true → (!(!x1)) = true), ((!(!x1)) = true → (!(!x1)) = true), ((!(!x1)) = true → (!(!x1)) = true), ((!(!x1)) = true → PCall Try.prog 61 [(di (p_m.Heights.length : Int)), (di 1), (di 8)] (vb x2)), ((!(!x1)) = true → (!(!x1)) = true), ((!x1) = false → (!(!x1)) = true), ((!(cond (!x1) true (!x2))) = true → (!(cond (!x1) true (!x2))) = true), ((!(cond (!x1) true (!x2))) = true → (!(cond (!x1) true (!x2))) = true), ((!(cond (!x1) true (!x2))) = true → (!(cond (!x1) true (!x2))) = true), ((cond (!x1) true (!x2)) = false → (!(cond (!x1) true (!x2))) = true), ((!(cond (cond (!x1) true (!x2)) true (decide ((p_m.Sides.length : Int) > 10)))) = true → (!(cond (cond (!x1) true (!x2)) true (decide ((p_m.Sides.length : Int) > 10)))) = true), ((!(cond (cond (!x1) true (!x2)) true (decide ((p_m.Sides.length : Int) > 10)))) = true → (!(cond (cond (!x1) true (!x2)) true (decide ((p_m.Sides.length : Int) > 10)))) = true), ((!(cond (cond (!x1) true (!x2)) true (decide ((p_m.Sides.length : Int) > 10)))) = true → (!(cond (cond (!x1) true (!x2)) true (decide ((p_m.Sides.length : Int) > 10)))) = true), ((cond (cond (!x1) true (!x2)) true (decide ((p_m.Sides.length : Int) > 10))) = false → (!(cond (cond (!x1) true (!x2)) true (decide ((p_m.Sides.length : Int) > 10)))) = true)] (by kernel_rfl) (And.intro (ct61 hx1) (And.intro (id) (And.intro (id) (And.intro (id) (And.intro ((fun hg => ct61 (optG_of hx2 hg))) (And.intro (id) (And.intro (not_of) (And.intro (id) (And.intro (id) (And.intro (id) (And.intro (not_of) (And.intro (id) (And.intro (id) (And.intro (id) (not_of))))))))))))))) ?_
  refine awp_cond (b := (cond (cond (cond (!x1) true (!x2)) true (decide ((p_m.Sides.length : Int) > 10))) true (decide ((p_m.Like.length : Int) > 8)))) (by kernel_rfl) (fun hb3 => ?_) (fun hb3 => ?_)
  · rw [if_pos hb3] at h
    refine awp_sreg tt_ok (ks := [2, 3, 4]) (hs := []) [(2, vi 1), (3, vi 0), (4, vi 3)] [.cells [.d (L60 p_m.Borders), vi p_m.Step, .d (L60 p_m.Heights), .d (L51 p_m.Sides), vi p_m.Inks, .d (L51 p_m.Like)]] [] (by kernel_rfl) trivial ?_
    obtain rfl := Option.some.inj h
    refine awp_wk 1 [2, 3, 4] (by kernel_rfl) [(2, vi 1), (3, vi 0), (4, vi 3)] [.cells [.d (L60 p_m.Borders), vi p_m.Step, .d (L60 p_m.Heights), .d (L51 p_m.Sides), vi p_m.Inks, .d (L51 p_m.Like)]] (by kernel_rfl) (by kernel_rfl) ?_
    exact awp_ret (main_ret (by kernel_rfl))
  · rw [if_neg (ntrue hb3)] at h
    refine awp_skip ?_
    show awp _ _ _ _ _ _ _ _
    refine awp_seq ?_
    obtain ⟨x4, hx4, h⟩ := Option.bind_eq_some_iff.1 h
    obtain ⟨x5, hx5, h⟩ := Option.bind_eq_some_iff.1 h
    refine awp_sreg tt_ok (ks := [1, 46]) (hs := [.no, .no, .call [(di p_m.Step), (di 1), (di 1000)] (vb x4), .no, .no, .no, .no, .call [(di p_m.Inks), (di 1), (di 6)] (vb x5)]) [(1, .ref 0 0), (46, vb (cond (!x4) true (!x5)))] [.cells [.d (L60 p_m.Borders), vi p_m.Step, .d (L60 p_m.Heights), .d (L51 p_m.Sides), vi p_m.Inks, .d (L51 p_m.Like)]] [PCall Try.prog 61 [(di p_m.Step), (di 1), (di 1000)] (vb x4), ((!(!x4)) = true → (!(!x4)) = true), ((!(!x4)) = true → (!(!x4)) = true), ((!(!x4)) = true → PCall Try.prog 61 [(di p_m.Inks), (di 1), (di 6)] (vb x5)), ((!(!x4)) = true → (!(!x4)) = true), ((!x4) = false → (!(!x4)) = true)] (by kernel_rfl) (And.intro (ct61 hx4) (And.intro (id) (And.intro (id) (And.intro ((fun hg => ct61 (optG_of hx5 hg))) (And.intro (id) (not_of)))))) ?_
    refine awp_cond (b := (cond (!x4) true (!x5))) (by kernel_rfl) (fun hb6 => ?_) (fun hb6 => ?_)
    · rw [if_pos hb6] at h
      refine awp_sreg tt_ok (ks := [2, 3, 4]) (hs := []) [(2, vi 1), (3, vi 0), (4, vi 7)] [.cells [.d (L60 p_m.Borders), vi p_m.Step, .d (L60 p_m.Heights), .d (L51 p_m.Sides), vi p_m.Inks, .d (L51 p_m.Like)]] [] (by kernel_rfl) trivial ?_
      obtain rfl := Option.some.inj h
      refine awp_wk 1 [2, 3, 4] (by kernel_rfl) [(2, vi 1), (3, vi 0), (4, vi 7)] [.cells [.d (L60 p_m.Borders), vi p_m.Step, .d (L60 p_m.Heights), .d (L51 p_m.Sides), vi p_m.Inks, .d (L51 p_m.Like)]] (by kernel_rfl) (by kernel_rfl) ?_
      exact awp_ret (main_ret (by kernel_rfl))
    · rw [if_neg (ntrue hb6)] at h
      refine awp_skip ?_
      show awp _ _ _ _ _ _ _ _
      refine awp_seq ?_
      refine awp_sreg tt_ok (ks := [1, 5]) (hs := []) [(1, .ref 0 0), (5, vi 0)] [.cells [.d (L60 p_m.Borders), vi p_m.Step, .d (L60 p_m.Heights), .d (L51 p_m.Sides), vi p_m.Inks, .d (L51 p_m.Like)]] [] (by kernel_rfl) trivial ?_
      obtain ⟨o7, ho7, h⟩ := Option.bind_eq_some_iff.1 h
      refine awp_cut1 (OutQ (fun (ro7 : Int × Int × Int) => [(2, vi ro7.1), (3, vi ro7.2.1), (4, vi ro7.2.2)]) (fun (ro7 : Int × Int × Int) => []) (fun (so7 : Unit) => [(1, .ref 0 0)]) (fun (so7 : Unit) => [.cells [.d (L60 p_m.Borders), vi p_m.Step, .d (L60 p_m.Heights), .d (L51 p_m.Sides), vi p_m.Inks, .d (L51 p_m.Like)]]) o7) ?_ ?_
      · clear h
        have h := ho7
        clear ho7
        refine awp_selQ ?_
        refine awp_wk 1 [1, 5] (by kernel_rfl) [(1, .ref 0 0), (5, vi 0)] [.cells [.d (L60 p_m.Borders), vi p_m.Step, .d (L60 p_m.Heights), .d (L51 p_m.Sides), vi p_m.Inks, .d (L51 p_m.Like)]] (by kernel_rfl) (by kernel_rfl) ?_
        refine awp_block ?_
        refine awp_loop (n := fuel) ?_
        refine awpN_ind (fun n (c8 : Int) => F18L1 fuel p_m n c8) o7 (fun (c8 : Int) => [(1, .ref 0 0), (5, vi c8)]) (fun (c8 : Int) => [.cells [.d (L60 p_m.Borders), vi p_m.Step, .d (L60 p_m.Heights), .d (L51 p_m.Sides), vi p_m.Inks, .d (L51 p_m.Like)]]) (fun _ => rfl) ?_ fuel 0 h
        clear h
        intro n9 c8 h hrn9
        change F18L1 fuel p_m (n9 + 1) c8 = some o7 at h
        rw [F18L1] at h
        refine awp_seq ?_
        refine awp_sreg tt_ok (ks := [1, 5, 51]) (hs := []) [(1, .ref 0 0), (5, vi c8), (51, vb (decide (c8 < (p_m.Borders.length : Int))))] [.cells [.d (L60 p_m.Borders), vi p_m.Step, .d (L60 p_m.Heights), .d (L51 p_m.Sides), vi p_m.Inks, .d (L51 p_m.Like)]] [] (by kernel_rfl) trivial ?_
        refine awp_cond (b := (decide (c8 < (p_m.Borders.length : Int)))) (by kernel_rfl) (fun hb10 => ?_) (fun hb10 => ?_)
        · rw [if_pos hb10] at h
          refine awp_skip ?_
          show awp _ _ _ _ _ _ _ _
          refine awp_seq ?_
          refine awp_block ?_
          obtain ⟨x11, hx11, h⟩ := Option.bind_eq_some_iff.1 h
          obtain ⟨x12, hx12, h⟩ := Option.bind_eq_some_iff.1 h
          refine awp_sreg tt_ok (ks := [1, 5, 6]) (hs := [.no, .no, .no, .cells (cel60 x11), .no, .call [(.agg [(di x11.Lo), (di x11.Hi)]), (di 0), (di 9000)] (vi x12)]) [(1, .ref 0 0), (5, vi c8), (6, vi x12)] [.cells [.d (L60 p_m.Borders), vi p_m.Step, .d (L60 p_m.Heights), .d (L51 p_m.Sides), vi p_m.Inks, .d (L51 p_m.Like)]] [IX60 p_m.Borders c8 x11, PCall Try.prog 62 [(.agg [(di x11.Lo), (di x11.Hi)]), (di 0), (di 9000)] (vi x12)] (by kernel_rfl) (And.intro (idxOk cel60_len hx11) (ct62 hx12)) ?_
          refine awp_seq ?_
          obtain ⟨x13, hx13, h⟩ := Option.bind_eq_some_iff.1 h
          obtain ⟨x14, hx14, h⟩ := Option.bind_eq_some_iff.1 h
          refine awp_sdraw tt_ok mixed (ks := [1, 5, 6, 77]) (hs := [.no, .no, .no, .no, .no, .no, .cells (cel60 x13), .no, .no, .no, .no, .no, .cells (cel60 x14)]) 16 [1, 5, 6, 62, 68, 75, 76, 77] [(1, .ref 0 0), (5, vi c8), (6, vi x12), (77, vb (cond (x12 == 0) (decide (x13.Hi > (w64 (x14.Lo + 20)))) false))] [.cells [.d (L60 p_m.Borders), vi p_m.Step, .d (L60 p_m.Heights), .d (L51 p_m.Sides), vi p_m.Inks, .d (L51 p_m.Like)]] [((x12 == 0) = true → (x12 == 0) = true), ((x12 == 0) = true → (x12 == 0) = true), ((x12 == 0) = true → (x12 == 0) = true), ((x12 == 0) = true → IX60 p_m.Borders c8 x13), ((x12 == 0) = true → (x12 == 0) = true), ((x12 == 0) = true → (x12 == 0) = true), ((x12 == 0) = true → (x12 == 0) = true), ((x12 == 0) = true → (x12 == 0) = true), ((x12 == 0) = true → (x12 == 0) = true), ((x12 == 0) = true → IX60 p_m.Borders c8 x14), ((x12 == 0) = true → (x12 == 0) = true), ((x12 == 0) = true → (x12 == 0) = true), ((x12 == 0) = true → (x12 == 0) = true), ((x12 == 0) = true → (x12 == 0) = true), ((x12 == 0) = true → (x12 == 0) = true), ((x12 == 0) = true → (x12 == 0) = true)] (by kernel_rfl) (And.intro (id) (And.intro (id) (And.intro (id) (And.intro ((fun hg => idxOk cel60_len (optG_of hx13 hg))) (And.intro (id) (And.intro (id) (And.intro (id) (And.intro (id) (And.intro (id) (And.intro ((fun hg => idxOk cel60_len (optG_of hx14 hg))) (And.intro (id) (And.intro (id) (And.intro (id) (And.intro (id) (And.intro (id) (id)))))))))))))))) ?_
          obtain ⟨o15, ho15, h⟩ := Option.bind_eq_some_iff.1 h
          refine awp_cut1 (OutQ (fun (ro15 : Int × Int × Int) => [(2, vi ro15.1), (3, vi ro15.2.1), (4, vi ro15.2.2)]) (fun (ro15 : Int × Int × Int) => []) (fun (so15 : Int) => [(1, .ref 0 0), (5, vi c8), (6, vi so15)]) (fun (so15 : Int) => [.cells [.d (L60 p_m.Borders), vi p_m.Step, .d (L60 p_m.Heights), .d (L51 p_m.Sides), vi p_m.Inks, .d (L51 p_m.Like)]]) o15) ?_ ?_
          · clear h
            have h := ho15
            clear ho15
            refine awp_selQ ?_
            refine awp_cond (b := (cond (x12 == 0) (decide (x13.Hi > (w64 (x14.Lo + 20)))) false)) (by kernel_rfl) (fun hb16 => ?_) (fun hb16 => ?_)
            · rw [if_pos hb16] at h
              refine awp_region (T' := [(1, .ref 0 0), (5, vi c8), (6, vi 2)]) (H' := [.cells [.d (L60 p_m.Borders), vi p_m.Step, .d (L60 p_m.Heights), .d (L51 p_m.Sides), vi p_m.Inks, .d (L51 p_m.Like)]]) (ps := []) tt_ok (ks := [1, 5, 6]) (hs := []) (by kernel_rfl) trivial ?_
              obtain rfl := Option.some.inj h
              exact Sel.mk [0] [1, 5, 6] (by kernel_rfl) (by kernel_rfl) (by kernel_rfl) OutQ.norm
            · rw [if_neg (ntrue hb16)] at h
              refine awp_skip ?_
              obtain rfl := Option.some.inj h
              exact Sel.mk [0] [1, 5, 6] (by kernel_rfl) (by kernel_rfl) (by kernel_rfl) OutQ.norm
          · intro e T H hq
            cases o15 with
            | inl ro15 =>
              obtain ⟨rfl, rfl, rfl⟩ := hq
              rw [outK_inl] at h
              obtain rfl := Option.some.inj h
              exact Sel.mk [] [2, 3, 4] (by kernel_rfl) (by kernel_rfl) (by kernel_rfl) OutQ.ret
            | inr so15 =>
              obtain ⟨rfl, rfl, rfl⟩ := hq
              rw [outK_inr] at h
              show awp _ _ _ _ _ _ _ _
              refine awp_sreg tt_ok (ks := [1, 5, 6, 79]) (hs := []) [(1, .ref 0 0), (5, vi c8), (6, vi so15), (79, vb (so15 != 0))] [.cells [.d (L60 p_m.Borders), vi p_m.Step, .d (L60 p_m.Heights), .d (L51 p_m.Sides), vi p_m.Inks, .d (L51 p_m.Like)]] [] (by kernel_rfl) trivial ?_
              refine awp_cond (b := (so15 != 0)) (by kernel_rfl) (fun hb17 => ?_) (fun hb17 => ?_)
              · rw [if_pos hb17] at h
                refine awp_sreg tt_ok (ks := [2, 3, 4]) (hs := []) [(2, vi 2), (3, vi c8), (4, vi so15)] [.cells [.d (L60 p_m.Borders), vi p_m.Step, .d (L60 p_m.Heights), .d (L51 p_m.Sides), vi p_m.Inks, .d (L51 p_m.Like)]] [] (by kernel_rfl) trivial ?_
                obtain rfl := Option.some.inj h
                refine awp_wk 1 [2, 3, 4] (by kernel_rfl) [(2, vi 2), (3, vi c8), (4, vi so15)] [.cells [.d (L60 p_m.Borders), vi p_m.Step, .d (L60 p_m.Heights), .d (L51 p_m.Sides), vi p_m.Inks, .d (L51 p_m.Like)]] (by kernel_rfl) (by kernel_rfl) ?_
                exact awp_ret (Sel.mk [] [2, 3, 4] (by kernel_rfl) (by kernel_rfl) (by kernel_rfl) OutQ.ret)
              · rw [if_neg (ntrue hb17)] at h
                refine awp_skip ?_
                show awp _ _ _ _ _ _ _ _
                refine awp_region (T' := [(1, .ref 0 0), (5, vi (w64 (c8 + 1)))]) (H' := [.cells [.d (L60 p_m.Borders), vi p_m.Step, .d (L60 p_m.Heights), .d (L51 p_m.Sides), vi p_m.Inks, .d (L51 p_m.Like)]]) (ps := []) tt_ok (ks := [1, 5]) (hs := []) (by kernel_rfl) trivial ?_
                exact awpN_wk 1 [1, 5] (by kernel_rfl) _ _ (by kernel_rfl) (by kernel_rfl) (hrn9 (w64 (c8 + 1)) h)
        · rw [if_neg (ntrue hb10)] at h
          refine awp_exit ?_
          obtain rfl := Option.some.inj h
          exact Sel.mk [0] [1] (by kernel_rfl) (by kernel_rfl) (by kernel_rfl) OutQ.norm
      · intro e T H hq
        cases o7 with
        | inl ro7 =>
          obtain ⟨rfl, rfl, rfl⟩ := hq
          rw [outK_inl] at h
          obtain rfl := Option.some.inj h
          exact main_ret (by kernel_rfl)
        | inr so7 =>
          obtain ⟨rfl, rfl, rfl⟩ := hq
          rw [outK_inr] at h
          show awp _ _ _ _ _ _ _ _
          refine awp_seq ?_
          refine awp_sreg tt_ok (ks := [1, 7]) (hs := []) [(1, .ref 0 0), (7, vi 0)] [.cells [.d (L60 p_m.Borders), vi p_m.Step, .d (L60 p_m.Heights), .d (L51 p_m.Sides), vi p_m.Inks, .d (L51 p_m.Like)]] [] (by kernel_rfl) trivial ?_
          obtain ⟨o18, ho18, h⟩ := Option.bind_eq_some_iff.1 h
          refine awp_cut1 (OutQ (fun (ro18 : Int × Int × Int) => [(2, vi ro18.1), (3, vi ro18.2.1), (4, vi ro18.2.2)]) (fun (ro18 : Int × Int × Int) => []) (fun (so18 : Unit) => [(1, .ref 0 0)]) (fun (so18 : Unit) => [.cells [.d (L60 p_m.Borders), vi p_m.Step, .d (L60 p_m.Heights), .d (L51 p_m.Sides), vi p_m.Inks, .d (L51 p_m.Like)]]) o18) ?_ ?_
          · clear h
            have h := ho18
            clear ho18
            refine awp_selQ ?_
            refine awp_wk 1 [1, 7] (by kernel_rfl) [(1, .ref 0 0), (7, vi 0)] [.cells [.d (L60 p_m.Borders), vi p_m.Step, .d (L60 p_m.Heights), .d (L51 p_m.Sides), vi p_m.Inks, .d (L51 p_m.Like)]] (by kernel_rfl) (by kernel_rfl) ?_
            refine awp_block ?_
            refine awp_loop (n := fuel) ?_
            refine awpN_ind (fun n (c19 : Int) => F18L2 fuel p_m n c19) o18 (fun (c19 : Int) => [(1, .ref 0 0), (7, vi c19)]) (fun (c19 : Int) => [.cells [.d (L60 p_m.Borders), vi p_m.Step, .d (L60 p_m.Heights), .d (L51 p_m.Sides), vi p_m.Inks, .d (L51 p_m.Like)]]) (fun _ => rfl) ?_ fuel 0 h
            clear h
            intro n20 c19 h hrn20
            change F18L2 fuel p_m (n20 + 1) c19 = some o18 at h
            rw [F18L2] at h
            refine awp_seq ?_
            refine awp_sreg tt_ok (ks := [1, 7, 86]) (hs := []) [(1, .ref 0 0), (7, vi c19), (86, vb (decide (c19 < (p_m.Heights.length : Int))))] [.cells [.d (L60 p_m.Borders), vi p_m.Step, .d (L60 p_m.Heights), .d (L51 p_m.Sides), vi p_m.Inks, .d (L51 p_m.Like)]] [] (by kernel_rfl) trivial ?_
            refine awp_cond (b := (decide (c19 < (p_m.Heights.length : Int)))) (by kernel_rfl) (fun hb21 => ?_) (fun hb21 => ?_)
            · rw [if_pos hb21] at h
              refine awp_skip ?_
              show awp _ _ _ _ _ _ _ _
              refine awp_seq ?_
              refine awp_block ?_
              obtain ⟨x22, hx22, h⟩ := Option.bind_eq_some_iff.1 h
              obtain ⟨x23, hx23, h⟩ := Option.bind_eq_some_iff.1 h
              refine awp_sreg tt_ok (ks := [1, 7, 8]) (hs := [.no, .no, .no, .cells (cel60 x22), .no, .call [(.agg [(di x22.Lo), (di x22.Hi)]), (di 0), (di 9000)] (vi x23)]) [(1, .ref 0 0), (7, vi c19), (8, vi x23)] [.cells [.d (L60 p_m.Borders), vi p_m.Step, .d (L60 p_m.Heights), .d (L51 p_m.Sides), vi p_m.Inks, .d (L51 p_m.Like)]] [IX60 p_m.Heights c19 x22, PCall Try.prog 62 [(.agg [(di x22.Lo), (di x22.Hi)]), (di 0), (di 9000)] (vi x23)] (by kernel_rfl) (And.intro (idxOk cel60_len hx22) (ct62 hx23)) ?_
              refine awp_sreg tt_ok (ks := [1, 7, 8, 96]) (hs := []) [(1, .ref 0 0), (7, vi c19), (8, vi x23), (96, vb (x23 != 0))] [.cells [.d (L60 p_m.Borders), vi p_m.Step, .d (L60 p_m.Heights), .d (L51 p_m.Sides), vi p_m.Inks, .d (L51 p_m.Like)]] [] (by kernel_rfl) trivial ?_
              refine awp_cond (b := (x23 != 0)) (by kernel_rfl) (fun hb24 => ?_) (fun hb24 => ?_)
              · rw [if_pos hb24] at h
                refine awp_sreg tt_ok (ks := [2, 3, 4]) (hs := []) [(2, vi 3), (3, vi c19), (4, vi x23)] [.cells [.d (L60 p_m.Borders), vi p_m.Step, .d (L60 p_m.Heights), .d (L51 p_m.Sides), vi p_m.Inks, .d (L51 p_m.Like)]] [] (by kernel_rfl) trivial ?_
                obtain rfl := Option.some.inj h
                refine awp_wk 1 [2, 3, 4] (by kernel_rfl) [(2, vi 3), (3, vi c19), (4, vi x23)] [.cells [.d (L60 p_m.Borders), vi p_m.Step, .d (L60 p_m.Heights), .d (L51 p_m.Sides), vi p_m.Inks, .d (L51 p_m.Like)]] (by kernel_rfl) (by kernel_rfl) ?_
                exact awp_ret (Sel.mk [] [2, 3, 4] (by kernel_rfl) (by kernel_rfl) (by kernel_rfl) OutQ.ret)
              · rw [if_neg (ntrue hb24)] at h
                refine awp_skip ?_
                show awp _ _ _ _ _ _ _ _
                refine awp_region (T' := [(1, .ref 0 0), (7, vi (w64 (c19 + 1)))]) (H' := [.cells [.d (L60 p_m.Borders), vi p_m.Step, .d (L60 p_m.Heights), .d (L51 p_m.Sides), vi p_m.Inks, .d (L51 p_m.Like)]]) (ps := []) tt_ok (ks := [1, 7]) (hs := []) (by kernel_rfl) trivial ?_
                exact awpN_wk 1 [1, 7] (by kernel_rfl) _ _ (by kernel_rfl) (by kernel_rfl) (hrn20 (w64 (c19 + 1)) h)
            · rw [if_neg (ntrue hb21)] at h
              refine awp_exit ?_
              obtain rfl := Option.some.inj h
              exact Sel.mk [0] [1] (by kernel_rfl) (by kernel_rfl) (by kernel_rfl) OutQ.norm
          · intro e T H hq
            cases o18 with
            | inl ro18 =>
              obtain ⟨rfl, rfl, rfl⟩ := hq
              rw [outK_inl] at h
              obtain rfl := Option.some.inj h
              exact main_ret (by kernel_rfl)
            | inr so18 =>
              obtain ⟨rfl, rfl, rfl⟩ := hq
              rw [outK_inr] at h
              show awp _ _ _ _ _ _ _ _
              refine awp_seq ?_
              refine awp_sreg tt_ok (ks := [1, 9]) (hs := []) [(1, .ref 0 0), (9, vi 0)] [.cells [.d (L60 p_m.Borders), vi p_m.Step, .d (L60 p_m.Heights), .d (L51 p_m.Sides), vi p_m.Inks, .d (L51 p_m.Like)]] [] (by kernel_rfl) trivial ?_
              obtain ⟨o25, ho25, h⟩ := Option.bind_eq_some_iff.1 h
              refine awp_cut1 (OutQ (fun (ro25 : Int × Int × Int) => [(2, vi ro25.1), (3, vi ro25.2.1), (4, vi ro25.2.2)]) (fun (ro25 : Int × Int × Int) => []) (fun (so25 : Unit) => [(1, .ref 0 0)]) (fun (so25 : Unit) => [.cells [.d (L60 p_m.Borders), vi p_m.Step, .d (L60 p_m.Heights), .d (L51 p_m.Sides), vi p_m.Inks, .d (L51 p_m.Like)]]) o25) ?_ ?_
              · clear h
                have h := ho25
                clear ho25
                refine awp_selQ ?_
                refine awp_wk 1 [1, 9] (by kernel_rfl) [(1, .ref 0 0), (9, vi 0)] [.cells [.d (L60 p_m.Borders), vi p_m.Step, .d (L60 p_m.Heights), .d (L51 p_m.Sides), vi p_m.Inks, .d (L51 p_m.Like)]] (by kernel_rfl) (by kernel_rfl) ?_
                refine awp_block ?_
                refine awp_loop (n := fuel) ?_
                refine awpN_ind (fun n (c26 : Int) => F18L3 p_m n c26) o25 (fun (c26 : Int) => [(1, .ref 0 0), (9, vi c26)]) (fun (c26 : Int) => [.cells [.d (L60 p_m.Borders), vi p_m.Step, .d (L60 p_m.Heights), .d (L51 p_m.Sides), vi p_m.Inks, .d (L51 p_m.Like)]]) (fun _ => rfl) ?_ fuel 0 h
                clear h
                intro n27 c26 h hrn27
                change F18L3 p_m (n27 + 1) c26 = some o25 at h
                rw [F18L3] at h
                refine awp_seq ?_
                refine awp_sreg tt_ok (ks := [1, 9, 103]) (hs := []) [(1, .ref 0 0), (9, vi c26), (103, vb (decide (c26 < (p_m.Sides.length : Int))))] [.cells [.d (L60 p_m.Borders), vi p_m.Step, .d (L60 p_m.Heights), .d (L51 p_m.Sides), vi p_m.Inks, .d (L51 p_m.Like)]] [] (by kernel_rfl) trivial ?_
                refine awp_cond (b := (decide (c26 < (p_m.Sides.length : Int)))) (by kernel_rfl) (fun hb28 => ?_) (fun hb28 => ?_)
                · rw [if_pos hb28] at h
                  refine awp_skip ?_
                  show awp _ _ _ _ _ _ _ _
                  refine awp_seq ?_
                  refine awp_block ?_
                  obtain ⟨x29, hx29, h⟩ := Option.bind_eq_some_iff.1 h
                  obtain ⟨x30, hx30, h⟩ := Option.bind_eq_some_iff.1 h
                  refine awp_sdraw tt_ok mixed (ks := [1, 9, 10]) (hs := [.no, .no, .no, .cells (cel51 x29), .no, .no, .no, .no, .call [(.agg [(di x29.A), (di x29.B)]), (di (p_m.Heights.length : Int))] (vi x30)]) 8 [1, 9, 10, 110, 113, 114] [(1, .ref 0 0), (9, vi c26), (10, vi x30)] [.cells [.d (L60 p_m.Borders), vi p_m.Step, .d (L60 p_m.Heights), .d (L51 p_m.Sides), vi p_m.Inks, .d (L51 p_m.Like)]] [IX51 p_m.Sides c26 x29, PCall Try.prog 63 [(.agg [(di x29.A), (di x29.B)]), (di (p_m.Heights.length : Int))] (vi x30)] (by kernel_rfl) (And.intro (idxOk cel51_len hx29) (ct63 hx30)) ?_
                  refine awp_sreg tt_ok (ks := [1, 9, 10, 116]) (hs := []) [(1, .ref 0 0), (9, vi c26), (10, vi x30), (116, vb (x30 != 0))] [.cells [.d (L60 p_m.Borders), vi p_m.Step, .d (L60 p_m.Heights), .d (L51 p_m.Sides), vi p_m.Inks, .d (L51 p_m.Like)]] [] (by kernel_rfl) trivial ?_
                  refine awp_cond (b := (x30 != 0)) (by kernel_rfl) (fun hb31 => ?_) (fun hb31 => ?_)
                  · rw [if_pos hb31] at h
                    refine awp_sreg tt_ok (ks := [2, 3, 4]) (hs := []) [(2, vi 4), (3, vi c26), (4, vi x30)] [.cells [.d (L60 p_m.Borders), vi p_m.Step, .d (L60 p_m.Heights), .d (L51 p_m.Sides), vi p_m.Inks, .d (L51 p_m.Like)]] [] (by kernel_rfl) trivial ?_
                    obtain rfl := Option.some.inj h
                    refine awp_wk 1 [2, 3, 4] (by kernel_rfl) [(2, vi 4), (3, vi c26), (4, vi x30)] [.cells [.d (L60 p_m.Borders), vi p_m.Step, .d (L60 p_m.Heights), .d (L51 p_m.Sides), vi p_m.Inks, .d (L51 p_m.Like)]] (by kernel_rfl) (by kernel_rfl) ?_
                    exact awp_ret (Sel.mk [] [2, 3, 4] (by kernel_rfl) (by kernel_rfl) (by kernel_rfl) OutQ.ret)
                  · rw [if_neg (ntrue hb31)] at h
                    refine awp_skip ?_
                    show awp _ _ _ _ _ _ _ _
                    refine awp_region (T' := [(1, .ref 0 0), (9, vi (w64 (c26 + 1)))]) (H' := [.cells [.d (L60 p_m.Borders), vi p_m.Step, .d (L60 p_m.Heights), .d (L51 p_m.Sides), vi p_m.Inks, .d (L51 p_m.Like)]]) (ps := []) tt_ok (ks := [1, 9]) (hs := []) (by kernel_rfl) trivial ?_
                    exact awpN_wk 1 [1, 9] (by kernel_rfl) _ _ (by kernel_rfl) (by kernel_rfl) (hrn27 (w64 (c26 + 1)) h)
                · rw [if_neg (ntrue hb28)] at h
                  refine awp_exit ?_
                  obtain rfl := Option.some.inj h
                  exact Sel.mk [0] [1] (by kernel_rfl) (by kernel_rfl) (by kernel_rfl) OutQ.norm
              · intro e T H hq
                cases o25 with
                | inl ro25 =>
                  obtain ⟨rfl, rfl, rfl⟩ := hq
                  rw [outK_inl] at h
                  obtain rfl := Option.some.inj h
                  exact main_ret (by kernel_rfl)
                | inr so25 =>
                  obtain ⟨rfl, rfl, rfl⟩ := hq
                  rw [outK_inr] at h
                  show awp _ _ _ _ _ _ _ _
                  refine awp_seq ?_
                  refine awp_sreg tt_ok (ks := [1, 11]) (hs := []) [(1, .ref 0 0), (11, vi 0)] [.cells [.d (L60 p_m.Borders), vi p_m.Step, .d (L60 p_m.Heights), .d (L51 p_m.Sides), vi p_m.Inks, .d (L51 p_m.Like)]] [] (by kernel_rfl) trivial ?_
                  obtain ⟨o32, ho32, h⟩ := Option.bind_eq_some_iff.1 h
                  refine awp_cut1 (OutQ (fun (ro32 : Int × Int × Int) => [(2, vi ro32.1), (3, vi ro32.2.1), (4, vi ro32.2.2)]) (fun (ro32 : Int × Int × Int) => []) (fun (so32 : Unit) => []) (fun (so32 : Unit) => [.cells [.d (L60 p_m.Borders), vi p_m.Step, .d (L60 p_m.Heights), .d (L51 p_m.Sides), vi p_m.Inks, .d (L51 p_m.Like)]]) o32) ?_ ?_
                  · clear h
                    have h := ho32
                    clear ho32
                    refine awp_selQ ?_
                    refine awp_wk 1 [1, 11] (by kernel_rfl) [(1, .ref 0 0), (11, vi 0)] [.cells [.d (L60 p_m.Borders), vi p_m.Step, .d (L60 p_m.Heights), .d (L51 p_m.Sides), vi p_m.Inks, .d (L51 p_m.Like)]] (by kernel_rfl) (by kernel_rfl) ?_
                    refine awp_block ?_
                    refine awp_loop (n := fuel) ?_
                    refine awpN_ind (fun n (c33 : Int) => F18L4 p_m n c33) o32 (fun (c33 : Int) => [(1, .ref 0 0), (11, vi c33)]) (fun (c33 : Int) => [.cells [.d (L60 p_m.Borders), vi p_m.Step, .d (L60 p_m.Heights), .d (L51 p_m.Sides), vi p_m.Inks, .d (L51 p_m.Like)]]) (fun _ => rfl) ?_ fuel 0 h
                    clear h
                    intro n34 c33 h hrn34
                    change F18L4 p_m (n34 + 1) c33 = some o32 at h
                    rw [F18L4] at h
                    refine awp_seq ?_
                    refine awp_sreg tt_ok (ks := [1, 11, 123]) (hs := []) [(1, .ref 0 0), (11, vi c33), (123, vb (decide (c33 < (p_m.Like.length : Int))))] [.cells [.d (L60 p_m.Borders), vi p_m.Step, .d (L60 p_m.Heights), .d (L51 p_m.Sides), vi p_m.Inks, .d (L51 p_m.Like)]] [] (by kernel_rfl) trivial ?_
                    refine awp_cond (b := (decide (c33 < (p_m.Like.length : Int)))) (by kernel_rfl) (fun hb35 => ?_) (fun hb35 => ?_)
                    · rw [if_pos hb35] at h
                      refine awp_skip ?_
                      show awp _ _ _ _ _ _ _ _
                      refine awp_seq ?_
                      refine awp_block ?_
                      obtain ⟨x36, hx36, h⟩ := Option.bind_eq_some_iff.1 h
                      obtain ⟨x37, hx37, h⟩ := Option.bind_eq_some_iff.1 h
                      refine awp_sdraw tt_ok mixed (ks := [1, 11, 12]) (hs := [.no, .no, .no, .cells (cel51 x36), .no, .no, .no, .call [(.agg [(di x36.A), (di x36.B)]), (di p_m.Inks)] (vi x37)]) 7 [1, 11, 12, 130, 132, 133] [(1, .ref 0 0), (11, vi c33), (12, vi x37)] [.cells [.d (L60 p_m.Borders), vi p_m.Step, .d (L60 p_m.Heights), .d (L51 p_m.Sides), vi p_m.Inks, .d (L51 p_m.Like)]] [IX51 p_m.Like c33 x36, PCall Try.prog 63 [(.agg [(di x36.A), (di x36.B)]), (di p_m.Inks)] (vi x37)] (by kernel_rfl) (And.intro (idxOk cel51_len hx36) (ct63 hx37)) ?_
                      refine awp_sreg tt_ok (ks := [1, 11, 12, 135]) (hs := []) [(1, .ref 0 0), (11, vi c33), (12, vi x37), (135, vb (x37 != 0))] [.cells [.d (L60 p_m.Borders), vi p_m.Step, .d (L60 p_m.Heights), .d (L51 p_m.Sides), vi p_m.Inks, .d (L51 p_m.Like)]] [] (by kernel_rfl) trivial ?_
                      refine awp_cond (b := (x37 != 0)) (by kernel_rfl) (fun hb38 => ?_) (fun hb38 => ?_)
                      · rw [if_pos hb38] at h
                        refine awp_sreg tt_ok (ks := [2, 3, 4]) (hs := []) [(2, vi 5), (3, vi c33), (4, vi x37)] [.cells [.d (L60 p_m.Borders), vi p_m.Step, .d (L60 p_m.Heights), .d (L51 p_m.Sides), vi p_m.Inks, .d (L51 p_m.Like)]] [] (by kernel_rfl) trivial ?_
                        obtain rfl := Option.some.inj h
                        refine awp_wk 1 [2, 3, 4] (by kernel_rfl) [(2, vi 5), (3, vi c33), (4, vi x37)] [.cells [.d (L60 p_m.Borders), vi p_m.Step, .d (L60 p_m.Heights), .d (L51 p_m.Sides), vi p_m.Inks, .d (L51 p_m.Like)]] (by kernel_rfl) (by kernel_rfl) ?_
                        exact awp_ret (Sel.mk [] [2, 3, 4] (by kernel_rfl) (by kernel_rfl) (by kernel_rfl) OutQ.ret)
                      · rw [if_neg (ntrue hb38)] at h
                        refine awp_skip ?_
                        show awp _ _ _ _ _ _ _ _
                        refine awp_region (T' := [(1, .ref 0 0), (11, vi (w64 (c33 + 1)))]) (H' := [.cells [.d (L60 p_m.Borders), vi p_m.Step, .d (L60 p_m.Heights), .d (L51 p_m.Sides), vi p_m.Inks, .d (L51 p_m.Like)]]) (ps := []) tt_ok (ks := [1, 11]) (hs := []) (by kernel_rfl) trivial ?_
                        exact awpN_wk 1 [1, 11] (by kernel_rfl) _ _ (by kernel_rfl) (by kernel_rfl) (hrn34 (w64 (c33 + 1)) h)
                    · rw [if_neg (ntrue hb35)] at h
                      refine awp_exit ?_
                      obtain rfl := Option.some.inj h
                      exact Sel.mk [0] [] (by kernel_rfl) (by kernel_rfl) (by kernel_rfl) OutQ.norm
                  · intro e T H hq
                    cases o32 with
                    | inl ro32 =>
                      obtain ⟨rfl, rfl, rfl⟩ := hq
                      rw [outK_inl] at h
                      obtain rfl := Option.some.inj h
                      exact main_ret (by kernel_rfl)
                    | inr so32 =>
                      obtain ⟨rfl, rfl, rfl⟩ := hq
                      rw [outK_inr] at h
                      show awp _ _ _ _ _ _ _ _
                      refine awp_sreg tt_ok (ks := [2, 3, 4]) (hs := []) [(2, vi 0), (3, vi 0), (4, vi 0)] [.cells [.d (L60 p_m.Borders), vi p_m.Step, .d (L60 p_m.Heights), .d (L51 p_m.Sides), vi p_m.Inks, .d (L51 p_m.Like)]] [] (by kernel_rfl) trivial ?_
                      obtain rfl := Option.some.inj h
                      refine awp_wk 1 [2, 3, 4] (by kernel_rfl) [(2, vi 0), (3, vi 0), (4, vi 0)] [.cells [.d (L60 p_m.Borders), vi p_m.Step, .d (L60 p_m.Heights), .d (L51 p_m.Sides), vi p_m.Inks, .d (L51 p_m.Like)]] (by kernel_rfl) (by kernel_rfl) ?_
                      exact awp_ret (main_ret (by kernel_rfl))

set_option maxRecDepth 100000 in
theorem ct20 {fuel : Nat}  {p_m : S_api_ClMap} {legend : (List Int)} {res : Int × Int} (h : F20 fuel p_m legend = some res) : PCall Try.prog 20 [(.agg [(L60 p_m.Borders), (di p_m.Step), (L60 p_m.Heights), (L51 p_m.Sides), (di p_m.Inks), (L51 p_m.Like)]), (L3 legend)] (.tup [vi res.1, vi res.2]) := by
  refine PCall.of_awp tt_ok (N := 72) Try.func20 rfl (by kernel_rfl) rfl (Nat.le_of_ble_eq_true rfl) rfl ?_
  unfold F20 at h
  refine awp_sreg tt_ok (ks := [1, 2]) (hs := []) [(1, .d (L3 legend)), (2, .ref 0 0)] [.cells [.d (L60 p_m.Borders), vi p_m.Step, .d (L60 p_m.Heights), .d (L51 p_m.Sides), vi p_m.Inks, .d (L51 p_m.Like)]] [] (by kernel_rfl) trivial ?_
  obtain ⟨x1, hx1, h⟩ := Option.bind_eq_some_iff.1 h
  refine awp_sreg tt_ok (ks := [1, 2, 8]) (hs := [.no, .call [(.agg [(L60 p_m.Borders), (di p_m.Step), (L60 p_m.Heights), (L51 p_m.Sides), (di p_m.Inks), (L51 p_m.Like)])] (.tup [vi x1.1, vi x1.2.1, vi x1.2.2])]) [(1, .d (L3 legend)), (2, .ref 0 0), (8, vi x1.2.2)] [.cells [.d (L60 p_m.Borders), vi p_m.Step, .d (L60 p_m.Heights), .d (L51 p_m.Sides), vi p_m.Inks, .d (L51 p_m.Like)]] [PCall Try.prog 18 [(.agg [(L60 p_m.Borders), (di p_m.Step), (L60 p_m.Heights), (L51 p_m.Sides), (di p_m.Inks), (L51 p_m.Like)])] (.tup [vi x1.1, vi x1.2.1, vi x1.2.2])] (by kernel_rfl) (ct18 hx1) ?_
  refine awp_seq ?_
  refine awp_sreg tt_ok (ks := [1, 2, 8, 25]) (hs := []) [(1, .d (L3 legend)), (2, .ref 0 0), (8, vi x1.2.2), (25, vb (cond (x1.2.2 == 0) ((legend.length : Int) != (p_m.Borders.length : Int)) false))] [.cells [.d (L60 p_m.Borders), vi p_m.Step, .d (L60 p_m.Heights), .d (L51 p_m.Sides), vi p_m.Inks, .d (L51 p_m.Like)]] [((x1.2.2 == 0) = true → (x1.2.2 == 0) = true), ((x1.2.2 == 0) = true → (x1.2.2 == 0) = true), ((x1.2.2 == 0) = true → (x1.2.2 == 0) = true), ((x1.2.2 == 0) = true → (x1.2.2 == 0) = true), ((x1.2.2 == 0) = true → (x1.2.2 == 0) = true), ((x1.2.2 == 0) = true → (x1.2.2 == 0) = true)] (by kernel_rfl) (And.intro (id) (And.intro (id) (And.intro (id) (And.intro (id) (And.intro (id) (id)))))) ?_
  obtain ⟨o2, ho2, h⟩ := Option.bind_eq_some_iff.1 h
  refine awp_cut1 (OutQ (fun (ro2 : Int × Int) => [(4, vi ro2.1), (5, vi ro2.2)]) (fun (ro2 : Int × Int) => []) (fun (so2 : Int) => [(1, .d (L3 legend)), (2, .ref 0 0), (8, vi so2)]) (fun (so2 : Int) => [.cells [.d (L60 p_m.Borders), vi p_m.Step, .d (L60 p_m.Heights), .d (L51 p_m.Sides), vi p_m.Inks, .d (L51 p_m.Like)]]) o2) ?_ ?_
  · clear h
    have h := ho2
    clear ho2
    refine awp_selQ ?_
    refine awp_cond (b := (cond (x1.2.2 == 0) ((legend.length : Int) != (p_m.Borders.length : Int)) false)) (by kernel_rfl) (fun hb3 => ?_) (fun hb3 => ?_)
    · rw [if_pos hb3] at h
      refine awp_region (T' := [(1, .d (L3 legend)), (2, .ref 0 0), (8, vi 3)]) (H' := [.cells [.d (L60 p_m.Borders), vi p_m.Step, .d (L60 p_m.Heights), .d (L51 p_m.Sides), vi p_m.Inks, .d (L51 p_m.Like)]]) (ps := []) tt_ok (ks := [1, 2, 8]) (hs := []) (by kernel_rfl) trivial ?_
      obtain rfl := Option.some.inj h
      exact Sel.mk [0] [1, 2, 8] (by kernel_rfl) (by kernel_rfl) (by kernel_rfl) OutQ.norm
    · rw [if_neg (ntrue hb3)] at h
      refine awp_skip ?_
      obtain rfl := Option.some.inj h
      exact Sel.mk [0] [1, 2, 8] (by kernel_rfl) (by kernel_rfl) (by kernel_rfl) OutQ.norm
  · intro e T H hq
    cases o2 with
    | inl ro2 =>
      obtain ⟨rfl, rfl, rfl⟩ := hq
      rw [outK_inl] at h
      obtain rfl := Option.some.inj h
      exact main_ret (by kernel_rfl)
    | inr so2 =>
      obtain ⟨rfl, rfl, rfl⟩ := hq
      rw [outK_inr] at h
      show awp _ _ _ _ _ _ _ _
      refine awp_seq ?_
      refine awp_sreg tt_ok (ks := [1, 2, 8, 27]) (hs := []) [(1, .d (L3 legend)), (2, .ref 0 0), (8, vi so2), (27, vb (so2 != 0))] [.cells [.d (L60 p_m.Borders), vi p_m.Step, .d (L60 p_m.Heights), .d (L51 p_m.Sides), vi p_m.Inks, .d (L51 p_m.Like)]] [] (by kernel_rfl) trivial ?_
      refine awp_cond (b := (so2 != 0)) (by kernel_rfl) (fun hb4 => ?_) (fun hb4 => ?_)
      · rw [if_pos hb4] at h
        refine awp_sreg tt_ok (ks := [4, 5]) (hs := []) [(4, vi 0), (5, vi so2)] [.cells [.d (L60 p_m.Borders), vi p_m.Step, .d (L60 p_m.Heights), .d (L51 p_m.Sides), vi p_m.Inks, .d (L51 p_m.Like)]] [] (by kernel_rfl) trivial ?_
        obtain rfl := Option.some.inj h
        refine awp_wk 1 [4, 5] (by kernel_rfl) [(4, vi 0), (5, vi so2)] [.cells [.d (L60 p_m.Borders), vi p_m.Step, .d (L60 p_m.Heights), .d (L51 p_m.Sides), vi p_m.Inks, .d (L51 p_m.Like)]] (by kernel_rfl) (by kernel_rfl) ?_
        exact awp_ret (main_ret (by kernel_rfl))
      · rw [if_neg (ntrue hb4)] at h
        refine awp_skip ?_
        show awp _ _ _ _ _ _ _ _
        refine awp_seq ?_
        refine awp_sreg tt_ok (ks := [1, 2, 9]) (hs := []) [(1, .d (L3 legend)), (2, .ref 0 0), (9, vi 0)] [.cells [.d (L60 p_m.Borders), vi p_m.Step, .d (L60 p_m.Heights), .d (L51 p_m.Sides), vi p_m.Inks, .d (L51 p_m.Like)]] [] (by kernel_rfl) trivial ?_
        obtain ⟨o5, ho5, h⟩ := Option.bind_eq_some_iff.1 h
        refine awp_cut1 (OutQ (fun (ro5 : Int × Int) => [(4, vi ro5.1), (5, vi ro5.2)]) (fun (ro5 : Int × Int) => []) (fun (so5 : Unit) => []) (fun (so5 : Unit) => [.cells [.d (L60 p_m.Borders), vi p_m.Step, .d (L60 p_m.Heights), .d (L51 p_m.Sides), vi p_m.Inks, .d (L51 p_m.Like)]]) o5) ?_ ?_
        · clear h
          have h := ho5
          clear ho5
          refine awp_selQ ?_
          refine awp_wk 1 [1, 2, 9] (by kernel_rfl) [(1, .d (L3 legend)), (2, .ref 0 0), (9, vi 0)] [.cells [.d (L60 p_m.Borders), vi p_m.Step, .d (L60 p_m.Heights), .d (L51 p_m.Sides), vi p_m.Inks, .d (L51 p_m.Like)]] (by kernel_rfl) (by kernel_rfl) ?_
          refine awp_block ?_
          refine awp_loop (n := fuel) ?_
          refine awpN_ind (fun n (c6 : Int) => F20L1 p_m legend n c6) o5 (fun (c6 : Int) => [(1, .d (L3 legend)), (2, .ref 0 0), (9, vi c6)]) (fun (c6 : Int) => [.cells [.d (L60 p_m.Borders), vi p_m.Step, .d (L60 p_m.Heights), .d (L51 p_m.Sides), vi p_m.Inks, .d (L51 p_m.Like)]]) (fun _ => rfl) ?_ fuel 0 h
          clear h
          intro n7 c6 h hrn7
          change F20L1 p_m legend (n7 + 1) c6 = some o5 at h
          rw [F20L1] at h
          refine awp_seq ?_
          refine awp_sreg tt_ok (ks := [1, 2, 9, 32]) (hs := []) [(1, .d (L3 legend)), (2, .ref 0 0), (9, vi c6), (32, vb (decide (c6 < (legend.length : Int))))] [.cells [.d (L60 p_m.Borders), vi p_m.Step, .d (L60 p_m.Heights), .d (L51 p_m.Sides), vi p_m.Inks, .d (L51 p_m.Like)]] [] (by kernel_rfl) trivial ?_
          refine awp_cond (b := (decide (c6 < (legend.length : Int)))) (by kernel_rfl) (fun hb8 => ?_) (fun hb8 => ?_)
          · rw [if_pos hb8] at h
            refine awp_skip ?_
            show awp _ _ _ _ _ _ _ _
            refine awp_seq ?_
            refine awp_block ?_
            refine awp_seq ?_
            obtain ⟨x9, hx9, h⟩ := Option.bind_eq_some_iff.1 h
            obtain ⟨x10, hx10, h⟩ := Option.bind_eq_some_iff.1 h
            obtain ⟨x11, hx11, h⟩ := Option.bind_eq_some_iff.1 h
            obtain ⟨x12, hx12, h⟩ := Option.bind_eq_some_iff.1 h
            refine awp_sdraw tt_ok mixed (ks := [1, 2, 9, 52]) (hs := [.no, .no, .cells (cel3 x9), .no, .no, .no, .no, .cells (cel60 x10), .no, .no, .no, .no, .no, .cells (cel60 x11), .no, .no, .call [(di x9), (di x10.Lo), (di x11.Hi)] (vb x12)]) 16 [1, 2, 9, 38, 44, 50, 51, 52] [(1, .d (L3 legend)), (2, .ref 0 0), (9, vi c6), (52, vb (!x12))] [.cells [.d (L60 p_m.Borders), vi p_m.Step, .d (L60 p_m.Heights), .d (L51 p_m.Sides), vi p_m.Inks, .d (L51 p_m.Like)]] [IX3 legend c6 x9, IX60 p_m.Borders c6 x10, IX60 p_m.Borders c6 x11, PCall Try.prog 61 [(di x9), (di x10.Lo), (di x11.Hi)] (vb x12)] (by kernel_rfl) (And.intro (idxOk cel3_len hx9) (And.intro (idxOk cel60_len hx10) (And.intro (idxOk cel60_len hx11) (ct61 hx12)))) ?_
            refine awp_cond (b := (!x12)) (by kernel_rfl) (fun hb13 => ?_) (fun hb13 => ?_)
            · rw [if_pos hb13] at h
              refine awp_sreg tt_ok (ks := [4, 5]) (hs := []) [(4, vi c6), (5, vi 7)] [.cells [.d (L60 p_m.Borders), vi p_m.Step, .d (L60 p_m.Heights), .d (L51 p_m.Sides), vi p_m.Inks, .d (L51 p_m.Like)]] [] (by kernel_rfl) trivial ?_
              obtain rfl := Option.some.inj h
              refine awp_wk 1 [4, 5] (by kernel_rfl) [(4, vi c6), (5, vi 7)] [.cells [.d (L60 p_m.Borders), vi p_m.Step, .d (L60 p_m.Heights), .d (L51 p_m.Sides), vi p_m.Inks, .d (L51 p_m.Like)]] (by kernel_rfl) (by kernel_rfl) ?_
              exact awp_ret (Sel.mk [] [4, 5] (by kernel_rfl) (by kernel_rfl) (by kernel_rfl) OutQ.ret)
            · rw [if_neg (ntrue hb13)] at h
              refine awp_skip ?_
              show awp _ _ _ _ _ _ _ _
              obtain ⟨x14, hx14, h⟩ := Option.bind_eq_some_iff.1 h
              obtain ⟨x15, hx15, h⟩ := Option.bind_eq_some_iff.1 h
              refine awp_sdraw tt_ok mixed (ks := [1, 2, 9, 70]) (hs := [.no, .no, .no, .no, .no, .cells (cel3 x14), .no, .no, .no, .no, .cells (cel3 x15)]) 15 [1, 2, 9, 56, 60, 68, 69, 70] [(1, .d (L3 legend)), (2, .ref 0 0), (9, vi c6), (70, vb (cond (decide (c6 > 0)) (decide (x14 < (w64 (x15 + p_m.Step)))) false))] [.cells [.d (L60 p_m.Borders), vi p_m.Step, .d (L60 p_m.Heights), .d (L51 p_m.Sides), vi p_m.Inks, .d (L51 p_m.Like)]] [((decide (c6 > 0)) = true → (decide (c6 > 0)) = true), ((decide (c6 > 0)) = true → (decide (c6 > 0)) = true), ((decide (c6 > 0)) = true → IX3 legend c6 x14), ((decide (c6 > 0)) = true → (decide (c6 > 0)) = true), ((decide (c6 > 0)) = true → (decide (c6 > 0)) = true), ((decide (c6 > 0)) = true → (decide (c6 > 0)) = true), ((decide (c6 > 0)) = true → (decide (c6 > 0)) = true), ((decide (c6 > 0)) = true → IX3 legend (w64 (c6 - 1)) x15), ((decide (c6 > 0)) = true → (decide (c6 > 0)) = true), ((decide (c6 > 0)) = true → (decide (c6 > 0)) = true), ((decide (c6 > 0)) = true → (decide (c6 > 0)) = true), ((decide (c6 > 0)) = true → (decide (c6 > 0)) = true), ((decide (c6 > 0)) = true → (decide (c6 > 0)) = true), ((decide (c6 > 0)) = true → (decide (c6 > 0)) = true), ((decide (c6 > 0)) = true → (decide (c6 > 0)) = true)] (by kernel_rfl) (And.intro (id) (And.intro (id) (And.intro ((fun hg => idxOk cel3_len (optG_of hx14 hg))) (And.intro (id) (And.intro (id) (And.intro (id) (And.intro (id) (And.intro ((fun hg => idxOk cel3_len (optG_of hx15 hg))) (And.intro (id) (And.intro (id) (And.intro (id) (And.intro (id) (And.intro (id) (And.intro (id) (id))))))))))))))) ?_
              refine awp_cond (b := (cond (decide (c6 > 0)) (decide (x14 < (w64 (x15 + p_m.Step)))) false)) (by kernel_rfl) (fun hb16 => ?_) (fun hb16 => ?_)
              · rw [if_pos hb16] at h
                refine awp_sreg tt_ok (ks := [4, 5]) (hs := []) [(4, vi c6), (5, vi 2)] [.cells [.d (L60 p_m.Borders), vi p_m.Step, .d (L60 p_m.Heights), .d (L51 p_m.Sides), vi p_m.Inks, .d (L51 p_m.Like)]] [] (by kernel_rfl) trivial ?_
                obtain rfl := Option.some.inj h
                refine awp_wk 1 [4, 5] (by kernel_rfl) [(4, vi c6), (5, vi 2)] [.cells [.d (L60 p_m.Borders), vi p_m.Step, .d (L60 p_m.Heights), .d (L51 p_m.Sides), vi p_m.Inks, .d (L51 p_m.Like)]] (by kernel_rfl) (by kernel_rfl) ?_
                exact awp_ret (Sel.mk [] [4, 5] (by kernel_rfl) (by kernel_rfl) (by kernel_rfl) OutQ.ret)
              · rw [if_neg (ntrue hb16)] at h
                refine awp_skip ?_
                show awp _ _ _ _ _ _ _ _
                refine awp_region (T' := [(1, .d (L3 legend)), (2, .ref 0 0), (9, vi (w64 (c6 + 1)))]) (H' := [.cells [.d (L60 p_m.Borders), vi p_m.Step, .d (L60 p_m.Heights), .d (L51 p_m.Sides), vi p_m.Inks, .d (L51 p_m.Like)]]) (ps := []) tt_ok (ks := [1, 2, 9]) (hs := []) (by kernel_rfl) trivial ?_
                exact awpN_wk 1 [1, 2, 9] (by kernel_rfl) _ _ (by kernel_rfl) (by kernel_rfl) (hrn7 (w64 (c6 + 1)) h)
          · rw [if_neg (ntrue hb8)] at h
            refine awp_exit ?_
            obtain rfl := Option.some.inj h
            exact Sel.mk [0] [] (by kernel_rfl) (by kernel_rfl) (by kernel_rfl) OutQ.norm
        · intro e T H hq
          cases o5 with
          | inl ro5 =>
            obtain ⟨rfl, rfl, rfl⟩ := hq
            rw [outK_inl] at h
            obtain rfl := Option.some.inj h
            exact main_ret (by kernel_rfl)
          | inr so5 =>
            obtain ⟨rfl, rfl, rfl⟩ := hq
            rw [outK_inr] at h
            show awp _ _ _ _ _ _ _ _
            refine awp_sreg tt_ok (ks := [4, 5]) (hs := []) [(4, vi 0), (5, vi 0)] [.cells [.d (L60 p_m.Borders), vi p_m.Step, .d (L60 p_m.Heights), .d (L51 p_m.Sides), vi p_m.Inks, .d (L51 p_m.Like)]] [] (by kernel_rfl) trivial ?_
            obtain rfl := Option.some.inj h
            refine awp_wk 1 [4, 5] (by kernel_rfl) [(4, vi 0), (5, vi 0)] [.cells [.d (L60 p_m.Borders), vi p_m.Step, .d (L60 p_m.Heights), .d (L51 p_m.Sides), vi p_m.Inks, .d (L51 p_m.Like)]] (by kernel_rfl) (by kernel_rfl) ?_
            exact awp_ret (main_ret (by kernel_rfl))

set_option maxRecDepth 100000 in
theorem ct83 {fuel : Nat}  {legend : (List Int)} {high : Int} {res : Int} (h : F83 fuel legend high = some res) : PCall Try.prog 83 [(L3 legend), (di high)] (vi res) := by
  refine PCall.of_awp tt_ok (N := 21) Try.func83 rfl (by kernel_rfl) rfl (Nat.le_of_ble_eq_true rfl) rfl ?_
  unfold F83 at h
  refine awp_sreg tt_ok (ks := [0, 1]) (hs := []) [(0, .d (L3 legend)), (1, vi high)] [] [] (by kernel_rfl) trivial ?_
  refine awp_sreg tt_ok (ks := [0, 1, 5]) (hs := []) [(0, .d (L3 legend)), (1, vi high), (5, vi 0)] [] [] (by kernel_rfl) trivial ?_
  refine awp_seq ?_
  obtain ⟨o1, ho1, h⟩ := Option.bind_eq_some_iff.1 h
  refine awp_cut1 (OutQ (fun (ro1 : Int) => [(4, vi ro1)]) (fun (ro1 : Int) => []) (fun (so1 : Int) => [(5, vi so1)]) (fun (so1 : Int) => []) o1) ?_ ?_
  · clear h
    have h := ho1
    clear ho1
    refine awp_selQ ?_
    refine awp_wk 0 [0, 1, 5] (by kernel_rfl) [(0, .d (L3 legend)), (1, vi high), (5, vi 0)] [] (by kernel_rfl) (by kernel_rfl) ?_
    refine awp_block ?_
    refine awp_loop (n := fuel) ?_
    refine awpN_ind (fun n (c2 : Int) => F83L1 legend high n c2) o1 (fun (c2 : Int) => [(0, .d (L3 legend)), (1, vi high), (5, vi c2)]) (fun (c2 : Int) => []) (fun _ => rfl) ?_ fuel 0 h
    clear h
    intro n3 c2 h hrn3
    change F83L1 legend high (n3 + 1) c2 = some o1 at h
    rw [F83L1] at h
    refine awp_seq ?_
    obtain ⟨x4, hx4, h⟩ := Option.bind_eq_some_iff.1 h
    refine awp_sreg tt_ok (ks := [0, 1, 5, 17]) (hs := [.no, .no, .no, .no, .no, .no, .no, .cells (cel3 x4)]) [(0, .d (L3 legend)), (1, vi high), (5, vi c2), (17, vb (cond (decide (c2 < (legend.length : Int))) (decide (x4 ≤ high)) false))] [] [((decide (c2 < (legend.length : Int))) = true → (decide (c2 < (legend.length : Int))) = true), ((decide (c2 < (legend.length : Int))) = true → (decide (c2 < (legend.length : Int))) = true), ((decide (c2 < (legend.length : Int))) = true → IX3 legend c2 x4), ((decide (c2 < (legend.length : Int))) = true → (decide (c2 < (legend.length : Int))) = true), ((decide (c2 < (legend.length : Int))) = true → (decide (c2 < (legend.length : Int))) = true), ((decide (c2 < (legend.length : Int))) = true → (decide (c2 < (legend.length : Int))) = true), ((decide (c2 < (legend.length : Int))) = true → (decide (c2 < (legend.length : Int))) = true)] (by kernel_rfl) (And.intro (id) (And.intro (id) (And.intro ((fun hg => idxOk cel3_len (optG_of hx4 hg))) (And.intro (id) (And.intro (id) (And.intro (id) (id))))))) ?_
    refine awp_cond (b := (cond (decide (c2 < (legend.length : Int))) (decide (x4 ≤ high)) false)) (by kernel_rfl) (fun hb5 => ?_) (fun hb5 => ?_)
    · rw [if_pos hb5] at h
      refine awp_skip ?_
      show awp _ _ _ _ _ _ _ _
      refine awp_block ?_
      refine awp_region (T' := [(0, .d (L3 legend)), (1, vi high), (5, vi (w64 (c2 + 1)))]) (H' := []) (ps := []) tt_ok (ks := [0, 1, 5]) (hs := []) (by kernel_rfl) trivial ?_
      exact awpN_wk 0 [0, 1, 5] (by kernel_rfl) _ _ (by kernel_rfl) (by kernel_rfl) (hrn3 (w64 (c2 + 1)) h)
    · rw [if_neg (ntrue hb5)] at h
      refine awp_exit ?_
      obtain rfl := Option.some.inj h
      exact Sel.mk [] [5] (by kernel_rfl) (by kernel_rfl) (by kernel_rfl) OutQ.norm
  · intro e T H hq
    cases o1 with
    | inl ro1 =>
      obtain ⟨rfl, rfl, rfl⟩ := hq
      rw [outK_inl] at h
      obtain rfl := Option.some.inj h
      exact main_ret (by kernel_rfl)
    | inr so1 =>
      obtain ⟨rfl, rfl, rfl⟩ := hq
      rw [outK_inr] at h
      show awp _ _ _ _ _ _ _ _
      refine awp_sreg tt_ok (ks := [4]) (hs := []) [(4, vi so1)] [] [] (by kernel_rfl) trivial ?_
      obtain rfl := Option.some.inj h
      refine awp_wk 0 [4] (by kernel_rfl) [(4, vi so1)] [] (by kernel_rfl) (by kernel_rfl) ?_
      exact awp_ret (main_ret (by kernel_rfl))

set_option maxRecDepth 100000 in
theorem ct65 {fuel : Nat}  {p_m : S_api_ClMap} {legend : (List Int)} {res : (List S_api_Span)} (h : F65 fuel p_m legend = some res) : PCall Try.prog 65 [(.agg [(L60 p_m.Borders), (di p_m.Step), (L60 p_m.Heights), (L51 p_m.Sides), (di p_m.Inks), (L51 p_m.Like)]), (L3 legend)] (.d (L60 res)) := by
  refine PCall.of_awp tt_ok (N := 35) Try.func65 rfl (by kernel_rfl) rfl (Nat.le_of_ble_eq_true rfl) rfl ?_
  unfold F65 at h
  refine awp_sreg tt_ok (ks := [1, 2]) (hs := []) [(1, .d (L3 legend)), (2, .ref 0 0)] [.cells [.d (L60 p_m.Borders), vi p_m.Step, .d (L60 p_m.Heights), .d (L51 p_m.Sides), vi p_m.Inks, .d (L51 p_m.Like)]] [] (by kernel_rfl) trivial ?_
  refine awp_sreg tt_ok (ks := [1, 2, 5]) (hs := []) [(1, .d (L3 legend)), (2, .ref 0 0), (5, .d dnil)] [.cells [.d (L60 p_m.Borders), vi p_m.Step, .d (L60 p_m.Heights), .d (L51 p_m.Sides), vi p_m.Inks, .d (L51 p_m.Like)]] [] (by kernel_rfl) trivial ?_
  refine awp_seq ?_
  refine awp_sreg tt_ok (ks := [1, 2, 5, 6]) (hs := []) [(1, .d (L3 legend)), (2, .ref 0 0), (5, .d dnil), (6, vi 0)] [.cells [.d (L60 p_m.Borders), vi p_m.Step, .d (L60 p_m.Heights), .d (L51 p_m.Sides), vi p_m.Inks, .d (L51 p_m.Like)]] [] (by kernel_rfl) trivial ?_
  refine awp_nil 5 2 (by kernel_rfl) ?_
  refine awp_eq (T' := [(5, .sl 2 1 0 ([] : List S_api_Span).length), (1, .d (L3 legend)), (2, .ref 0 0), (6, vi 0)]) (H' := [.cells [.d (L60 p_m.Borders), vi p_m.Step, .d (L60 p_m.Heights), .d (L51 p_m.Sides), vi p_m.Inks, .d (L51 p_m.Like)], .data (([] : List S_api_Span).flatMap cel60)]) (by kernel_rfl) (by kernel_rfl) ?_
  refine awp_wk 2 [1, 2, 5, 6] (by kernel_rfl) [(1, .d (L3 legend)), (2, .ref 0 0), (5, .sl 2 1 0 ([] : List S_api_Span).length), (6, vi 0)] [.cells [.d (L60 p_m.Borders), vi p_m.Step, .d (L60 p_m.Heights), .d (L51 p_m.Sides), vi p_m.Inks, .d (L51 p_m.Like)], .data (([] : List S_api_Span).flatMap cel60)] (by kernel_rfl) (by kernel_rfl) ?_
  obtain ⟨o2, ho2, h⟩ := Option.bind_eq_some_iff.1 h
  refine awp_cut1 (OutQ (fun (ro2 : (List S_api_Span)) => [(4, .d (L60 ro2))]) (fun (ro2 : (List S_api_Span)) => []) (fun (so2 : (List S_api_Span)) => [(5, .sl 2 1 0 so2.length)]) (fun (so2 : (List S_api_Span)) => [.cells [.d (L60 p_m.Borders), vi p_m.Step, .d (L60 p_m.Heights), .d (L51 p_m.Sides), vi p_m.Inks, .d (L51 p_m.Like)], .data (so2.flatMap cel60)]) o2) ?_ ?_
  · clear h
    have h := ho2
    clear ho2
    refine awp_selQ ?_
    refine awp_wk 2 [1, 2, 5, 6] (by kernel_rfl) [(1, .d (L3 legend)), (2, .ref 0 0), (5, .sl 2 1 0 ([] : List S_api_Span).length), (6, vi 0)] [.cells [.d (L60 p_m.Borders), vi p_m.Step, .d (L60 p_m.Heights), .d (L51 p_m.Sides), vi p_m.Inks, .d (L51 p_m.Like)], .data (([] : List S_api_Span).flatMap cel60)] (by kernel_rfl) (by kernel_rfl) ?_
    refine awp_block ?_
    refine awp_loop (n := fuel) ?_
    refine awpN_ind (fun n (c3 : Int × (List S_api_Span)) => F65L1 fuel p_m legend n c3) o2 (fun (c3 : Int × (List S_api_Span)) => [(1, .d (L3 legend)), (2, .ref 0 0), (5, .sl 2 1 0 c3.2.length), (6, vi c3.1)]) (fun (c3 : Int × (List S_api_Span)) => [.cells [.d (L60 p_m.Borders), vi p_m.Step, .d (L60 p_m.Heights), .d (L51 p_m.Sides), vi p_m.Inks, .d (L51 p_m.Like)], .data (c3.2.flatMap cel60)]) (fun _ => rfl) ?_ fuel (0, ([] : List S_api_Span)) h
    clear h
    intro n4 c3 h hrn4
    change F65L1 fuel p_m legend (n4 + 1) c3 = some o2 at h
    rw [F65L1] at h
    refine awp_seq ?_
    refine awp_sreg tt_ok (ks := [1, 2, 5, 6, 11]) (hs := []) [(1, .d (L3 legend)), (2, .ref 0 0), (5, .sl 2 1 0 c3.2.length), (6, vi c3.1), (11, vb (decide (c3.1 < (p_m.Heights.length : Int))))] [.cells [.d (L60 p_m.Borders), vi p_m.Step, .d (L60 p_m.Heights), .d (L51 p_m.Sides), vi p_m.Inks, .d (L51 p_m.Like)], .data (c3.2.flatMap cel60)] [] (by kernel_rfl) trivial ?_
    refine awp_cond (b := (decide (c3.1 < (p_m.Heights.length : Int)))) (by kernel_rfl) (fun hb5 => ?_) (fun hb5 => ?_)
    · rw [if_pos hb5] at h
      refine awp_skip ?_
      show awp _ _ _ _ _ _ _ _
      refine awp_seq ?_
      refine awp_block ?_
      obtain ⟨x6, hx6, h⟩ := Option.bind_eq_some_iff.1 h
      obtain ⟨x7, hx7, h⟩ := Option.bind_eq_some_iff.1 h
      obtain ⟨x8, hx8, h⟩ := Option.bind_eq_some_iff.1 h
      obtain ⟨x9, hx9, h⟩ := Option.bind_eq_some_iff.1 h
      obtain ⟨x10, hx10, h⟩ := Option.bind_eq_some_iff.1 h
      refine awp_draw (T' := [(1, .d (L3 legend)), (2, .ref 0 0), (5, .sl 2 1 0 (c3.2 ++ ([(⟨x7, x9⟩ : S_api_Span)] : List S_api_Span)).length), (6, vi c3.1)]) (H' := [.cells [.d (L60 p_m.Borders), vi p_m.Step, .d (L60 p_m.Heights), .d (L51 p_m.Sides), vi p_m.Inks, .d (L51 p_m.Like)], .data ((c3.2 ++ ([(⟨x7, x9⟩ : S_api_Span)] : List S_api_Span)).flatMap cel60)]) (ps := [IX60 p_m.Heights c3.1 x6, PCall Try.prog 83 [(L3 legend), (di x6.Lo)] (vi x7), IX60 p_m.Heights c3.1 x8, PCall Try.prog 83 [(L3 legend), (di x8.Hi)] (vi x9), AppendOk ((c3.2.flatMap cel60).map .d) c3.2.length ([(⟨x7, x9⟩ : S_api_Span)] : List S_api_Span).length (c3.2 ++ ([(⟨x7, x9⟩ : S_api_Span)] : List S_api_Span)).length 2 16 (([(⟨x7, x9⟩ : S_api_Span)] : List S_api_Span).flatMap cel60) ((c3.2 ++ ([(⟨x7, x9⟩ : S_api_Span)] : List S_api_Span)).flatMap cel60)]) tt_ok mixed (ks := [1, 2, 5, 6]) (hs := [.no, .no, .no, .no, .no, .cells (cel60 x6), .no, .no, .call [(L3 legend), (di x6.Lo)] (vi x7), .no, .no, .no, .no, .cells (cel60 x8), .no, .no, .call [(L3 legend), (di x8.Hi)] (vi x9), .no, .no, .list (c3.2 ++ ([(⟨x7, x9⟩ : S_api_Span)] : List S_api_Span)).length ((c3.2 ++ ([(⟨x7, x9⟩ : S_api_Span)] : List S_api_Span)).flatMap cel60)]) (m := 19) (mid := [1, 2, 5, 6, 14, 32, 33]) (by kernel_rfl) (And.intro (idxOk cel60_len hx6) (And.intro (ct83 hx7) (And.intro (idxOk cel60_len hx8) (And.intro (ct83 hx9) (appendOk cel60_len (need_of hx10)))))) ?_
      show awp _ _ _ _ _ _ _ _
      refine awp_region (T' := [(1, .d (L3 legend)), (2, .ref 0 0), (5, .sl 2 1 0 (c3.2 ++ ([(⟨x7, x9⟩ : S_api_Span)] : List S_api_Span)).length), (6, vi (w64 (c3.1 + 1)))]) (H' := [.cells [.d (L60 p_m.Borders), vi p_m.Step, .d (L60 p_m.Heights), .d (L51 p_m.Sides), vi p_m.Inks, .d (L51 p_m.Like)], .data ((c3.2 ++ ([(⟨x7, x9⟩ : S_api_Span)] : List S_api_Span)).flatMap cel60)]) (ps := []) tt_ok (ks := [1, 2, 5, 6]) (hs := []) (by kernel_rfl) trivial ?_
      exact awpN_wk 2 [1, 2, 5, 6] (by kernel_rfl) _ _ (by kernel_rfl) (by kernel_rfl) (hrn4 ((w64 (c3.1 + 1)), (c3.2 ++ ([(⟨x7, x9⟩ : S_api_Span)] : List S_api_Span))) h)
    · rw [if_neg (ntrue hb5)] at h
      refine awp_exit ?_
      obtain rfl := Option.some.inj h
      exact Sel.mk [0, 1] [5] (by kernel_rfl) (by kernel_rfl) (by kernel_rfl) OutQ.norm
  · intro e T H hq
    cases o2 with
    | inl ro2 =>
      obtain ⟨rfl, rfl, rfl⟩ := hq
      rw [outK_inl] at h
      obtain rfl := Option.some.inj h
      exact main_ret (by kernel_rfl)
    | inr so2 =>
      obtain ⟨rfl, rfl, rfl⟩ := hq
      rw [outK_inr] at h
      show awp _ _ _ _ _ _ _ _
      refine awp_sreg tt_ok (ks := [4]) (hs := []) [(4, .sl 2 1 0 so2.length)] [.cells [.d (L60 p_m.Borders), vi p_m.Step, .d (L60 p_m.Heights), .d (L51 p_m.Sides), vi p_m.Inks, .d (L51 p_m.Like)], .data (so2.flatMap cel60)] [] (by kernel_rfl) trivial ?_
      obtain rfl := Option.some.inj h
      refine awp_wk 2 [4] (by kernel_rfl) [(4, .sl 2 1 0 so2.length)] [.cells [.d (L60 p_m.Borders), vi p_m.Step, .d (L60 p_m.Heights), .d (L51 p_m.Sides), vi p_m.Inks, .d (L51 p_m.Like)], .data (so2.flatMap cel60)] (by kernel_rfl) (by kernel_rfl) ?_
      refine awp_freeze 4 1 (so2.flatMap cel60) (.sl 2 1 0 so2.length) (.d (L60 so2)) _ _ (ps := [(so2.flatMap cel60).length = so2.length * 2]) (by kernel_rfl) (by kernel_rfl) (by kernel_rfl) (flatMap_len cel60 2 cel60_len so2) rfl rfl ?_
      refine awp_wk 2 [4] (by kernel_rfl) [(4, .d (L60 so2))] [.cells [.d (L60 p_m.Borders), vi p_m.Step, .d (L60 p_m.Heights), .d (L51 p_m.Sides), vi p_m.Inks, .d (L51 p_m.Like)], .data (([] : List S_api_Span).flatMap cel60)] (by kernel_rfl) (by kernel_rfl) ?_
      exact awp_ret (main_ret (by kernel_rfl))

set_option maxRecDepth 100000 in
theorem ct22 {fuel : Nat}  {p_m : S_api_ClMap} {legend : (List Int)} {res : (List S_api_Span) × Int} (h : F22 fuel p_m legend = some res) : PCall Try.prog 22 [(.agg [(L60 p_m.Borders), (di p_m.Step), (L60 p_m.Heights), (L51 p_m.Sides), (di p_m.Inks), (L51 p_m.Like)]), (L3 legend)] (.tup [.d (L60 res.1), vi res.2]) := by
  refine PCall.of_awp tt_ok (N := 20) Try.func22 rfl (by kernel_rfl) rfl (Nat.le_of_ble_eq_true rfl) rfl ?_
  unfold F22 at h
  refine awp_sreg tt_ok (ks := [1, 2]) (hs := []) [(1, .d (L3 legend)), (2, .ref 0 0)] [.cells [.d (L60 p_m.Borders), vi p_m.Step, .d (L60 p_m.Heights), .d (L51 p_m.Sides), vi p_m.Inks, .d (L51 p_m.Like)]] [] (by kernel_rfl) trivial ?_
  obtain ⟨x1, hx1, h⟩ := Option.bind_eq_some_iff.1 h
  refine awp_sreg tt_ok (ks := [1, 2, 7]) (hs := [.no, .no, .call [(.agg [(L60 p_m.Borders), (di p_m.Step), (L60 p_m.Heights), (L51 p_m.Sides), (di p_m.Inks), (L51 p_m.Like)]), (L3 legend)] (.tup [vi x1.1, vi x1.2])]) [(1, .d (L3 legend)), (2, .ref 0 0), (7, vi x1.2)] [.cells [.d (L60 p_m.Borders), vi p_m.Step, .d (L60 p_m.Heights), .d (L51 p_m.Sides), vi p_m.Inks, .d (L51 p_m.Like)]] [PCall Try.prog 20 [(.agg [(L60 p_m.Borders), (di p_m.Step), (L60 p_m.Heights), (L51 p_m.Sides), (di p_m.Inks), (L51 p_m.Like)]), (L3 legend)] (.tup [vi x1.1, vi x1.2])] (by kernel_rfl) (ct20 hx1) ?_
  refine awp_seq ?_
  refine awp_sreg tt_ok (ks := [1, 2, 7, 15]) (hs := []) [(1, .d (L3 legend)), (2, .ref 0 0), (7, vi x1.2), (15, vb (x1.2 != 0))] [.cells [.d (L60 p_m.Borders), vi p_m.Step, .d (L60 p_m.Heights), .d (L51 p_m.Sides), vi p_m.Inks, .d (L51 p_m.Like)]] [] (by kernel_rfl) trivial ?_
  refine awp_cond (b := (x1.2 != 0)) (by kernel_rfl) (fun hb2 => ?_) (fun hb2 => ?_)
  · rw [if_pos hb2] at h
    refine awp_sreg tt_ok (ks := [4, 5]) (hs := []) [(4, .d dnil), (5, vi x1.2)] [.cells [.d (L60 p_m.Borders), vi p_m.Step, .d (L60 p_m.Heights), .d (L51 p_m.Sides), vi p_m.Inks, .d (L51 p_m.Like)]] [] (by kernel_rfl) trivial ?_
    obtain rfl := Option.some.inj h
    refine awp_wk 1 [4, 5] (by kernel_rfl) [(4, .d dnil), (5, vi x1.2)] [.cells [.d (L60 p_m.Borders), vi p_m.Step, .d (L60 p_m.Heights), .d (L51 p_m.Sides), vi p_m.Inks, .d (L51 p_m.Like)]] (by kernel_rfl) (by kernel_rfl) ?_
    refine awp_laxT 4 _ (L60 ([] : List S_api_Span)) _ (by kernel_rfl) (.nil (e := 2)) rfl ?_
    refine awp_wk 1 [4, 5] (by kernel_rfl) [(4, .d (L60 ([] : List S_api_Span))), (5, vi x1.2)] [.cells [.d (L60 p_m.Borders), vi p_m.Step, .d (L60 p_m.Heights), .d (L51 p_m.Sides), vi p_m.Inks, .d (L51 p_m.Like)]] (by kernel_rfl) (by kernel_rfl) ?_
    exact awp_ret (main_ret (by kernel_rfl))
  · rw [if_neg (ntrue hb2)] at h
    refine awp_skip ?_
    show awp _ _ _ _ _ _ _ _
    obtain ⟨x3, hx3, h⟩ := Option.bind_eq_some_iff.1 h
    refine awp_sreg tt_ok (ks := [4, 5]) (hs := [.no, .no, .call [(.agg [(L60 p_m.Borders), (di p_m.Step), (L60 p_m.Heights), (L51 p_m.Sides), (di p_m.Inks), (L51 p_m.Like)]), (L3 legend)] (.d (L60 x3))]) [(4, .d (L60 x3)), (5, vi 0)] [.cells [.d (L60 p_m.Borders), vi p_m.Step, .d (L60 p_m.Heights), .d (L51 p_m.Sides), vi p_m.Inks, .d (L51 p_m.Like)]] [PCall Try.prog 65 [(.agg [(L60 p_m.Borders), (di p_m.Step), (L60 p_m.Heights), (L51 p_m.Sides), (di p_m.Inks), (L51 p_m.Like)]), (L3 legend)] (.d (L60 x3))] (by kernel_rfl) (ct65 hx3) ?_
    obtain rfl := Option.some.inj h
    refine awp_wk 1 [4, 5] (by kernel_rfl) [(4, .d (L60 x3)), (5, vi 0)] [.cells [.d (L60 p_m.Borders), vi p_m.Step, .d (L60 p_m.Heights), .d (L51 p_m.Sides), vi p_m.Inks, .d (L51 p_m.Like)]] (by kernel_rfl) (by kernel_rfl) ?_
    exact awp_ret (main_ret (by kernel_rfl))

set_option maxRecDepth 100000 in
theorem ct66 {fuel : Nat}  {p_m : S_api_ClMap} {legend : (List Int)} {res : (List Int)} (h : F66 fuel p_m legend = some res) : PCall Try.prog 66 [(.agg [(L60 p_m.Borders), (di p_m.Step), (L60 p_m.Heights), (L51 p_m.Sides), (di p_m.Inks), (L51 p_m.Like)]), (L3 legend)] (.d (L3 res)) := by
  refine PCall.of_awp tt_ok (N := 33) Try.func66 rfl (by kernel_rfl) rfl (Nat.le_of_ble_eq_true rfl) rfl ?_
  unfold F66 at h
  refine awp_sreg tt_ok (ks := [1, 2]) (hs := []) [(1, .d (L3 legend)), (2, .ref 0 0)] [.cells [.d (L60 p_m.Borders), vi p_m.Step, .d (L60 p_m.Heights), .d (L51 p_m.Sides), vi p_m.Inks, .d (L51 p_m.Like)]] [] (by kernel_rfl) trivial ?_
  refine awp_sreg tt_ok (ks := [1, 2, 5]) (hs := []) [(1, .d (L3 legend)), (2, .ref 0 0), (5, .d dnil)] [.cells [.d (L60 p_m.Borders), vi p_m.Step, .d (L60 p_m.Heights), .d (L51 p_m.Sides), vi p_m.Inks, .d (L51 p_m.Like)]] [] (by kernel_rfl) trivial ?_
  obtain ⟨x1, hx1, h⟩ := Option.bind_eq_some_iff.1 h
  refine awp_sreg tt_ok (ks := [5, 6]) (hs := [.no, .no, .call [(.agg [(L60 p_m.Borders), (di p_m.Step), (L60 p_m.Heights), (L51 p_m.Sides), (di p_m.Inks), (L51 p_m.Like)]), (L3 legend)] (.d (L60 x1))]) [(5, .d dnil), (6, .d (L60 x1))] [.cells [.d (L60 p_m.Borders), vi p_m.Step, .d (L60 p_m.Heights), .d (L51 p_m.Sides), vi p_m.Inks, .d (L51 p_m.Like)]] [PCall Try.prog 65 [(.agg [(L60 p_m.Borders), (di p_m.Step), (L60 p_m.Heights), (L51 p_m.Sides), (di p_m.Inks), (L51 p_m.Like)]), (L3 legend)] (.d (L60 x1))] (by kernel_rfl) (ct65 hx1) ?_
  refine awp_seq ?_
  refine awp_sreg tt_ok (ks := [5, 6, 7]) (hs := []) [(5, .d dnil), (6, .d (L60 x1)), (7, vi 0)] [.cells [.d (L60 p_m.Borders), vi p_m.Step, .d (L60 p_m.Heights), .d (L51 p_m.Sides), vi p_m.Inks, .d (L51 p_m.Like)]] [] (by kernel_rfl) trivial ?_
  refine awp_nil 5 1 (by kernel_rfl) ?_
  refine awp_eq (T' := [(5, .sl 1 1 0 ([] : List Int).length), (6, .d (L60 x1)), (7, vi 0)]) (H' := [.cells [.d (L60 p_m.Borders), vi p_m.Step, .d (L60 p_m.Heights), .d (L51 p_m.Sides), vi p_m.Inks, .d (L51 p_m.Like)], .data (([] : List Int).flatMap cel3)]) (by kernel_rfl) (by kernel_rfl) ?_
  refine awp_wk 2 [5, 6, 7] (by kernel_rfl) [(5, .sl 1 1 0 ([] : List Int).length), (6, .d (L60 x1)), (7, vi 0)] [.cells [.d (L60 p_m.Borders), vi p_m.Step, .d (L60 p_m.Heights), .d (L51 p_m.Sides), vi p_m.Inks, .d (L51 p_m.Like)], .data (([] : List Int).flatMap cel3)] (by kernel_rfl) (by kernel_rfl) ?_
  obtain ⟨o3, ho3, h⟩ := Option.bind_eq_some_iff.1 h
  refine awp_cut1 (OutQ (fun (ro3 : (List Int)) => [(4, .d (L3 ro3))]) (fun (ro3 : (List Int)) => []) (fun (so3 : (List Int)) => [(5, .sl 1 1 0 so3.length)]) (fun (so3 : (List Int)) => [.cells [.d (L60 p_m.Borders), vi p_m.Step, .d (L60 p_m.Heights), .d (L51 p_m.Sides), vi p_m.Inks, .d (L51 p_m.Like)], .data (so3.flatMap cel3)]) o3) ?_ ?_
  · clear h
    have h := ho3
    clear ho3
    refine awp_selQ ?_
    refine awp_wk 2 [5, 6, 7] (by kernel_rfl) [(5, .sl 1 1 0 ([] : List Int).length), (6, .d (L60 x1)), (7, vi 0)] [.cells [.d (L60 p_m.Borders), vi p_m.Step, .d (L60 p_m.Heights), .d (L51 p_m.Sides), vi p_m.Inks, .d (L51 p_m.Like)], .data (([] : List Int).flatMap cel3)] (by kernel_rfl) (by kernel_rfl) ?_
    refine awp_block ?_
    refine awp_loop (n := fuel) ?_
    refine awpN_ind (fun n (c4 : Int × (List Int)) => F66L1 x1 n c4) o3 (fun (c4 : Int × (List Int)) => [(5, .sl 1 1 0 c4.2.length), (6, .d (L60 x1)), (7, vi c4.1)]) (fun (c4 : Int × (List Int)) => [.cells [.d (L60 p_m.Borders), vi p_m.Step, .d (L60 p_m.Heights), .d (L51 p_m.Sides), vi p_m.Inks, .d (L51 p_m.Like)], .data (c4.2.flatMap cel3)]) (fun _ => rfl) ?_ fuel (0, ([] : List Int)) h
    clear h
    intro n5 c4 h hrn5
    change F66L1 x1 (n5 + 1) c4 = some o3 at h
    rw [F66L1] at h
    refine awp_seq ?_
    refine awp_sreg tt_ok (ks := [5, 6, 7, 14]) (hs := []) [(5, .sl 1 1 0 c4.2.length), (6, .d (L60 x1)), (7, vi c4.1), (14, vb (decide (c4.1 < (x1.length : Int))))] [.cells [.d (L60 p_m.Borders), vi p_m.Step, .d (L60 p_m.Heights), .d (L51 p_m.Sides), vi p_m.Inks, .d (L51 p_m.Like)], .data (c4.2.flatMap cel3)] [] (by kernel_rfl) trivial ?_
    refine awp_cond (b := (decide (c4.1 < (x1.length : Int)))) (by kernel_rfl) (fun hb6 => ?_) (fun hb6 => ?_)
    · rw [if_pos hb6] at h
      refine awp_skip ?_
      show awp _ _ _ _ _ _ _ _
      refine awp_seq ?_
      refine awp_block ?_
      obtain ⟨x7, hx7, h⟩ := Option.bind_eq_some_iff.1 h
      obtain ⟨x8, hx8, h⟩ := Option.bind_eq_some_iff.1 h
      refine awp_sdraw tt_ok mixed (ks := [5, 6, 7, 27]) (hs := [.no, .no, .cells (cel60 x7), .no, .no, .no, .no, .cells (cel60 x8)]) 10 [5, 6, 7, 21, 26, 27] [(5, .sl 1 1 0 c4.2.length), (6, .d (L60 x1)), (7, vi c4.1), (27, vb (decide (x7.Lo < x8.Hi)))] [.cells [.d (L60 p_m.Borders), vi p_m.Step, .d (L60 p_m.Heights), .d (L51 p_m.Sides), vi p_m.Inks, .d (L51 p_m.Like)], .data (c4.2.flatMap cel3)] [IX60 x1 c4.1 x7, IX60 x1 c4.1 x8] (by kernel_rfl) (And.intro (idxOk cel60_len hx7) (idxOk cel60_len hx8)) ?_
      refine awp_cond (b := (decide (x7.Lo < x8.Hi))) (by kernel_rfl) (fun hb9 => ?_) (fun hb9 => ?_)
      · rw [if_pos hb9] at h
        obtain ⟨x10, hx10, h⟩ := Option.bind_eq_some_iff.1 h
        refine awp_region (T' := [(5, .sl 1 1 0 (c4.2 ++ ([c4.1] : List Int)).length), (6, .d (L60 x1)), (7, vi c4.1)]) (H' := [.cells [.d (L60 p_m.Borders), vi p_m.Step, .d (L60 p_m.Heights), .d (L51 p_m.Sides), vi p_m.Inks, .d (L51 p_m.Like)], .data ((c4.2 ++ ([c4.1] : List Int)).flatMap cel3)]) (ps := [AppendOk ((c4.2.flatMap cel3).map .d) c4.2.length ([c4.1] : List Int).length (c4.2 ++ ([c4.1] : List Int)).length 1 8 (([c4.1] : List Int).flatMap cel3) ((c4.2 ++ ([c4.1] : List Int)).flatMap cel3)]) tt_ok (ks := [5, 6, 7]) (hs := [.no, .no, .no, .list (c4.2 ++ ([c4.1] : List Int)).length ((c4.2 ++ ([c4.1] : List Int)).flatMap cel3)]) (by kernel_rfl) (appendOk cel3_len (need_of hx10)) ?_
        show awp _ _ _ _ _ _ _ _
        refine awp_region (T' := [(5, .sl 1 1 0 (c4.2 ++ ([c4.1] : List Int)).length), (6, .d (L60 x1)), (7, vi (w64 (c4.1 + 1)))]) (H' := [.cells [.d (L60 p_m.Borders), vi p_m.Step, .d (L60 p_m.Heights), .d (L51 p_m.Sides), vi p_m.Inks, .d (L51 p_m.Like)], .data ((c4.2 ++ ([c4.1] : List Int)).flatMap cel3)]) (ps := []) tt_ok (ks := [5, 6, 7]) (hs := []) (by kernel_rfl) trivial ?_
        exact awpN_wk 2 [5, 6, 7] (by kernel_rfl) _ _ (by kernel_rfl) (by kernel_rfl) (hrn5 ((w64 (c4.1 + 1)), (c4.2 ++ ([c4.1] : List Int))) h)
      · rw [if_neg (ntrue hb9)] at h
        refine awp_skip ?_
        show awp _ _ _ _ _ _ _ _
        refine awp_region (T' := [(5, .sl 1 1 0 c4.2.length), (6, .d (L60 x1)), (7, vi (w64 (c4.1 + 1)))]) (H' := [.cells [.d (L60 p_m.Borders), vi p_m.Step, .d (L60 p_m.Heights), .d (L51 p_m.Sides), vi p_m.Inks, .d (L51 p_m.Like)], .data (c4.2.flatMap cel3)]) (ps := []) tt_ok (ks := [5, 6, 7]) (hs := []) (by kernel_rfl) trivial ?_
        exact awpN_wk 2 [5, 6, 7] (by kernel_rfl) _ _ (by kernel_rfl) (by kernel_rfl) (hrn5 ((w64 (c4.1 + 1)), c4.2) h)
    · rw [if_neg (ntrue hb6)] at h
      refine awp_exit ?_
      obtain rfl := Option.some.inj h
      exact Sel.mk [0, 1] [5] (by kernel_rfl) (by kernel_rfl) (by kernel_rfl) OutQ.norm
  · intro e T H hq
    cases o3 with
    | inl ro3 =>
      obtain ⟨rfl, rfl, rfl⟩ := hq
      rw [outK_inl] at h
      obtain rfl := Option.some.inj h
      exact main_ret (by kernel_rfl)
    | inr so3 =>
      obtain ⟨rfl, rfl, rfl⟩ := hq
      rw [outK_inr] at h
      show awp _ _ _ _ _ _ _ _
      refine awp_sreg tt_ok (ks := [4]) (hs := []) [(4, .sl 1 1 0 so3.length)] [.cells [.d (L60 p_m.Borders), vi p_m.Step, .d (L60 p_m.Heights), .d (L51 p_m.Sides), vi p_m.Inks, .d (L51 p_m.Like)], .data (so3.flatMap cel3)] [] (by kernel_rfl) trivial ?_
      obtain rfl := Option.some.inj h
      refine awp_wk 2 [4] (by kernel_rfl) [(4, .sl 1 1 0 so3.length)] [.cells [.d (L60 p_m.Borders), vi p_m.Step, .d (L60 p_m.Heights), .d (L51 p_m.Sides), vi p_m.Inks, .d (L51 p_m.Like)], .data (so3.flatMap cel3)] (by kernel_rfl) (by kernel_rfl) ?_
      refine awp_freeze 4 1 (so3.flatMap cel3) (.sl 1 1 0 so3.length) (.d (L3 so3)) _ _ (ps := [(so3.flatMap cel3).length = so3.length * 1]) (by kernel_rfl) (by kernel_rfl) (by kernel_rfl) (flatMap_len cel3 1 cel3_len so3) rfl rfl ?_
      refine awp_wk 2 [4] (by kernel_rfl) [(4, .d (L3 so3))] [.cells [.d (L60 p_m.Borders), vi p_m.Step, .d (L60 p_m.Heights), .d (L51 p_m.Sides), vi p_m.Inks, .d (L51 p_m.Like)], .data (([] : List Int).flatMap cel3)] (by kernel_rfl) (by kernel_rfl) ?_
      exact awp_ret (main_ret (by kernel_rfl))

set_option maxRecDepth 100000 in
theorem ct25 {fuel : Nat}  {p_m : S_api_ClMap} {legend : (List Int)} {res : (List Int) × Int} (h : F25 fuel p_m legend = some res) : PCall Try.prog 25 [(.agg [(L60 p_m.Borders), (di p_m.Step), (L60 p_m.Heights), (L51 p_m.Sides), (di p_m.Inks), (L51 p_m.Like)]), (L3 legend)] (.tup [.d (L3 res.1), vi res.2]) := by
  refine PCall.of_awp tt_ok (N := 20) Try.func25 rfl (by kernel_rfl) rfl (Nat.le_of_ble_eq_true rfl) rfl ?_
  unfold F25 at h
  refine awp_sreg tt_ok (ks := [1, 2]) (hs := []) [(1, .d (L3 legend)), (2, .ref 0 0)] [.cells [.d (L60 p_m.Borders), vi p_m.Step, .d (L60 p_m.Heights), .d (L51 p_m.Sides), vi p_m.Inks, .d (L51 p_m.Like)]] [] (by kernel_rfl) trivial ?_
  obtain ⟨x1, hx1, h⟩ := Option.bind_eq_some_iff.1 h
  refine awp_sreg tt_ok (ks := [1, 2, 7]) (hs := [.no, .no, .call [(.agg [(L60 p_m.Borders), (di p_m.Step), (L60 p_m.Heights), (L51 p_m.Sides), (di p_m.Inks), (L51 p_m.Like)]), (L3 legend)] (.tup [vi x1.1, vi x1.2])]) [(1, .d (L3 legend)), (2, .ref 0 0), (7, vi x1.2)] [.cells [.d (L60 p_m.Borders), vi p_m.Step, .d (L60 p_m.Heights), .d (L51 p_m.Sides), vi p_m.Inks, .d (L51 p_m.Like)]] [PCall Try.prog 20 [(.agg [(L60 p_m.Borders), (di p_m.Step), (L60 p_m.Heights), (L51 p_m.Sides), (di p_m.Inks), (L51 p_m.Like)]), (L3 legend)] (.tup [vi x1.1, vi x1.2])] (by kernel_rfl) (ct20 hx1) ?_
  refine awp_seq ?_
  refine awp_sreg tt_ok (ks := [1, 2, 7, 15]) (hs := []) [(1, .d (L3 legend)), (2, .ref 0 0), (7, vi x1.2), (15, vb (x1.2 != 0))] [.cells [.d (L60 p_m.Borders), vi p_m.Step, .d (L60 p_m.Heights), .d (L51 p_m.Sides), vi p_m.Inks, .d (L51 p_m.Like)]] [] (by kernel_rfl) trivial ?_
  refine awp_cond (b := (x1.2 != 0)) (by kernel_rfl) (fun hb2 => ?_) (fun hb2 => ?_)
  · rw [if_pos hb2] at h
    refine awp_sreg tt_ok (ks := [4, 5]) (hs := []) [(4, .d dnil), (5, vi x1.2)] [.cells [.d (L60 p_m.Borders), vi p_m.Step, .d (L60 p_m.Heights), .d (L51 p_m.Sides), vi p_m.Inks, .d (L51 p_m.Like)]] [] (by kernel_rfl) trivial ?_
    obtain rfl := Option.some.inj h
    refine awp_wk 1 [4, 5] (by kernel_rfl) [(4, .d dnil), (5, vi x1.2)] [.cells [.d (L60 p_m.Borders), vi p_m.Step, .d (L60 p_m.Heights), .d (L51 p_m.Sides), vi p_m.Inks, .d (L51 p_m.Like)]] (by kernel_rfl) (by kernel_rfl) ?_
    refine awp_laxT 4 _ (L3 ([] : List Int)) _ (by kernel_rfl) (.nil (e := 1)) rfl ?_
    refine awp_wk 1 [4, 5] (by kernel_rfl) [(4, .d (L3 ([] : List Int))), (5, vi x1.2)] [.cells [.d (L60 p_m.Borders), vi p_m.Step, .d (L60 p_m.Heights), .d (L51 p_m.Sides), vi p_m.Inks, .d (L51 p_m.Like)]] (by kernel_rfl) (by kernel_rfl) ?_
    exact awp_ret (main_ret (by kernel_rfl))
  · rw [if_neg (ntrue hb2)] at h
    refine awp_skip ?_
    show awp _ _ _ _ _ _ _ _
    obtain ⟨x3, hx3, h⟩ := Option.bind_eq_some_iff.1 h
    refine awp_sreg tt_ok (ks := [4, 5]) (hs := [.no, .no, .call [(.agg [(L60 p_m.Borders), (di p_m.Step), (L60 p_m.Heights), (L51 p_m.Sides), (di p_m.Inks), (L51 p_m.Like)]), (L3 legend)] (.d (L3 x3))]) [(4, .d (L3 x3)), (5, vi 0)] [.cells [.d (L60 p_m.Borders), vi p_m.Step, .d (L60 p_m.Heights), .d (L51 p_m.Sides), vi p_m.Inks, .d (L51 p_m.Like)]] [PCall Try.prog 66 [(.agg [(L60 p_m.Borders), (di p_m.Step), (L60 p_m.Heights), (L51 p_m.Sides), (di p_m.Inks), (L51 p_m.Like)]), (L3 legend)] (.d (L3 x3))] (by kernel_rfl) (ct66 hx3) ?_
    obtain rfl := Option.some.inj h
    refine awp_wk 1 [4, 5] (by kernel_rfl) [(4, .d (L3 x3)), (5, vi 0)] [.cells [.d (L60 p_m.Borders), vi p_m.Step, .d (L60 p_m.Heights), .d (L51 p_m.Sides), vi p_m.Inks, .d (L51 p_m.Like)]] (by kernel_rfl) (by kernel_rfl) ?_
    exact awp_ret (main_ret (by kernel_rfl))

set_option maxRecDepth 100000 in
theorem ct84  {all : (List S_api_Span)} {side : S_api_ClPair} {p_a : Int} {p_b : Int} {res : Bool} (h : F84 all side p_a p_b = some res) : PCall Try.prog 84 [(L60 all), (.agg [(di side.A), (di side.B)]), (di p_a), (di p_b)] (vb res) := by
  refine PCall.of_awp tt_ok (N := 51) Try.func84 rfl (by kernel_rfl) rfl (Nat.le_of_ble_eq_true rfl) rfl ?_
  unfold F84 at h
  refine awp_sreg tt_ok (ks := [0, 2, 3, 5]) (hs := []) [(0, .d (L60 all)), (2, vi p_a), (3, vi p_b), (5, .ref 0 0)] [.cells [vi side.A, vi side.B]] [] (by kernel_rfl) trivial ?_
  refine awp_res [.cells [vi side.A, vi side.B], .data []] (by kernel_rfl) ?_
  refine awp_res [.cells [vi side.A, vi side.B], .data [], .data []] (by kernel_rfl) ?_
  obtain ⟨x1, hx1, h⟩ := Option.bind_eq_some_iff.1 h
  obtain ⟨x2, hx2, h⟩ := Option.bind_eq_some_iff.1 h
  refine awp_seq (awp_any (T' := [(2, vi p_a), (3, vi p_b), (9, .ref 1 0), (10, .ref 2 0)]) (H' := [.cells [vi side.A, vi side.B], .cells [vi x1.Lo, vi x1.Hi], .cells [vi x2.Lo, vi x2.Hi]]) (ps := [IX60 all side.A x1, IX60 all side.B x2]) tt_ok mixed (ks := [2, 3, 9, 10]) (hs := [.no, .no, .no, .cells (cel60 x1), .no, .no, .no, .no, .cells (cel60 x2), .no, .res 1, .res 2]) (m := 13) (mid := [2, 3, 9, 10, 20]) (by kernel_rfl) (And.intro (idxOk cel60_len hx1) (idxOk cel60_len hx2)) ?_)
  show awp _ _ _ _ _ _ _ _
  obtain ⟨x3, hx3, h⟩ := Option.bind_eq_some_iff.1 h
  obtain ⟨x4, hx4, h⟩ := Option.bind_eq_some_iff.1 h
  obtain ⟨x5, hx5, h⟩ := Option.bind_eq_some_iff.1 h
  obtain ⟨x6, hx6, h⟩ := Option.bind_eq_some_iff.1 h
  refine awp_sreg tt_ok (ks := [8]) (hs := [.no, .no, .no, .no, .no, .call [(di p_a), (di x1.Lo), (di x1.Hi)] (vb x3), .no, .no, .no, .no, .no, .no, .call [(di p_b), (di x2.Lo), (di x2.Hi)] (vb x4), .no, .no, .no, .no, .no, .no, .no, .call [(di p_b), (di x1.Lo), (di x1.Hi)] (vb x5), .no, .no, .no, .no, .no, .no, .call [(di p_a), (di x2.Lo), (di x2.Hi)] (vb x6), .own]) [(8, vb (cond (cond x3 x4 false) true (cond x5 x6 false)))] [.cells [vi side.A, vi side.B], .cells [vi x1.Lo, vi x1.Hi], .cells [vi x2.Lo, vi x2.Hi]] [PCall Try.prog 61 [(di p_a), (di x1.Lo), (di x1.Hi)] (vb x3), (x3 = true → x3 = true), (x3 = true → x3 = true), (x3 = true → x3 = true), (x3 = true → x3 = true), (x3 = true → x3 = true), (x3 = true → PCall Try.prog 61 [(di p_b), (di x2.Lo), (di x2.Hi)] (vb x4)), (x3 = true → x3 = true), ((!(cond x3 x4 false)) = true → (!(cond x3 x4 false)) = true), ((!(cond x3 x4 false)) = true → (!(cond x3 x4 false)) = true), ((!(cond x3 x4 false)) = true → (!(cond x3 x4 false)) = true), ((!(cond x3 x4 false)) = true → (!(cond x3 x4 false)) = true), ((!(cond x3 x4 false)) = true → (!(cond x3 x4 false)) = true), ((!(cond x3 x4 false)) = true → PCall Try.prog 61 [(di p_b), (di x1.Lo), (di x1.Hi)] (vb x5)), ((!(cond x3 x4 false)) = true → (!(cond x3 x4 false)) = true), (((!(cond x3 x4 false)) && x5) = true → ((!(cond x3 x4 false)) && x5) = true), (((!(cond x3 x4 false)) && x5) = true → ((!(cond x3 x4 false)) && x5) = true), (((!(cond x3 x4 false)) && x5) = true → ((!(cond x3 x4 false)) && x5) = true), (((!(cond x3 x4 false)) && x5) = true → ((!(cond x3 x4 false)) && x5) = true), (((!(cond x3 x4 false)) && x5) = true → ((!(cond x3 x4 false)) && x5) = true), (((!(cond x3 x4 false)) && x5) = true → PCall Try.prog 61 [(di p_a), (di x2.Lo), (di x2.Hi)] (vb x6)), ((!(cond x3 x4 false)) = true → (!(cond x3 x4 false)) = true), ((!(cond x3 x4 false)) = true → x5 = true → ((!(cond x3 x4 false)) && x5) = true), ((cond x3 x4 false) = false → (!(cond x3 x4 false)) = true)] (by kernel_rfl) (And.intro (ct61 hx3) (And.intro (id) (And.intro (id) (And.intro (id) (And.intro (id) (And.intro (id) (And.intro ((fun hg => ct61 (optG_of hx4 hg))) (And.intro (id) (And.intro (id) (And.intro (id) (And.intro (id) (And.intro (id) (And.intro (id) (And.intro ((fun hg => ct61 (optG_of hx5 hg))) (And.intro (id) (And.intro (id) (And.intro (id) (And.intro (id) (And.intro (id) (And.intro (id) (And.intro ((fun hg => ct61 (optG_of hx6 hg))) (And.intro (id) (And.intro ((fun hg h1 => by first | exact hg | exact h1 | (rw [hg, h1]; rfl) | (simp only [hg, h1, Bool.not_true, Bool.not_false, Bool.and_self, Bool.true_and, Bool.and_true]; done) | (simp only [Bool.and_eq_true] at hg; simp only [hg, h1, Bool.not_true, Bool.not_false, Bool.and_self, Bool.true_and, Bool.and_true]; done) | simp_all)) (not_of)))))))))))))))))))))))) ?_
  obtain rfl := Option.some.inj h
  refine awp_wk 3 [8] (by kernel_rfl) [(8, vb (cond (cond x3 x4 false) true (cond x5 x6 false)))] [.cells [vi side.A, vi side.B], .cells [vi x1.Lo, vi x1.Hi], .cells [vi x2.Lo, vi x2.Hi]] (by kernel_rfl) (by kernel_rfl) ?_
  exact awp_ret (main_ret (by kernel_rfl))

set_option maxRecDepth 100000 in
theorem ct67 {fuel : Nat}  {p_m : S_api_ClMap} {legend : (List Int)} {res : (List S_api_ClPair)} (h : F67 fuel p_m legend = some res) : PCall Try.prog 67 [(.agg [(L60 p_m.Borders), (di p_m.Step), (L60 p_m.Heights), (L51 p_m.Sides), (di p_m.Inks), (L51 p_m.Like)]), (L3 legend)] (.d (L51 res)) := by
  refine PCall.of_awp tt_ok (N := 55) Try.func67 rfl (by kernel_rfl) rfl (Nat.le_of_ble_eq_true rfl) rfl ?_
  unfold F67 at h
  refine awp_sreg tt_ok (ks := [1, 2]) (hs := []) [(1, .d (L3 legend)), (2, .ref 0 0)] [.cells [.d (L60 p_m.Borders), vi p_m.Step, .d (L60 p_m.Heights), .d (L51 p_m.Sides), vi p_m.Inks, .d (L51 p_m.Like)]] [] (by kernel_rfl) trivial ?_
  refine awp_sreg tt_ok (ks := [1, 2, 5]) (hs := []) [(1, .d (L3 legend)), (2, .ref 0 0), (5, .d dnil)] [.cells [.d (L60 p_m.Borders), vi p_m.Step, .d (L60 p_m.Heights), .d (L51 p_m.Sides), vi p_m.Inks, .d (L51 p_m.Like)]] [] (by kernel_rfl) trivial ?_
  obtain ⟨x1, hx1, h⟩ := Option.bind_eq_some_iff.1 h
  refine awp_sreg tt_ok (ks := [1, 2, 5, 6]) (hs := [.no, .no, .call [(.agg [(L60 p_m.Borders), (di p_m.Step), (L60 p_m.Heights), (L51 p_m.Sides), (di p_m.Inks), (L51 p_m.Like)]), (L3 legend)] (.d (L60 x1))]) [(1, .d (L3 legend)), (2, .ref 0 0), (5, .d dnil), (6, .d (L60 x1))] [.cells [.d (L60 p_m.Borders), vi p_m.Step, .d (L60 p_m.Heights), .d (L51 p_m.Sides), vi p_m.Inks, .d (L51 p_m.Like)]] [PCall Try.prog 65 [(.agg [(L60 p_m.Borders), (di p_m.Step), (L60 p_m.Heights), (L51 p_m.Sides), (di p_m.Inks), (L51 p_m.Like)]), (L3 legend)] (.d (L60 x1))] (by kernel_rfl) (ct65 hx1) ?_
  refine awp_seq ?_
  refine awp_sreg tt_ok (ks := [1, 2, 5, 6, 7]) (hs := []) [(1, .d (L3 legend)), (2, .ref 0 0), (5, .d dnil), (6, .d (L60 x1)), (7, vi 0)] [.cells [.d (L60 p_m.Borders), vi p_m.Step, .d (L60 p_m.Heights), .d (L51 p_m.Sides), vi p_m.Inks, .d (L51 p_m.Like)]] [] (by kernel_rfl) trivial ?_
  refine awp_nil 5 2 (by kernel_rfl) ?_
  refine awp_eq (T' := [(5, .sl 2 1 0 ([] : List S_api_ClPair).length), (1, .d (L3 legend)), (2, .ref 0 0), (6, .d (L60 x1)), (7, vi 0)]) (H' := [.cells [.d (L60 p_m.Borders), vi p_m.Step, .d (L60 p_m.Heights), .d (L51 p_m.Sides), vi p_m.Inks, .d (L51 p_m.Like)], .data (([] : List S_api_ClPair).flatMap cel51)]) (by kernel_rfl) (by kernel_rfl) ?_
  refine awp_wk 2 [1, 2, 5, 6, 7] (by kernel_rfl) [(1, .d (L3 legend)), (2, .ref 0 0), (5, .sl 2 1 0 ([] : List S_api_ClPair).length), (6, .d (L60 x1)), (7, vi 0)] [.cells [.d (L60 p_m.Borders), vi p_m.Step, .d (L60 p_m.Heights), .d (L51 p_m.Sides), vi p_m.Inks, .d (L51 p_m.Like)], .data (([] : List S_api_ClPair).flatMap cel51)] (by kernel_rfl) (by kernel_rfl) ?_
  obtain ⟨o3, ho3, h⟩ := Option.bind_eq_some_iff.1 h
  refine awp_cut1 (OutQ (fun (ro3 : (List S_api_ClPair)) => [(4, .d (L51 ro3))]) (fun (ro3 : (List S_api_ClPair)) => []) (fun (so3 : (List S_api_ClPair)) => [(5, .sl 2 1 0 so3.length)]) (fun (so3 : (List S_api_ClPair)) => [.cells [.d (L60 p_m.Borders), vi p_m.Step, .d (L60 p_m.Heights), .d (L51 p_m.Sides), vi p_m.Inks, .d (L51 p_m.Like)], .data (so3.flatMap cel51)]) o3) ?_ ?_
  · clear h
    have h := ho3
    clear ho3
    refine awp_selQ ?_
    refine awp_wk 2 [1, 2, 5, 6, 7] (by kernel_rfl) [(1, .d (L3 legend)), (2, .ref 0 0), (5, .sl 2 1 0 ([] : List S_api_ClPair).length), (6, .d (L60 x1)), (7, vi 0)] [.cells [.d (L60 p_m.Borders), vi p_m.Step, .d (L60 p_m.Heights), .d (L51 p_m.Sides), vi p_m.Inks, .d (L51 p_m.Like)], .data (([] : List S_api_ClPair).flatMap cel51)] (by kernel_rfl) (by kernel_rfl) ?_
    refine awp_block ?_
    refine awp_loop (n := fuel) ?_
    refine awpN_ind (fun n (c4 : Int × (List S_api_ClPair)) => F67L1 fuel p_m legend x1 n c4) o3 (fun (c4 : Int × (List S_api_ClPair)) => [(1, .d (L3 legend)), (2, .ref 0 0), (5, .sl 2 1 0 c4.2.length), (6, .d (L60 x1)), (7, vi c4.1)]) (fun (c4 : Int × (List S_api_ClPair)) => [.cells [.d (L60 p_m.Borders), vi p_m.Step, .d (L60 p_m.Heights), .d (L51 p_m.Sides), vi p_m.Inks, .d (L51 p_m.Like)], .data (c4.2.flatMap cel51)]) (fun _ => rfl) ?_ fuel (0, ([] : List S_api_ClPair)) h
    clear h
    intro n5 c4 h hrn5
    change F67L1 fuel p_m legend x1 (n5 + 1) c4 = some o3 at h
    rw [F67L1] at h
    refine awp_seq ?_
    refine awp_sreg tt_ok (ks := [1, 2, 5, 6, 7, 17]) (hs := []) [(1, .d (L3 legend)), (2, .ref 0 0), (5, .sl 2 1 0 c4.2.length), (6, .d (L60 x1)), (7, vi c4.1), (17, vb (decide (c4.1 ≤ (legend.length : Int))))] [.cells [.d (L60 p_m.Borders), vi p_m.Step, .d (L60 p_m.Heights), .d (L51 p_m.Sides), vi p_m.Inks, .d (L51 p_m.Like)], .data (c4.2.flatMap cel51)] [] (by kernel_rfl) trivial ?_
    refine awp_cond (b := (decide (c4.1 ≤ (legend.length : Int)))) (by kernel_rfl) (fun hb6 => ?_) (fun hb6 => ?_)
    · rw [if_pos hb6] at h
      refine awp_skip ?_
      show awp _ _ _ _ _ _ _ _
      refine awp_seq ?_
      refine awp_block ?_
      refine awp_sreg tt_ok (ks := [1, 2, 5, 6, 7, 8]) (hs := []) [(1, .d (L3 legend)), (2, .ref 0 0), (5, .sl 2 1 0 c4.2.length), (6, .d (L60 x1)), (7, vi c4.1), (8, vi (w64 (c4.1 + 1)))] [.cells [.d (L60 p_m.Borders), vi p_m.Step, .d (L60 p_m.Heights), .d (L51 p_m.Sides), vi p_m.Inks, .d (L51 p_m.Like)], .data (c4.2.flatMap cel51)] [] (by kernel_rfl) trivial ?_
      obtain ⟨o7, ho7, h⟩ := Option.bind_eq_some_iff.1 h
      refine awp_cut1 (OutQ (fun (ro7 : (List S_api_ClPair)) => [(4, .d (L51 ro7))]) (fun (ro7 : (List S_api_ClPair)) => []) (fun (so7 : (List S_api_ClPair)) => [(1, .d (L3 legend)), (2, .ref 0 0), (5, .sl 2 1 0 so7.length), (6, .d (L60 x1)), (7, vi c4.1)]) (fun (so7 : (List S_api_ClPair)) => [.cells [.d (L60 p_m.Borders), vi p_m.Step, .d (L60 p_m.Heights), .d (L51 p_m.Sides), vi p_m.Inks, .d (L51 p_m.Like)], .data (so7.flatMap cel51)]) o7) ?_ ?_
      · clear h
        have h := ho7
        clear ho7
        refine awp_selQ ?_
        refine awp_wk 2 [1, 2, 5, 6, 7, 8] (by kernel_rfl) [(1, .d (L3 legend)), (2, .ref 0 0), (5, .sl 2 1 0 c4.2.length), (6, .d (L60 x1)), (7, vi c4.1), (8, vi (w64 (c4.1 + 1)))] [.cells [.d (L60 p_m.Borders), vi p_m.Step, .d (L60 p_m.Heights), .d (L51 p_m.Sides), vi p_m.Inks, .d (L51 p_m.Like)], .data (c4.2.flatMap cel51)] (by kernel_rfl) (by kernel_rfl) ?_
        refine awp_block ?_
        refine awp_loop (n := fuel) ?_
        refine awpN_ind (fun n (c8 : Int × (List S_api_ClPair)) => F67L2 fuel p_m legend x1 c4 n c8) o7 (fun (c8 : Int × (List S_api_ClPair)) => [(1, .d (L3 legend)), (2, .ref 0 0), (5, .sl 2 1 0 c8.2.length), (6, .d (L60 x1)), (7, vi c4.1), (8, vi c8.1)]) (fun (c8 : Int × (List S_api_ClPair)) => [.cells [.d (L60 p_m.Borders), vi p_m.Step, .d (L60 p_m.Heights), .d (L51 p_m.Sides), vi p_m.Inks, .d (L51 p_m.Like)], .data (c8.2.flatMap cel51)]) (fun _ => rfl) ?_ fuel ((w64 (c4.1 + 1)), c4.2) h
        clear h
        intro n9 c8 h hrn9
        change F67L2 fuel p_m legend x1 c4 (n9 + 1) c8 = some o7 at h
        rw [F67L2] at h
        refine awp_seq ?_
        refine awp_sreg tt_ok (ks := [1, 2, 5, 6, 7, 8, 25]) (hs := []) [(1, .d (L3 legend)), (2, .ref 0 0), (5, .sl 2 1 0 c8.2.length), (6, .d (L60 x1)), (7, vi c4.1), (8, vi c8.1), (25, vb (decide (c8.1 ≤ (legend.length : Int))))] [.cells [.d (L60 p_m.Borders), vi p_m.Step, .d (L60 p_m.Heights), .d (L51 p_m.Sides), vi p_m.Inks, .d (L51 p_m.Like)], .data (c8.2.flatMap cel51)] [] (by kernel_rfl) trivial ?_
        refine awp_cond (b := (decide (c8.1 ≤ (legend.length : Int)))) (by kernel_rfl) (fun hb10 => ?_) (fun hb10 => ?_)
        · rw [if_pos hb10] at h
          refine awp_skip ?_
          show awp _ _ _ _ _ _ _ _
          refine awp_seq ?_
          refine awp_block ?_
          refine awp_sreg tt_ok (ks := [1, 2, 5, 6, 7, 8, 9]) (hs := []) [(1, .d (L3 legend)), (2, .ref 0 0), (5, .sl 2 1 0 c8.2.length), (6, .d (L60 x1)), (7, vi c4.1), (8, vi c8.1), (9, vb false)] [.cells [.d (L60 p_m.Borders), vi p_m.Step, .d (L60 p_m.Heights), .d (L51 p_m.Sides), vi p_m.Inks, .d (L51 p_m.Like)], .data (c8.2.flatMap cel51)] [] (by kernel_rfl) trivial ?_
          refine awp_seq ?_
          refine awp_sreg tt_ok (ks := [1, 2, 5, 6, 7, 8, 9, 10]) (hs := []) [(1, .d (L3 legend)), (2, .ref 0 0), (5, .sl 2 1 0 c8.2.length), (6, .d (L60 x1)), (7, vi c4.1), (8, vi c8.1), (9, vb false), (10, vi 0)] [.cells [.d (L60 p_m.Borders), vi p_m.Step, .d (L60 p_m.Heights), .d (L51 p_m.Sides), vi p_m.Inks, .d (L51 p_m.Like)], .data (c8.2.flatMap cel51)] [] (by kernel_rfl) trivial ?_
          obtain ⟨o11, ho11, h⟩ := Option.bind_eq_some_iff.1 h
          refine awp_cut1 (OutQ (fun (ro11 : (List S_api_ClPair)) => [(4, .d (L51 ro11))]) (fun (ro11 : (List S_api_ClPair)) => []) (fun (so11 : Bool) => [(1, .d (L3 legend)), (2, .ref 0 0), (5, .sl 2 1 0 c8.2.length), (6, .d (L60 x1)), (7, vi c4.1), (8, vi c8.1), (9, vb so11)]) (fun (so11 : Bool) => [.cells [.d (L60 p_m.Borders), vi p_m.Step, .d (L60 p_m.Heights), .d (L51 p_m.Sides), vi p_m.Inks, .d (L51 p_m.Like)], .data (c8.2.flatMap cel51)]) o11) ?_ ?_
          · clear h
            have h := ho11
            clear ho11
            refine awp_selQ ?_
            refine awp_wk 2 [1, 2, 5, 6, 7, 8, 9, 10] (by kernel_rfl) [(1, .d (L3 legend)), (2, .ref 0 0), (5, .sl 2 1 0 c8.2.length), (6, .d (L60 x1)), (7, vi c4.1), (8, vi c8.1), (9, vb false), (10, vi 0)] [.cells [.d (L60 p_m.Borders), vi p_m.Step, .d (L60 p_m.Heights), .d (L51 p_m.Sides), vi p_m.Inks, .d (L51 p_m.Like)], .data (c8.2.flatMap cel51)] (by kernel_rfl) (by kernel_rfl) ?_
            refine awp_block ?_
            refine awp_loop (n := fuel) ?_
            refine awpN_ind (fun n (c12 : Bool × Int) => F67L3 p_m x1 c4 c8 n c12) o11 (fun (c12 : Bool × Int) => [(1, .d (L3 legend)), (2, .ref 0 0), (5, .sl 2 1 0 c8.2.length), (6, .d (L60 x1)), (7, vi c4.1), (8, vi c8.1), (9, vb c12.1), (10, vi c12.2)]) (fun (c12 : Bool × Int) => [.cells [.d (L60 p_m.Borders), vi p_m.Step, .d (L60 p_m.Heights), .d (L51 p_m.Sides), vi p_m.Inks, .d (L51 p_m.Like)], .data (c8.2.flatMap cel51)]) (fun _ => rfl) ?_ fuel (false, 0) h
            clear h
            intro n13 c12 h hrn13
            change F67L3 p_m x1 c4 c8 (n13 + 1) c12 = some o11 at h
            rw [F67L3] at h
            refine awp_seq ?_
            refine awp_sreg tt_ok (ks := [1, 2, 5, 6, 7, 8, 9, 10, 32]) (hs := []) [(1, .d (L3 legend)), (2, .ref 0 0), (5, .sl 2 1 0 c8.2.length), (6, .d (L60 x1)), (7, vi c4.1), (8, vi c8.1), (9, vb c12.1), (10, vi c12.2), (32, vb (decide (c12.2 < (p_m.Sides.length : Int))))] [.cells [.d (L60 p_m.Borders), vi p_m.Step, .d (L60 p_m.Heights), .d (L51 p_m.Sides), vi p_m.Inks, .d (L51 p_m.Like)], .data (c8.2.flatMap cel51)] [] (by kernel_rfl) trivial ?_
            refine awp_cond (b := (decide (c12.2 < (p_m.Sides.length : Int)))) (by kernel_rfl) (fun hb14 => ?_) (fun hb14 => ?_)
            · rw [if_pos hb14] at h
              refine awp_skip ?_
              show awp _ _ _ _ _ _ _ _
              refine awp_seq ?_
              refine awp_block ?_
              obtain ⟨x15, hx15, h⟩ := Option.bind_eq_some_iff.1 h
              obtain ⟨x16, hx16, h⟩ := Option.bind_eq_some_iff.1 h
              refine awp_region (T' := [(1, .d (L3 legend)), (2, .ref 0 0), (5, .sl 2 1 0 c8.2.length), (6, .d (L60 x1)), (7, vi c4.1), (8, vi c8.1), (9, vb (cond c12.1 true x16)), (10, vi c12.2)]) (H' := [.cells [.d (L60 p_m.Borders), vi p_m.Step, .d (L60 p_m.Heights), .d (L51 p_m.Sides), vi p_m.Inks, .d (L51 p_m.Like)], .data (c8.2.flatMap cel51)]) (ps := [((!c12.1) = true → (!c12.1) = true), ((!c12.1) = true → (!c12.1) = true), ((!c12.1) = true → (!c12.1) = true), ((!c12.1) = true → IX51 p_m.Sides c12.2 x15), ((!c12.1) = true → (!c12.1) = true), ((!c12.1) = true → (!c12.1) = true), ((!c12.1) = true → (!c12.1) = true), ((!c12.1) = true → (!c12.1) = true), ((!c12.1) = true → (!c12.1) = true), ((!c12.1) = true → PCall Try.prog 84 [(L60 x1), (.agg [(di x15.A), (di x15.B)]), (di c4.1), (di c8.1)] (vb x16)), (c12.1 = false → (!c12.1) = true)]) tt_ok (ks := [1, 2, 5, 6, 7, 8, 9, 10]) (hs := [.no, .no, .no, .no, .no, .no, .cells (cel51 x15), .no, .no, .no, .call [(L60 x1), (.agg [(di x15.A), (di x15.B)]), (di c4.1), (di c8.1)] (vb x16)]) (by kernel_rfl) (And.intro (id) (And.intro (id) (And.intro (id) (And.intro ((fun hg => idxOk cel51_len (optG_of hx15 hg))) (And.intro (id) (And.intro (id) (And.intro (id) (And.intro (id) (And.intro (id) (And.intro ((fun hg => ct84 (optG_of hx16 hg))) (not_of))))))))))) ?_
              show awp _ _ _ _ _ _ _ _
              refine awp_region (T' := [(1, .d (L3 legend)), (2, .ref 0 0), (5, .sl 2 1 0 c8.2.length), (6, .d (L60 x1)), (7, vi c4.1), (8, vi c8.1), (9, vb (cond c12.1 true x16)), (10, vi (w64 (c12.2 + 1)))]) (H' := [.cells [.d (L60 p_m.Borders), vi p_m.Step, .d (L60 p_m.Heights), .d (L51 p_m.Sides), vi p_m.Inks, .d (L51 p_m.Like)], .data (c8.2.flatMap cel51)]) (ps := []) tt_ok (ks := [1, 2, 5, 6, 7, 8, 9, 10]) (hs := []) (by kernel_rfl) trivial ?_
              exact awpN_wk 2 [1, 2, 5, 6, 7, 8, 9, 10] (by kernel_rfl) _ _ (by kernel_rfl) (by kernel_rfl) (hrn13 ((cond c12.1 true x16), (w64 (c12.2 + 1))) h)
            · rw [if_neg (ntrue hb14)] at h
              refine awp_exit ?_
              obtain rfl := Option.some.inj h
              exact Sel.mk [0, 1] [1, 2, 5, 6, 7, 8, 9] (by kernel_rfl) (by kernel_rfl) (by kernel_rfl) OutQ.norm
          · intro e T H hq
            cases o11 with
            | inl ro11 =>
              obtain ⟨rfl, rfl, rfl⟩ := hq
              rw [outK_inl] at h
              obtain rfl := Option.some.inj h
              exact Sel.mk [] [4] (by kernel_rfl) (by kernel_rfl) (by kernel_rfl) OutQ.ret
            | inr so11 =>
              obtain ⟨rfl, rfl, rfl⟩ := hq
              rw [outK_inr] at h
              show awp _ _ _ _ _ _ _ _
              refine awp_sreg tt_ok (ks := [1, 2, 5, 6, 7, 8, 47]) (hs := []) [(1, .d (L3 legend)), (2, .ref 0 0), (5, .sl 2 1 0 c8.2.length), (6, .d (L60 x1)), (7, vi c4.1), (8, vi c8.1), (47, vb so11)] [.cells [.d (L60 p_m.Borders), vi p_m.Step, .d (L60 p_m.Heights), .d (L51 p_m.Sides), vi p_m.Inks, .d (L51 p_m.Like)], .data (c8.2.flatMap cel51)] [] (by kernel_rfl) trivial ?_
              refine awp_cond (b := so11) (by kernel_rfl) (fun hb17 => ?_) (fun hb17 => ?_)
              · rw [if_pos hb17] at h
                obtain ⟨x18, hx18, h⟩ := Option.bind_eq_some_iff.1 h
                refine awp_region (T' := [(1, .d (L3 legend)), (2, .ref 0 0), (5, .sl 2 1 0 (c8.2 ++ ([(⟨c4.1, c8.1⟩ : S_api_ClPair)] : List S_api_ClPair)).length), (6, .d (L60 x1)), (7, vi c4.1), (8, vi c8.1)]) (H' := [.cells [.d (L60 p_m.Borders), vi p_m.Step, .d (L60 p_m.Heights), .d (L51 p_m.Sides), vi p_m.Inks, .d (L51 p_m.Like)], .data ((c8.2 ++ ([(⟨c4.1, c8.1⟩ : S_api_ClPair)] : List S_api_ClPair)).flatMap cel51)]) (ps := [AppendOk ((c8.2.flatMap cel51).map .d) c8.2.length ([(⟨c4.1, c8.1⟩ : S_api_ClPair)] : List S_api_ClPair).length (c8.2 ++ ([(⟨c4.1, c8.1⟩ : S_api_ClPair)] : List S_api_ClPair)).length 2 16 (([(⟨c4.1, c8.1⟩ : S_api_ClPair)] : List S_api_ClPair).flatMap cel51) ((c8.2 ++ ([(⟨c4.1, c8.1⟩ : S_api_ClPair)] : List S_api_ClPair)).flatMap cel51)]) tt_ok (ks := [1, 2, 5, 6, 7, 8]) (hs := [.no, .no, .no, .no, .no, .list (c8.2 ++ ([(⟨c4.1, c8.1⟩ : S_api_ClPair)] : List S_api_ClPair)).length ((c8.2 ++ ([(⟨c4.1, c8.1⟩ : S_api_ClPair)] : List S_api_ClPair)).flatMap cel51)]) (by kernel_rfl) (appendOk cel51_len (need_of hx18)) ?_
                show awp _ _ _ _ _ _ _ _
                refine awp_region (T' := [(1, .d (L3 legend)), (2, .ref 0 0), (5, .sl 2 1 0 (c8.2 ++ ([(⟨c4.1, c8.1⟩ : S_api_ClPair)] : List S_api_ClPair)).length), (6, .d (L60 x1)), (7, vi c4.1), (8, vi (w64 (c8.1 + 1)))]) (H' := [.cells [.d (L60 p_m.Borders), vi p_m.Step, .d (L60 p_m.Heights), .d (L51 p_m.Sides), vi p_m.Inks, .d (L51 p_m.Like)], .data ((c8.2 ++ ([(⟨c4.1, c8.1⟩ : S_api_ClPair)] : List S_api_ClPair)).flatMap cel51)]) (ps := []) tt_ok (ks := [1, 2, 5, 6, 7, 8]) (hs := []) (by kernel_rfl) trivial ?_
                exact awpN_wk 2 [1, 2, 5, 6, 7, 8] (by kernel_rfl) _ _ (by kernel_rfl) (by kernel_rfl) (hrn9 ((w64 (c8.1 + 1)), (c8.2 ++ ([(⟨c4.1, c8.1⟩ : S_api_ClPair)] : List S_api_ClPair))) h)
              · rw [if_neg (ntrue hb17)] at h
                refine awp_skip ?_
                show awp _ _ _ _ _ _ _ _
                refine awp_region (T' := [(1, .d (L3 legend)), (2, .ref 0 0), (5, .sl 2 1 0 c8.2.length), (6, .d (L60 x1)), (7, vi c4.1), (8, vi (w64 (c8.1 + 1)))]) (H' := [.cells [.d (L60 p_m.Borders), vi p_m.Step, .d (L60 p_m.Heights), .d (L51 p_m.Sides), vi p_m.Inks, .d (L51 p_m.Like)], .data (c8.2.flatMap cel51)]) (ps := []) tt_ok (ks := [1, 2, 5, 6, 7, 8]) (hs := []) (by kernel_rfl) trivial ?_
                exact awpN_wk 2 [1, 2, 5, 6, 7, 8] (by kernel_rfl) _ _ (by kernel_rfl) (by kernel_rfl) (hrn9 ((w64 (c8.1 + 1)), c8.2) h)
        · rw [if_neg (ntrue hb10)] at h
          refine awp_exit ?_
          obtain rfl := Option.some.inj h
          exact Sel.mk [0, 1] [1, 2, 5, 6, 7] (by kernel_rfl) (by kernel_rfl) (by kernel_rfl) OutQ.norm
      · intro e T H hq
        cases o7 with
        | inl ro7 =>
          obtain ⟨rfl, rfl, rfl⟩ := hq
          rw [outK_inl] at h
          obtain rfl := Option.some.inj h
          exact Sel.mk [] [4] (by kernel_rfl) (by kernel_rfl) (by kernel_rfl) OutQ.ret
        | inr so7 =>
          obtain ⟨rfl, rfl, rfl⟩ := hq
          rw [outK_inr] at h
          show awp _ _ _ _ _ _ _ _
          refine awp_region (T' := [(1, .d (L3 legend)), (2, .ref 0 0), (5, .sl 2 1 0 so7.length), (6, .d (L60 x1)), (7, vi (w64 (c4.1 + 1)))]) (H' := [.cells [.d (L60 p_m.Borders), vi p_m.Step, .d (L60 p_m.Heights), .d (L51 p_m.Sides), vi p_m.Inks, .d (L51 p_m.Like)], .data (so7.flatMap cel51)]) (ps := []) tt_ok (ks := [1, 2, 5, 6, 7]) (hs := []) (by kernel_rfl) trivial ?_
          exact awpN_wk 2 [1, 2, 5, 6, 7] (by kernel_rfl) _ _ (by kernel_rfl) (by kernel_rfl) (hrn5 ((w64 (c4.1 + 1)), so7) h)
    · rw [if_neg (ntrue hb6)] at h
      refine awp_exit ?_
      obtain rfl := Option.some.inj h
      exact Sel.mk [0, 1] [5] (by kernel_rfl) (by kernel_rfl) (by kernel_rfl) OutQ.norm
  · intro e T H hq
    cases o3 with
    | inl ro3 =>
      obtain ⟨rfl, rfl, rfl⟩ := hq
      rw [outK_inl] at h
      obtain rfl := Option.some.inj h
      exact main_ret (by kernel_rfl)
    | inr so3 =>
      obtain ⟨rfl, rfl, rfl⟩ := hq
      rw [outK_inr] at h
      show awp _ _ _ _ _ _ _ _
      refine awp_sreg tt_ok (ks := [4]) (hs := []) [(4, .sl 2 1 0 so3.length)] [.cells [.d (L60 p_m.Borders), vi p_m.Step, .d (L60 p_m.Heights), .d (L51 p_m.Sides), vi p_m.Inks, .d (L51 p_m.Like)], .data (so3.flatMap cel51)] [] (by kernel_rfl) trivial ?_
      obtain rfl := Option.some.inj h
      refine awp_wk 2 [4] (by kernel_rfl) [(4, .sl 2 1 0 so3.length)] [.cells [.d (L60 p_m.Borders), vi p_m.Step, .d (L60 p_m.Heights), .d (L51 p_m.Sides), vi p_m.Inks, .d (L51 p_m.Like)], .data (so3.flatMap cel51)] (by kernel_rfl) (by kernel_rfl) ?_
      refine awp_freeze 4 1 (so3.flatMap cel51) (.sl 2 1 0 so3.length) (.d (L51 so3)) _ _ (ps := [(so3.flatMap cel51).length = so3.length * 2]) (by kernel_rfl) (by kernel_rfl) (by kernel_rfl) (flatMap_len cel51 2 cel51_len so3) rfl rfl ?_
      refine awp_wk 2 [4] (by kernel_rfl) [(4, .d (L51 so3))] [.cells [.d (L60 p_m.Borders), vi p_m.Step, .d (L60 p_m.Heights), .d (L51 p_m.Sides), vi p_m.Inks, .d (L51 p_m.Like)], .data (([] : List S_api_ClPair).flatMap cel51)] (by kernel_rfl) (by kernel_rfl) ?_
      exact awp_ret (main_ret (by kernel_rfl))

set_option maxRecDepth 100000 in
theorem ct28 {fuel : Nat}  {p_m : S_api_ClMap} {legend : (List Int)} {res : (List S_api_ClPair) × Int} (h : F28 fuel p_m legend = some res) : PCall Try.prog 28 [(.agg [(L60 p_m.Borders), (di p_m.Step), (L60 p_m.Heights), (L51 p_m.Sides), (di p_m.Inks), (L51 p_m.Like)]), (L3 legend)] (.tup [.d (L51 res.1), vi res.2]) := by
  refine PCall.of_awp tt_ok (N := 20) Try.func28 rfl (by kernel_rfl) rfl (Nat.le_of_ble_eq_true rfl) rfl ?_
  unfold F28 at h
  refine awp_sreg tt_ok (ks := [1, 2]) (hs := []) [(1, .d (L3 legend)), (2, .ref 0 0)] [.cells [.d (L60 p_m.Borders), vi p_m.Step, .d (L60 p_m.Heights), .d (L51 p_m.Sides), vi p_m.Inks, .d (L51 p_m.Like)]] [] (by kernel_rfl) trivial ?_
  obtain ⟨x1, hx1, h⟩ := Option.bind_eq_some_iff.1 h
  refine awp_sreg tt_ok (ks := [1, 2, 7]) (hs := [.no, .no, .call [(.agg [(L60 p_m.Borders), (di p_m.Step), (L60 p_m.Heights), (L51 p_m.Sides), (di p_m.Inks), (L51 p_m.Like)]), (L3 legend)] (.tup [vi x1.1, vi x1.2])]) [(1, .d (L3 legend)), (2, .ref 0 0), (7, vi x1.2)] [.cells [.d (L60 p_m.Borders), vi p_m.Step, .d (L60 p_m.Heights), .d (L51 p_m.Sides), vi p_m.Inks, .d (L51 p_m.Like)]] [PCall Try.prog 20 [(.agg [(L60 p_m.Borders), (di p_m.Step), (L60 p_m.Heights), (L51 p_m.Sides), (di p_m.Inks), (L51 p_m.Like)]), (L3 legend)] (.tup [vi x1.1, vi x1.2])] (by kernel_rfl) (ct20 hx1) ?_
  refine awp_seq ?_
  refine awp_sreg tt_ok (ks := [1, 2, 7, 15]) (hs := []) [(1, .d (L3 legend)), (2, .ref 0 0), (7, vi x1.2), (15, vb (x1.2 != 0))] [.cells [.d (L60 p_m.Borders), vi p_m.Step, .d (L60 p_m.Heights), .d (L51 p_m.Sides), vi p_m.Inks, .d (L51 p_m.Like)]] [] (by kernel_rfl) trivial ?_
  refine awp_cond (b := (x1.2 != 0)) (by kernel_rfl) (fun hb2 => ?_) (fun hb2 => ?_)
  · rw [if_pos hb2] at h
    refine awp_sreg tt_ok (ks := [4, 5]) (hs := []) [(4, .d dnil), (5, vi x1.2)] [.cells [.d (L60 p_m.Borders), vi p_m.Step, .d (L60 p_m.Heights), .d (L51 p_m.Sides), vi p_m.Inks, .d (L51 p_m.Like)]] [] (by kernel_rfl) trivial ?_
    obtain rfl := Option.some.inj h
    refine awp_wk 1 [4, 5] (by kernel_rfl) [(4, .d dnil), (5, vi x1.2)] [.cells [.d (L60 p_m.Borders), vi p_m.Step, .d (L60 p_m.Heights), .d (L51 p_m.Sides), vi p_m.Inks, .d (L51 p_m.Like)]] (by kernel_rfl) (by kernel_rfl) ?_
    refine awp_laxT 4 _ (L51 ([] : List S_api_ClPair)) _ (by kernel_rfl) (.nil (e := 2)) rfl ?_
    refine awp_wk 1 [4, 5] (by kernel_rfl) [(4, .d (L51 ([] : List S_api_ClPair))), (5, vi x1.2)] [.cells [.d (L60 p_m.Borders), vi p_m.Step, .d (L60 p_m.Heights), .d (L51 p_m.Sides), vi p_m.Inks, .d (L51 p_m.Like)]] (by kernel_rfl) (by kernel_rfl) ?_
    exact awp_ret (main_ret (by kernel_rfl))
  · rw [if_neg (ntrue hb2)] at h
    refine awp_skip ?_
    show awp _ _ _ _ _ _ _ _
    obtain ⟨x3, hx3, h⟩ := Option.bind_eq_some_iff.1 h
    refine awp_sreg tt_ok (ks := [4, 5]) (hs := [.no, .no, .call [(.agg [(L60 p_m.Borders), (di p_m.Step), (L60 p_m.Heights), (L51 p_m.Sides), (di p_m.Inks), (L51 p_m.Like)]), (L3 legend)] (.d (L51 x3))]) [(4, .d (L51 x3)), (5, vi 0)] [.cells [.d (L60 p_m.Borders), vi p_m.Step, .d (L60 p_m.Heights), .d (L51 p_m.Sides), vi p_m.Inks, .d (L51 p_m.Like)]] [PCall Try.prog 67 [(.agg [(L60 p_m.Borders), (di p_m.Step), (L60 p_m.Heights), (L51 p_m.Sides), (di p_m.Inks), (L51 p_m.Like)]), (L3 legend)] (.d (L51 x3))] (by kernel_rfl) (ct67 hx3) ?_
    obtain rfl := Option.some.inj h
    refine awp_wk 1 [4, 5] (by kernel_rfl) [(4, .d (L51 x3)), (5, vi 0)] [.cells [.d (L60 p_m.Borders), vi p_m.Step, .d (L60 p_m.Heights), .d (L51 p_m.Sides), vi p_m.Inks, .d (L51 p_m.Like)]] (by kernel_rfl) (by kernel_rfl) ?_
    exact awp_ret (main_ret (by kernel_rfl))
end Go.Proofs.Ytpkhbbboedoldaa
