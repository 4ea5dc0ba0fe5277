/- That functions of the seat compute this. Printed by a program of mine. -/
import Derived.Test.YtadejgckgnbaoaaS
import Derived.Test.YtadejgckgnbaoaaDV
namespace Go.Proofs.Ytadejgckgnbaoaa
open Go Go.Sx
set_option linter.unusedVariables false

set_option maxRecDepth 100000 in
theorem ct50  {p_n : Int} {low : Int} {high : Int} {res : Bool} (h : F50 p_n low high = some res) : PCall Try.prog 50 [(di p_n), (di low), (di high)] (vb res) := by
  refine PCall.of_awp tt_ok (N := 15) Try.func50 rfl (by kernel_rfl) rfl (Nat.le_of_ble_eq_true rfl) rfl ?_
  unfold F50 at h
  refine awp_sreg tt_ok (ks := [0, 1, 2]) (hs := []) [(0, vi p_n), (1, vi low), (2, vi high)] [] [] (by kernel_rfl) trivial ?_
  refine awp_sreg tt_ok (ks := [6]) (hs := []) [(6, vb (cond (decide (p_n ≥ low)) (decide (p_n ≤ high)) false))] [] [((decide (p_n ≥ low)) = true → (decide (p_n ≥ low)) = true), ((decide (p_n ≥ low)) = true → (decide (p_n ≥ low)) = true), ((decide (p_n ≥ low)) = true → (decide (p_n ≥ low)) = true)] (by kernel_rfl) (And.intro (id) (And.intro (id) (id))) ?_
  obtain rfl := Option.some.inj h
  refine awp_wk 0 [6] (by kernel_rfl) [(6, vb (cond (decide (p_n ≥ low)) (decide (p_n ≤ high)) false))] [] (by kernel_rfl) (by kernel_rfl) ?_
  exact awp_ret (main_ret (by kernel_rfl))

set_option maxRecDepth 100000 in
theorem ct17 {fuel : Nat}  {p_r : S_api_CvRow} {res : Int × Int × Int} (h : F17 fuel p_r = some res) : PCall Try.prog 17 [(.agg [(di p_r.Steep), (L58 p_r.Points)])] (.tup [vi res.1, vi res.2.1, vi res.2.2]) := by
  refine PCall.of_awp tt_ok (N := 55) Try.func17 rfl (by kernel_rfl) rfl (Nat.le_of_ble_eq_true rfl) rfl ?_
  unfold F17 at h
  refine awp_sreg tt_ok (ks := [1]) (hs := []) [(1, .ref 0 0)] [.cells [vi p_r.Steep, .d (L58 p_r.Points)]] [] (by kernel_rfl) trivial ?_
  refine awp_seq ?_
  obtain ⟨x1, hx1, h⟩ := Option.bind_eq_some_iff.1 h
  refine awp_sreg tt_ok (ks := [1, 10]) (hs := [.no, .no, .call [(di p_r.Steep), (di 0), (di 200)] (vb x1)]) [(1, .ref 0 0), (10, vb (!x1))] [.cells [vi p_r.Steep, .d (L58 p_r.Points)]] [PCall Try.prog 50 [(di p_r.Steep), (di 0), (di 200)] (vb x1)] (by kernel_rfl) (ct50 hx1) ?_
  refine awp_cond (b := (!x1)) (by kernel_rfl) (fun hb2 => ?_) (fun hb2 => ?_)
  · rw [if_pos hb2] at h
    refine awp_sreg tt_ok (ks := [2, 3, 4]) (hs := []) [(2, vi 1), (3, vi 0), (4, vi 7)] [.cells [vi p_r.Steep, .d (L58 p_r.Points)]] [] (by kernel_rfl) trivial ?_
    obtain rfl := Option.some.inj h
    refine awp_wk 1 [2, 3, 4] (by kernel_rfl) [(2, vi 1), (3, vi 0), (4, vi 7)] [.cells [vi p_r.Steep, .d (L58 p_r.Points)]] (by kernel_rfl) (by kernel_rfl) ?_
    exact awp_ret (main_ret (by kernel_rfl))
  · rw [if_neg (ntrue hb2)] at h
    refine awp_skip ?_
    show awp _ _ _ _ _ _ _ _
    refine awp_seq ?_
    obtain ⟨x3, hx3, h⟩ := Option.bind_eq_some_iff.1 h
    refine awp_sreg tt_ok (ks := [1, 15]) (hs := [.no, .no, .no, .call [(di (p_r.Points.length : Int)), (di 1), (di 10)] (vb x3)]) [(1, .ref 0 0), (15, vb (!x3))] [.cells [vi p_r.Steep, .d (L58 p_r.Points)]] [PCall Try.prog 50 [(di (p_r.Points.length : Int)), (di 1), (di 10)] (vb x3)] (by kernel_rfl) (ct50 hx3) ?_
    refine awp_cond (b := (!x3)) (by kernel_rfl) (fun hb4 => ?_) (fun hb4 => ?_)
    · rw [if_pos hb4] at h
      refine awp_sreg tt_ok (ks := [2, 3, 4]) (hs := []) [(2, vi 1), (3, vi 0), (4, vi 3)] [.cells [vi p_r.Steep, .d (L58 p_r.Points)]] [] (by kernel_rfl) trivial ?_
      obtain rfl := Option.some.inj h
      refine awp_wk 1 [2, 3, 4] (by kernel_rfl) [(2, vi 1), (3, vi 0), (4, vi 3)] [.cells [vi p_r.Steep, .d (L58 p_r.Points)]] (by kernel_rfl) (by kernel_rfl) ?_
      exact awp_ret (main_ret (by kernel_rfl))
    · rw [if_neg (ntrue hb4)] at h
      refine awp_skip ?_
      show awp _ _ _ _ _ _ _ _
      refine awp_seq ?_
      refine awp_sreg tt_ok (ks := [1, 5]) (hs := []) [(1, .ref 0 0), (5, vi 0)] [.cells [vi p_r.Steep, .d (L58 p_r.Points)]] [] (by kernel_rfl) trivial ?_
      obtain ⟨o5, ho5, h⟩ := Option.bind_eq_some_iff.1 h
      refine awp_cut1 (OutQ (fun (ro5 : Int × Int × Int) => [(2, vi ro5.1), (3, vi ro5.2.1), (4, vi ro5.2.2)]) (fun (ro5 : Int × Int × Int) => []) (fun (so5 : Unit) => []) (fun (so5 : Unit) => [.cells [vi p_r.Steep, .d (L58 p_r.Points)]]) o5) ?_ ?_
      · clear h
        have h := ho5
        clear ho5
        refine awp_selQ ?_
        refine awp_wk 1 [1, 5] (by kernel_rfl) [(1, .ref 0 0), (5, vi 0)] [.cells [vi p_r.Steep, .d (L58 p_r.Points)]] (by kernel_rfl) (by kernel_rfl) ?_
        refine awp_block ?_
        refine awp_loop (n := fuel) ?_
        refine awpN_ind (fun n (c6 : Int) => F17L1 p_r n c6) o5 (fun (c6 : Int) => [(1, .ref 0 0), (5, vi c6)]) (fun (c6 : Int) => [.cells [vi p_r.Steep, .d (L58 p_r.Points)]]) (fun _ => rfl) ?_ fuel 0 h
        clear h
        intro n7 c6 h hrn7
        change F17L1 p_r (n7 + 1) c6 = some o5 at h
        rw [F17L1] at h
        refine awp_seq ?_
        refine awp_sreg tt_ok (ks := [1, 5, 20]) (hs := []) [(1, .ref 0 0), (5, vi c6), (20, vb (decide (c6 < (p_r.Points.length : Int))))] [.cells [vi p_r.Steep, .d (L58 p_r.Points)]] [] (by kernel_rfl) trivial ?_
        refine awp_cond (b := (decide (c6 < (p_r.Points.length : Int)))) (by kernel_rfl) (fun hb8 => ?_) (fun hb8 => ?_)
        · rw [if_pos hb8] at h
          refine awp_skip ?_
          show awp _ _ _ _ _ _ _ _
          refine awp_seq ?_
          refine awp_block ?_
          obtain ⟨x9, hx9, h⟩ := Option.bind_eq_some_iff.1 h
          refine awp_sreg tt_ok (ks := [1, 5, 6]) (hs := [.no, .no, .no, .cells (cel58 x9)]) [(1, .ref 0 0), (5, vi c6), (6, .ref 1 0)] [.cells [vi p_r.Steep, .d (L58 p_r.Points)], .cells [vi x9.Board, vi x9.Lo, vi x9.Hi]] [IX58 p_r.Points c6 x9] (by kernel_rfl) (idxOk cel58_len hx9) ?_
          refine awp_seq ?_
          obtain ⟨x10, hx10, h⟩ := Option.bind_eq_some_iff.1 h
          obtain ⟨x11, hx11, h⟩ := Option.bind_eq_some_iff.1 h
          obtain ⟨x12, hx12, h⟩ := Option.bind_eq_some_iff.1 h
          refine awp_sreg tt_ok (ks := [1, 5, 6, 43]) (hs := [.no, .no, .call [(di x9.Board), (di 0), (di 9000)] (vb x10), .no, .no, .no, .no, .call [(di x9.Lo), (di 0), (di 9000)] (vb x11), .no, .no, .no, .no, .no, .call [(di x9.Hi), (di 0), (di 9000)] (vb x12)]) [(1, .ref 0 0), (5, vi c6), (6, .ref 1 0), (43, vb (cond (cond (!x10) true (!x11)) true (!x12)))] [.cells [vi p_r.Steep, .d (L58 p_r.Points)], .cells [vi x9.Board, vi x9.Lo, vi x9.Hi]] [PCall Try.prog 50 [(di x9.Board), (di 0), (di 9000)] (vb x10), ((!(!x10)) = true → (!(!x10)) = true), ((!(!x10)) = true → (!(!x10)) = true), ((!(!x10)) = true → PCall Try.prog 50 [(di x9.Lo), (di 0), (di 9000)] (vb x11)), ((!(!x10)) = true → (!(!x10)) = true), ((!x10) = false → (!(!x10)) = true), ((!(cond (!x10) true (!x11))) = true → (!(cond (!x10) true (!x11))) = true), ((!(cond (!x10) true (!x11))) = true → (!(cond (!x10) true (!x11))) = true), ((!(cond (!x10) true (!x11))) = true → PCall Try.prog 50 [(di x9.Hi), (di 0), (di 9000)] (vb x12)), ((!(cond (!x10) true (!x11))) = true → (!(cond (!x10) true (!x11))) = true), ((cond (!x10) true (!x11)) = false → (!(cond (!x10) true (!x11))) = true)] (by kernel_rfl) (And.intro (ct50 hx10) (And.intro (id) (And.intro (id) (And.intro ((fun hg => ct50 (optG_of hx11 hg))) (And.intro (id) (And.intro (not_of) (And.intro (id) (And.intro (id) (And.intro ((fun hg => ct50 (optG_of hx12 hg))) (And.intro (id) (not_of))))))))))) ?_
          refine awp_cond (b := (cond (cond (!x10) true (!x11)) true (!x12))) (by kernel_rfl) (fun hb13 => ?_) (fun hb13 => ?_)
          · rw [if_pos hb13] at h
            refine awp_sreg tt_ok (ks := [2, 3, 4]) (hs := []) [(2, vi 2), (3, vi c6), (4, vi 7)] [.cells [vi p_r.Steep, .d (L58 p_r.Points)], .cells [vi x9.Board, vi x9.Lo, vi x9.Hi]] [] (by kernel_rfl) trivial ?_
            obtain rfl := Option.some.inj h
            refine awp_wk 2 [2, 3, 4] (by kernel_rfl) [(2, vi 2), (3, vi c6), (4, vi 7)] [.cells [vi p_r.Steep, .d (L58 p_r.Points)], .cells [vi x9.Board, vi x9.Lo, vi x9.Hi]] (by kernel_rfl) (by kernel_rfl) ?_
            exact awp_ret (Sel.mk [] [2, 3, 4] (by kernel_rfl) (by kernel_rfl) (by kernel_rfl) OutQ.ret)
          · rw [if_neg (ntrue hb13)] at h
            refine awp_skip ?_
            show awp _ _ _ _ _ _ _ _
            obtain ⟨x14, hx14, h⟩ := Option.bind_eq_some_iff.1 h
            refine awp_sreg tt_ok (ks := [1, 5, 53]) (hs := [.no, .no, .no, .no, .no, .no, .no, .call [(di x9.Hi), (di x9.Lo), (di (w64 (x9.Lo + 30)))] (vb x14)]) [(1, .ref 0 0), (5, vi c6), (53, vb (!x14))] [.cells [vi p_r.Steep, .d (L58 p_r.Points)], .cells [vi x9.Board, vi x9.Lo, vi x9.Hi]] [PCall Try.prog 50 [(di x9.Hi), (di x9.Lo), (di (w64 (x9.Lo + 30)))] (vb x14)] (by kernel_rfl) (ct50 hx14) ?_
            refine awp_cond (b := (!x14)) (by kernel_rfl) (fun hb15 => ?_) (fun hb15 => ?_)
            · rw [if_pos hb15] at h
              refine awp_sreg tt_ok (ks := [2, 3, 4]) (hs := []) [(2, vi 2), (3, vi c6), (4, vi 2)] [.cells [vi p_r.Steep, .d (L58 p_r.Points)], .cells [vi x9.Board, vi x9.Lo, vi x9.Hi]] [] (by kernel_rfl) trivial ?_
              obtain rfl := Option.some.inj h
              refine awp_wk 2 [2, 3, 4] (by kernel_rfl) [(2, vi 2), (3, vi c6), (4, vi 2)] [.cells [vi p_r.Steep, .d (L58 p_r.Points)], .cells [vi x9.Board, vi x9.Lo, vi x9.Hi]] (by kernel_rfl) (by kernel_rfl) ?_
              exact awp_ret (Sel.mk [] [2, 3, 4] (by kernel_rfl) (by kernel_rfl) (by kernel_rfl) OutQ.ret)
            · rw [if_neg (ntrue hb15)] at h
              refine awp_skip ?_
              show awp _ _ _ _ _ _ _ _
              refine awp_region (T' := [(1, .ref 0 0), (5, vi (w64 (c6 + 1)))]) (H' := [.cells [vi p_r.Steep, .d (L58 p_r.Points)], .cells [vi x9.Board, vi x9.Lo, vi x9.Hi]]) (ps := []) tt_ok (ks := [1, 5]) (hs := []) (by kernel_rfl) trivial ?_
              exact awpN_wk 1 [1, 5] (by kernel_rfl) _ _ (by kernel_rfl) (by kernel_rfl) (hrn7 (w64 (c6 + 1)) h)
        · rw [if_neg (ntrue hb8)] at h
          refine awp_exit ?_
          obtain rfl := Option.some.inj h
          exact Sel.mk [0] [] (by kernel_rfl) (by kernel_rfl) (by kernel_rfl) OutQ.norm
      · intro e T H hq
        cases o5 with
        | inl ro5 =>
          obtain ⟨rfl, rfl, rfl⟩ := hq
          rw [outK_inl] at h
          obtain rfl := Option.some.inj h
          exact main_ret (by kernel_rfl)
        | inr so5 =>
          obtain ⟨rfl, rfl, rfl⟩ := hq
          rw [outK_inr] at h
          show awp _ _ _ _ _ _ _ _
          refine awp_sreg tt_ok (ks := [2, 3, 4]) (hs := []) [(2, vi 0), (3, vi 0), (4, vi 0)] [.cells [vi p_r.Steep, .d (L58 p_r.Points)]] [] (by kernel_rfl) trivial ?_
          obtain rfl := Option.some.inj h
          refine awp_wk 1 [2, 3, 4] (by kernel_rfl) [(2, vi 0), (3, vi 0), (4, vi 0)] [.cells [vi p_r.Steep, .d (L58 p_r.Points)]] (by kernel_rfl) (by kernel_rfl) ?_
          exact awp_ret (main_ret (by kernel_rfl))

set_option maxRecDepth 100000 in
theorem ct40 {fuel : Nat}  {p_r : S_api_CvRow} {res : Bool} (h : F40 fuel p_r = some res) : PCall Try.prog 40 [(.agg [(di p_r.Steep), (L58 p_r.Points)])] (vb res) := by
  refine PCall.of_awp tt_ok (N := 14) Try.func40 rfl (by kernel_rfl) rfl (Nat.le_of_ble_eq_true rfl) rfl ?_
  unfold F40 at h
  refine awp_sreg tt_ok (ks := [1]) (hs := []) [(1, .ref 0 0)] [.cells [vi p_r.Steep, .d (L58 p_r.Points)]] [] (by kernel_rfl) trivial ?_
  obtain ⟨x1, hx1, h⟩ := Option.bind_eq_some_iff.1 h
  refine awp_sreg tt_ok (ks := [5]) (hs := [.no, .call [(.agg [(di p_r.Steep), (L58 p_r.Points)])] (.tup [vi x1.1, vi x1.2.1, vi x1.2.2])]) [(5, vi x1.2.2)] [.cells [vi p_r.Steep, .d (L58 p_r.Points)]] [PCall Try.prog 17 [(.agg [(di p_r.Steep), (L58 p_r.Points)])] (.tup [vi x1.1, vi x1.2.1, vi x1.2.2])] (by kernel_rfl) (ct17 hx1) ?_
  refine awp_sreg tt_ok (ks := [2]) (hs := []) [(2, vb (x1.2.2 == 0))] [.cells [vi p_r.Steep, .d (L58 p_r.Points)]] [] (by kernel_rfl) trivial ?_
  obtain rfl := Option.some.inj h
  refine awp_wk 1 [2] (by kernel_rfl) [(2, vb (x1.2.2 == 0))] [.cells [vi p_r.Steep, .d (L58 p_r.Points)]] (by kernel_rfl) (by kernel_rfl) ?_
  exact awp_ret (main_ret (by kernel_rfl))
end Go.Proofs.Ytadejgckgnbaoaa
