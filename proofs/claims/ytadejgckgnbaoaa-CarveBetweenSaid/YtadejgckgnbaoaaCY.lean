/- That functions of the seat compute this. Printed by a program of mine. -/
import Derived.Test.YtadejgckgnbaoaaS
import Derived.Test.YtadejgckgnbaoaaCK
import Derived.Test.YtadejgckgnbaoaaDY
namespace Go.Proofs.Ytadejgckgnbaoaa
open Go Go.Sx
set_option linter.unusedVariables false

set_option maxRecDepth 100000 in
theorem ct71  {l : (List Int)} {p_n : Int} {res : Int} (h : F71 l p_n = some res) : PCall Try.prog 71 [(L5 l), (di p_n)] (vi res) := by
  refine PCall.of_awp tt_ok (N := 16) Try.func71 rfl (by kernel_rfl) rfl (Nat.le_of_ble_eq_true rfl) rfl ?_
  unfold F71 at h
  refine awp_sreg tt_ok (ks := [0, 1]) (hs := []) [(0, .d (L5 l)), (1, vi p_n)] [] [] (by kernel_rfl) trivial ?_
  refine awp_seq ?_
  refine awp_sreg tt_ok (ks := [0, 1, 7]) (hs := []) [(0, .d (L5 l)), (1, vi p_n), (7, vb ((l.length : Int) == 0))] [] [] (by kernel_rfl) trivial ?_
  refine awp_cond (b := ((l.length : Int) == 0)) (by kernel_rfl) (fun hb1 => ?_) (fun hb1 => ?_)
  · rw [if_pos hb1] at h
    refine awp_sreg tt_ok (ks := [4]) (hs := []) [(4, vi 0)] [] [] (by kernel_rfl) trivial ?_
    obtain rfl := Option.some.inj h
    refine awp_wk 0 [4] (by kernel_rfl) [(4, vi 0)] [] (by kernel_rfl) (by kernel_rfl) ?_
    exact awp_ret (main_ret (by kernel_rfl))
  · rw [if_neg (ntrue hb1)] at h
    refine awp_skip ?_
    show awp _ _ _ _ _ _ _ _
    obtain ⟨x2, hx2, h⟩ := Option.bind_eq_some_iff.1 h
    obtain ⟨x3, hx3, h⟩ := Option.bind_eq_some_iff.1 h
    refine awp_sreg tt_ok (ks := [4]) (hs := [.no, .no, .no, .no, .no, .cells (cel5 x3)]) [(4, vi (IntKind.i64.wrap x3))] [] [((l.length : Int) ≠ 0), IX5 l (p_n.tmod (l.length : Int)) x3] (by kernel_rfl) (And.intro ((need_of hx2 : (l.length : Int) ≠ 0)) (idxOk cel5_len hx3)) ?_
    obtain rfl := Option.some.inj h
    refine awp_wk 0 [4] (by kernel_rfl) [(4, vi (IntKind.i64.wrap x3))] [] (by kernel_rfl) (by kernel_rfl) ?_
    exact awp_ret (main_ret (by kernel_rfl))

set_option maxRecDepth 100000 in
theorem ct41 {fuel : Nat}  {p_r : S_api_CvRow} {p_x : (List Int)} {res : (List Int)} (h : F41 fuel p_r p_x = some res) : PCall Try.prog 41 [(.agg [(di p_r.Steep), (L58 p_r.Points)]), (L5 p_x)] (.d (L3 res)) := by
  refine PCall.of_awp tt_ok (N := 69) Try.func41 rfl (by kernel_rfl) rfl (Nat.le_of_ble_eq_true rfl) rfl ?_
  unfold F41 at h
  refine awp_sreg tt_ok (ks := [1, 2]) (hs := []) [(1, .d (L5 p_x)), (2, .ref 0 0)] [.cells [vi p_r.Steep, .d (L58 p_r.Points)]] [] (by kernel_rfl) trivial ?_
  refine awp_sreg tt_ok (ks := [1, 2, 5]) (hs := []) [(1, .d (L5 p_x)), (2, .ref 0 0), (5, .d dnil)] [.cells [vi p_r.Steep, .d (L58 p_r.Points)]] [] (by kernel_rfl) trivial ?_
  refine awp_seq ?_
  refine awp_sreg tt_ok (ks := [1, 2, 5, 6]) (hs := []) [(1, .d (L5 p_x)), (2, .ref 0 0), (5, .d dnil), (6, vi 0)] [.cells [vi p_r.Steep, .d (L58 p_r.Points)]] [] (by kernel_rfl) trivial ?_
  refine awp_nil 5 1 (by kernel_rfl) ?_
  refine awp_eq (T' := [(5, .sl 1 1 0 ([] : List Int).length), (1, .d (L5 p_x)), (2, .ref 0 0), (6, vi 0)]) (H' := [.cells [vi p_r.Steep, .d (L58 p_r.Points)], .data (([] : List Int).flatMap cel3)]) (by kernel_rfl) (by kernel_rfl) ?_
  refine awp_wk 2 [1, 2, 5, 6] (by kernel_rfl) [(1, .d (L5 p_x)), (2, .ref 0 0), (5, .sl 1 1 0 ([] : List Int).length), (6, vi 0)] [.cells [vi p_r.Steep, .d (L58 p_r.Points)], .data (([] : List Int).flatMap cel3)] (by kernel_rfl) (by kernel_rfl) ?_
  obtain ⟨o2, ho2, h⟩ := Option.bind_eq_some_iff.1 h
  refine awp_cut1 (OutQ (fun (ro2 : (List Int)) => [(4, .d (L3 ro2))]) (fun (ro2 : (List Int)) => []) (fun (so2 : (List Int)) => [(5, .sl 1 1 0 so2.length)]) (fun (so2 : (List Int)) => [.cells [vi p_r.Steep, .d (L58 p_r.Points)], .data (so2.flatMap cel3)]) o2) ?_ ?_
  · clear h
    have h := ho2
    clear ho2
    refine awp_selQ ?_
    refine awp_wk 2 [1, 2, 5, 6] (by kernel_rfl) [(1, .d (L5 p_x)), (2, .ref 0 0), (5, .sl 1 1 0 ([] : List Int).length), (6, vi 0)] [.cells [vi p_r.Steep, .d (L58 p_r.Points)], .data (([] : List Int).flatMap cel3)] (by kernel_rfl) (by kernel_rfl) ?_
    refine awp_block ?_
    refine awp_loop (n := fuel) ?_
    refine awpN_ind (fun n (c3 : Int × (List Int)) => F41L1 p_r p_x n c3) o2 (fun (c3 : Int × (List Int)) => [(1, .d (L5 p_x)), (2, .ref 0 0), (5, .sl 1 1 0 c3.2.length), (6, vi c3.1)]) (fun (c3 : Int × (List Int)) => [.cells [vi p_r.Steep, .d (L58 p_r.Points)], .data (c3.2.flatMap cel3)]) (fun _ => rfl) ?_ fuel (0, ([] : List Int)) h
    clear h
    intro n4 c3 h hrn4
    change F41L1 p_r p_x (n4 + 1) c3 = some o2 at h
    rw [F41L1] at h
    refine awp_seq ?_
    refine awp_sreg tt_ok (ks := [1, 2, 5, 6, 14]) (hs := []) [(1, .d (L5 p_x)), (2, .ref 0 0), (5, .sl 1 1 0 c3.2.length), (6, vi c3.1), (14, vb (decide (c3.1 < (p_r.Points.length : Int))))] [.cells [vi p_r.Steep, .d (L58 p_r.Points)], .data (c3.2.flatMap cel3)] [] (by kernel_rfl) trivial ?_
    refine awp_cond (b := (decide (c3.1 < (p_r.Points.length : Int)))) (by kernel_rfl) (fun hb5 => ?_) (fun hb5 => ?_)
    · rw [if_pos hb5] at h
      refine awp_skip ?_
      show awp _ _ _ _ _ _ _ _
      refine awp_seq ?_
      refine awp_block ?_
      obtain ⟨x6, hx6, h⟩ := Option.bind_eq_some_iff.1 h
      refine awp_sreg tt_ok (ks := [1, 2, 5, 6, 7]) (hs := [.no, .no, .no, .cells (cel58 x6)]) [(1, .d (L5 p_x)), (2, .ref 0 0), (5, .sl 1 1 0 c3.2.length), (6, vi c3.1), (7, .ref 2 0)] [.cells [vi p_r.Steep, .d (L58 p_r.Points)], .data (c3.2.flatMap cel3), .cells [vi x6.Board, vi x6.Lo, vi x6.Hi]] [IX58 p_r.Points c3.1 x6] (by kernel_rfl) (idxOk cel58_len hx6) ?_
      refine awp_sdraw tt_ok mixed (ks := [1, 2, 5, 6, 7, 8, 9]) (hs := []) 5 [1, 2, 5, 6, 7, 8, 9, 25] [(1, .d (L5 p_x)), (2, .ref 0 0), (5, .sl 1 1 0 c3.2.length), (6, vi c3.1), (7, .ref 2 0), (8, vi x6.Lo), (9, vi x6.Hi)] [.cells [vi p_r.Steep, .d (L58 p_r.Points)], .data (c3.2.flatMap cel3), .cells [vi x6.Board, vi x6.Lo, vi x6.Hi]] [] (by kernel_rfl) trivial ?_
      refine awp_seq ?_
      refine awp_sreg tt_ok (ks := [1, 2, 5, 6, 7, 8, 9, 27]) (hs := []) [(1, .d (L5 p_x)), (2, .ref 0 0), (5, .sl 1 1 0 c3.2.length), (6, vi c3.1), (7, .ref 2 0), (8, vi x6.Lo), (9, vi x6.Hi), (27, vb (decide (c3.1 > 0)))] [.cells [vi p_r.Steep, .d (L58 p_r.Points)], .data (c3.2.flatMap cel3), .cells [vi x6.Board, vi x6.Lo, vi x6.Hi]] [] (by kernel_rfl) trivial ?_
      obtain ⟨o7, ho7, h⟩ := Option.bind_eq_some_iff.1 h
      refine awp_cut1 (OutQ (fun (ro7 : (List Int)) => [(4, .d (L3 ro7))]) (fun (ro7 : (List Int)) => []) (fun (so7 : Int × Int) => [(1, .d (L5 p_x)), (2, .ref 0 0), (5, .sl 1 1 0 c3.2.length), (6, vi c3.1), (7, .ref 2 0), (8, vi so7.1), (9, vi so7.2)]) (fun (so7 : Int × Int) => [.cells [vi p_r.Steep, .d (L58 p_r.Points)], .data (c3.2.flatMap cel3), .cells [vi x6.Board, vi x6.Lo, vi x6.Hi]]) o7) ?_ ?_
      · clear h
        have h := ho7
        clear ho7
        refine awp_selQ ?_
        refine awp_cond (b := (decide (c3.1 > 0))) (by kernel_rfl) (fun hb8 => ?_) (fun hb8 => ?_)
        · rw [if_pos hb8] at h
          obtain ⟨x9, hx9, h⟩ := Option.bind_eq_some_iff.1 h
          obtain ⟨x10, hx10, h⟩ := Option.bind_eq_some_iff.1 h
          refine awp_draw (T' := [(1, .d (L5 p_x)), (2, .ref 0 0), (5, .sl 1 1 0 c3.2.length), (6, vi c3.1), (7, .ref 2 0), (8, vi (if (w64 (x9 - p_r.Steep)) > x6.Lo then (w64 (x9 - p_r.Steep)) else x6.Lo)), (9, vi (if (w64 (x10 + p_r.Steep)) < x6.Hi then (w64 (x10 + p_r.Steep)) else x6.Hi))]) (H' := [.cells [vi p_r.Steep, .d (L58 p_r.Points)], .data (c3.2.flatMap cel3), .cells [vi x6.Board, vi x6.Lo, vi x6.Hi]]) (ps := [(0 ≤ (w64 (c3.1 - 1)) ∧ (w64 (c3.1 - 1)) < (c3.2.length : Int)), LoadOk ((c3.2.flatMap cel3).map .d) (0 + (w64 (c3.1 - 1)).toNat * 1) 1 (([(di x9)] : List D).map .d), (0 ≤ (w64 (c3.1 - 1)) ∧ (w64 (c3.1 - 1)) < (c3.2.length : Int)), LoadOk ((c3.2.flatMap cel3).map .d) (0 + (w64 (c3.1 - 1)).toNat * 1) 1 (([(di x10)] : List D).map .d)]) tt_ok mixed (ks := [1, 2, 5, 6, 7, 8, 9]) (hs := [.no, .no, .no, .no, .no, .vals (([(di x9)] : List D).map .d), .no, .no, .no, .no, .no, .no, .no, .no, .no, .vals (([(di x10)] : List D).map .d)]) (m := 21) (mid := [1, 2, 5, 6, 7, 8, 9, 47]) (by kernel_rfl) (And.intro (idx_bounds hx9) (And.intro (loadOk (j := 0) (es := ([(di x9)] : List D)) cel3_len hx9 rfl rfl rfl (Nat.le_of_ble_eq_true rfl)) (And.intro (idx_bounds hx10) (loadOk (j := 0) (es := ([(di x10)] : List D)) cel3_len hx10 rfl rfl rfl (Nat.le_of_ble_eq_true rfl))))) ?_
          obtain rfl := Option.some.inj h
          exact Sel.mk [0, 1, 2] [1, 2, 5, 6, 7, 8, 9] (by kernel_rfl) (by kernel_rfl) (by kernel_rfl) OutQ.norm
        · rw [if_neg (ntrue hb8)] at h
          refine awp_skip ?_
          obtain rfl := Option.some.inj h
          exact Sel.mk [0, 1, 2] [1, 2, 5, 6, 7, 8, 9] (by kernel_rfl) (by kernel_rfl) (by kernel_rfl) OutQ.norm
      · intro e T H hq
        cases o7 with
        | inl ro7 =>
          obtain ⟨rfl, rfl, rfl⟩ := hq
          rw [outK_inl] at h
          obtain rfl := Option.some.inj h
          exact Sel.mk [] [4] (by kernel_rfl) (by kernel_rfl) (by kernel_rfl) OutQ.ret
        | inr so7 =>
          obtain ⟨rfl, rfl, rfl⟩ := hq
          rw [outK_inr] at h
          show awp _ _ _ _ _ _ _ _
          refine awp_seq ?_
          refine awp_sreg tt_ok (ks := [1, 2, 5, 6, 7, 8, 9, 50]) (hs := []) [(1, .d (L5 p_x)), (2, .ref 0 0), (5, .sl 1 1 0 c3.2.length), (6, vi c3.1), (7, .ref 2 0), (8, vi so7.1), (9, vi so7.2), (50, vb (decide (so7.1 > so7.2)))] [.cells [vi p_r.Steep, .d (L58 p_r.Points)], .data (c3.2.flatMap cel3), .cells [vi x6.Board, vi x6.Lo, vi x6.Hi]] [] (by kernel_rfl) trivial ?_
          refine awp_cond (b := (decide (so7.1 > so7.2))) (by kernel_rfl) (fun hb11 => ?_) (fun hb11 => ?_)
          · rw [if_pos hb11] at h
            refine awp_draw (T' := [(1, .d (L5 p_x)), (2, .ref 0 0), (5, .sl 1 1 0 c3.2.length), (6, vi c3.1), (8, vi x6.Lo), (9, vi x6.Lo)]) (H' := [.cells [vi p_r.Steep, .d (L58 p_r.Points)], .data (c3.2.flatMap cel3), .cells [vi x6.Board, vi x6.Lo, vi x6.Hi]]) (ps := []) tt_ok mixed (ks := [1, 2, 5, 6, 8, 9]) (hs := []) (m := 5) (mid := [1, 2, 5, 6, 8, 9, 54]) (by kernel_rfl) trivial ?_
            show awp _ _ _ _ _ _ _ _
            obtain ⟨x12, hx12, h⟩ := Option.bind_eq_some_iff.1 h
            obtain ⟨x13, hx13, h⟩ := Option.bind_eq_some_iff.1 h
            obtain ⟨x14, hx14, h⟩ := Option.bind_eq_some_iff.1 h
            refine awp_region (T' := [(1, .d (L5 p_x)), (2, .ref 0 0), (5, .sl 1 1 0 (c3.2 ++ ([(w64 (x6.Lo + (x12.tmod (w64 ((w64 (x6.Lo - x6.Lo)) + 1)))))] : List Int)).length), (6, vi c3.1)]) (H' := [.cells [vi p_r.Steep, .d (L58 p_r.Points)], .data ((c3.2 ++ ([(w64 (x6.Lo + (x12.tmod (w64 ((w64 (x6.Lo - x6.Lo)) + 1)))))] : List Int)).flatMap cel3), .cells [vi x6.Board, vi x6.Lo, vi x6.Hi]]) (ps := [PCall Try.prog 71 [(L5 p_x), (di c3.1)] (vi x12), ((w64 ((w64 (x6.Lo - x6.Lo)) + 1)) ≠ 0), AppendOk ((c3.2.flatMap cel3).map .d) c3.2.length ([(w64 (x6.Lo + (x12.tmod (w64 ((w64 (x6.Lo - x6.Lo)) + 1)))))] : List Int).length (c3.2 ++ ([(w64 (x6.Lo + (x12.tmod (w64 ((w64 (x6.Lo - x6.Lo)) + 1)))))] : List Int)).length 1 8 (([(w64 (x6.Lo + (x12.tmod (w64 ((w64 (x6.Lo - x6.Lo)) + 1)))))] : List Int).flatMap cel3) ((c3.2 ++ ([(w64 (x6.Lo + (x12.tmod (w64 ((w64 (x6.Lo - x6.Lo)) + 1)))))] : List Int)).flatMap cel3)]) tt_ok (ks := [1, 2, 5, 6]) (hs := [.no, .no, .no, .no, .call [(L5 p_x), (di c3.1)] (vi x12), .no, .no, .no, .no, .no, .no, .no, .list (c3.2 ++ ([(w64 (x6.Lo + (x12.tmod (w64 ((w64 (x6.Lo - x6.Lo)) + 1)))))] : List Int)).length ((c3.2 ++ ([(w64 (x6.Lo + (x12.tmod (w64 ((w64 (x6.Lo - x6.Lo)) + 1)))))] : List Int)).flatMap cel3)]) (by kernel_rfl) (And.intro (ct71 hx12) (And.intro ((need_of hx13 : (w64 ((w64 (x6.Lo - x6.Lo)) + 1)) ≠ 0)) (appendOk cel3_len (need_of hx14)))) ?_
            show awp _ _ _ _ _ _ _ _
            refine awp_region (T' := [(1, .d (L5 p_x)), (2, .ref 0 0), (5, .sl 1 1 0 (c3.2 ++ ([(w64 (x6.Lo + (x12.tmod (w64 ((w64 (x6.Lo - x6.Lo)) + 1)))))] : List Int)).length), (6, vi (w64 (c3.1 + 1)))]) (H' := [.cells [vi p_r.Steep, .d (L58 p_r.Points)], .data ((c3.2 ++ ([(w64 (x6.Lo + (x12.tmod (w64 ((w64 (x6.Lo - x6.Lo)) + 1)))))] : List Int)).flatMap cel3), .cells [vi x6.Board, vi x6.Lo, vi x6.Hi]]) (ps := []) tt_ok (ks := [1, 2, 5, 6]) (hs := []) (by kernel_rfl) trivial ?_
            exact awpN_wk 2 [1, 2, 5, 6] (by kernel_rfl) _ _ (by kernel_rfl) (by kernel_rfl) (hrn4 ((w64 (c3.1 + 1)), (c3.2 ++ ([(w64 (x6.Lo + (x12.tmod (w64 ((w64 (x6.Lo - x6.Lo)) + 1)))))] : List Int))) h)
          · rw [if_neg (ntrue hb11)] at h
            refine awp_skip ?_
            show awp _ _ _ _ _ _ _ _
            obtain ⟨x15, hx15, h⟩ := Option.bind_eq_some_iff.1 h
            obtain ⟨x16, hx16, h⟩ := Option.bind_eq_some_iff.1 h
            obtain ⟨x17, hx17, h⟩ := Option.bind_eq_some_iff.1 h
            refine awp_region (T' := [(1, .d (L5 p_x)), (2, .ref 0 0), (5, .sl 1 1 0 (c3.2 ++ ([(w64 (so7.1 + (x15.tmod (w64 ((w64 (so7.2 - so7.1)) + 1)))))] : List Int)).length), (6, vi c3.1)]) (H' := [.cells [vi p_r.Steep, .d (L58 p_r.Points)], .data ((c3.2 ++ ([(w64 (so7.1 + (x15.tmod (w64 ((w64 (so7.2 - so7.1)) + 1)))))] : List Int)).flatMap cel3), .cells [vi x6.Board, vi x6.Lo, vi x6.Hi]]) (ps := [PCall Try.prog 71 [(L5 p_x), (di c3.1)] (vi x15), ((w64 ((w64 (so7.2 - so7.1)) + 1)) ≠ 0), AppendOk ((c3.2.flatMap cel3).map .d) c3.2.length ([(w64 (so7.1 + (x15.tmod (w64 ((w64 (so7.2 - so7.1)) + 1)))))] : List Int).length (c3.2 ++ ([(w64 (so7.1 + (x15.tmod (w64 ((w64 (so7.2 - so7.1)) + 1)))))] : List Int)).length 1 8 (([(w64 (so7.1 + (x15.tmod (w64 ((w64 (so7.2 - so7.1)) + 1)))))] : List Int).flatMap cel3) ((c3.2 ++ ([(w64 (so7.1 + (x15.tmod (w64 ((w64 (so7.2 - so7.1)) + 1)))))] : List Int)).flatMap cel3)]) tt_ok (ks := [1, 2, 5, 6]) (hs := [.no, .no, .no, .no, .call [(L5 p_x), (di c3.1)] (vi x15), .no, .no, .no, .no, .no, .no, .no, .list (c3.2 ++ ([(w64 (so7.1 + (x15.tmod (w64 ((w64 (so7.2 - so7.1)) + 1)))))] : List Int)).length ((c3.2 ++ ([(w64 (so7.1 + (x15.tmod (w64 ((w64 (so7.2 - so7.1)) + 1)))))] : List Int)).flatMap cel3)]) (by kernel_rfl) (And.intro (ct71 hx15) (And.intro ((need_of hx16 : (w64 ((w64 (so7.2 - so7.1)) + 1)) ≠ 0)) (appendOk cel3_len (need_of hx17)))) ?_
            show awp _ _ _ _ _ _ _ _
            refine awp_region (T' := [(1, .d (L5 p_x)), (2, .ref 0 0), (5, .sl 1 1 0 (c3.2 ++ ([(w64 (so7.1 + (x15.tmod (w64 ((w64 (so7.2 - so7.1)) + 1)))))] : List Int)).length), (6, vi (w64 (c3.1 + 1)))]) (H' := [.cells [vi p_r.Steep, .d (L58 p_r.Points)], .data ((c3.2 ++ ([(w64 (so7.1 + (x15.tmod (w64 ((w64 (so7.2 - so7.1)) + 1)))))] : List Int)).flatMap cel3), .cells [vi x6.Board, vi x6.Lo, vi x6.Hi]]) (ps := []) tt_ok (ks := [1, 2, 5, 6]) (hs := []) (by kernel_rfl) trivial ?_
            exact awpN_wk 2 [1, 2, 5, 6] (by kernel_rfl) _ _ (by kernel_rfl) (by kernel_rfl) (hrn4 ((w64 (c3.1 + 1)), (c3.2 ++ ([(w64 (so7.1 + (x15.tmod (w64 ((w64 (so7.2 - so7.1)) + 1)))))] : List Int))) h)
    · rw [if_neg (ntrue hb5)] at h
      refine awp_exit ?_
      obtain rfl := Option.some.inj h
      exact Sel.mk [0, 1] [5] (by kernel_rfl) (by kernel_rfl) (by kernel_rfl) OutQ.norm
  · intro e T H hq
    cases o2 with
    | inl ro2 =>
      obtain ⟨rfl, rfl, rfl⟩ := hq
      rw [outK_inl] at h
      obtain rfl := Option.some.inj h
      exact main_ret (by kernel_rfl)
    | inr so2 =>
      obtain ⟨rfl, rfl, rfl⟩ := hq
      rw [outK_inr] at h
      show awp _ _ _ _ _ _ _ _
      refine awp_sreg tt_ok (ks := [4]) (hs := []) [(4, .sl 1 1 0 so2.length)] [.cells [vi p_r.Steep, .d (L58 p_r.Points)], .data (so2.flatMap cel3)] [] (by kernel_rfl) trivial ?_
      obtain rfl := Option.some.inj h
      refine awp_wk 2 [4] (by kernel_rfl) [(4, .sl 1 1 0 so2.length)] [.cells [vi p_r.Steep, .d (L58 p_r.Points)], .data (so2.flatMap cel3)] (by kernel_rfl) (by kernel_rfl) ?_
      refine awp_freeze 4 1 (so2.flatMap cel3) (.sl 1 1 0 so2.length) (.d (L3 so2)) _ _ (ps := [(so2.flatMap cel3).length = so2.length * 1]) (by kernel_rfl) (by kernel_rfl) (by kernel_rfl) (flatMap_len cel3 1 cel3_len so2) rfl rfl ?_
      refine awp_wk 2 [4] (by kernel_rfl) [(4, .d (L3 so2))] [.cells [vi p_r.Steep, .d (L58 p_r.Points)], .data (([] : List Int).flatMap cel3)] (by kernel_rfl) (by kernel_rfl) ?_
      exact awp_ret (main_ret (by kernel_rfl))

set_option maxRecDepth 100000 in
theorem ct42 {fuel : Nat}  {p_r : S_api_CvRow} {p_s : (List Int)} {res : Bool} (h : F42 fuel p_r p_s = some res) : PCall Try.prog 42 [(.agg [(di p_r.Steep), (L58 p_r.Points)]), (L3 p_s)] (vb res) := by
  refine PCall.of_awp tt_ok (N := 21) Try.func42 rfl (by kernel_rfl) rfl (Nat.le_of_ble_eq_true rfl) rfl ?_
  unfold F42 at h
  refine awp_sreg tt_ok (ks := [1, 2]) (hs := []) [(1, .d (L3 p_s)), (2, .ref 0 0)] [.cells [vi p_r.Steep, .d (L58 p_r.Points)]] [] (by kernel_rfl) trivial ?_
  obtain ⟨x1, hx1, h⟩ := Option.bind_eq_some_iff.1 h
  refine awp_sreg tt_ok (ks := [1, 2, 6]) (hs := [.no, .no, .call [(.agg [(di p_r.Steep), (L58 p_r.Points)]), (L3 p_s)] (.tup [vi x1.1, vi x1.2])]) [(1, .d (L3 p_s)), (2, .ref 0 0), (6, vi x1.2)] [.cells [vi p_r.Steep, .d (L58 p_r.Points)]] [PCall Try.prog 61 [(.agg [(di p_r.Steep), (L58 p_r.Points)]), (L3 p_s)] (.tup [vi x1.1, vi x1.2])] (by kernel_rfl) (ct61 hx1) ?_
  obtain ⟨x2, hx2, h⟩ := Option.bind_eq_some_iff.1 h
  refine awp_sreg tt_ok (ks := [4]) (hs := [.no, .no, .call [(.agg [(di p_r.Steep), (L58 p_r.Points)]), (L3 p_s)] (vi x2)]) [(4, vb (cond (x2 == 0) (x1.2 == 0) false))] [.cells [vi p_r.Steep, .d (L58 p_r.Points)]] [PCall Try.prog 60 [(.agg [(di p_r.Steep), (L58 p_r.Points)]), (L3 p_s)] (vi x2), ((x2 == 0) = true → (x2 == 0) = true), ((x2 == 0) = true → (x2 == 0) = true)] (by kernel_rfl) (And.intro (ct60 hx2) (And.intro (id) (id))) ?_
  obtain rfl := Option.some.inj h
  refine awp_wk 1 [4] (by kernel_rfl) [(4, vb (cond (x2 == 0) (x1.2 == 0) false))] [.cells [vi p_r.Steep, .d (L58 p_r.Points)]] (by kernel_rfl) (by kernel_rfl) ?_
  exact awp_ret (main_ret (by kernel_rfl))
end Go.Proofs.Ytadejgckgnbaoaa
